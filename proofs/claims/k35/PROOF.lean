import PyProof.Rows.All
import Wide.All
import OpenK.AllK
import Wide.FinOn
import HandS.ForMost
import HandS.ForExc
import HandS.Wide
import HandS.Flow
import HandS.Defaults
import HandS.Iter
import PyProof.ReprRoads
import HandS.IsInst
import HandS.RaiseMore
import PyProof.ReprLen
import HandS.ExcIs
import PyProof.EqKinds
import HandS.Style
import HandS.SetFor
import HandS.WideBits
import HandS.SortInts
import HandS.TryOnly
import KE.KExcIs
import HandS.ExcField
import KE.KRevSl
import HandS.Small
import HandS.Conv
import HandS.TupAny
import KE.GoesEnum
import HandS.Strs
import HandS.Zip
import HandS.ListItems
import KE.KDictZip
import HandS.More
import PyProof.Rows.StrMeet
import HandS.Deep
import HandS.DictComp
import KE.KEqNest
import HandS.ListEq
import PyProof.NeKinds
import KE.DataMinMax
import KE.KUnpackStar
import HandS.ExcValue
import HandS.Text
import HandS.ExcInit
import HandS.SetBool
import KE.GoesZip
import HandS.FStr
import HandS.TupMul
import PyProof.Rows.FactsExc_KeyError
import PyProof.ExcBaseAll.LookupError
import HandS.Dict
import HandS.SortRule
import PyProof.Rows.FactsExc_LookupError
import PySem.Challenge.RW_boundgate_k35_no_inputs
set_option Elab.async false
set_option autoImplicit false
set_option linter.all false
set_option maxRecDepth 100000
set_option maxHeartbeats 4000000
namespace DL
open PySem L2

/-- a name of the module that stands for a class, or a def -/
def ClsK (K : PySem.W.Frag) (n : Str) (C : Addr) : Prop := PySem.W.nsIn K mainGlobals n = some (some (.ref C))
/-! ### plain data -/
inductive D where
  | non | bl (b : Bool) | int (i : Int) | str (s : Str)
  | lst (ds : List D) | slst (ds : List D) | tup (ds : List D) | dic (kvs : List (Key × D))
  | ref (a : Addr) | ty (n : String) | cel (k : Nat) | fn (f : Str) | dicB (b : Bool) (d : D)

abbrev AsM := Nat → Option Addr
/-- a dict of one key, a truth -/
def BdOb (a : Addr) (od : Obj) (e : DictEntry) (ep : Nat) (b : Bool) (v : V) : Prop := od.ExactDict ∧ (a == sysModules) = false ∧ od.data = .dict #[e] ep ∧ e.key = .bool b ∧ RelV v e.val

mutual
inductive Rp (K : PySem.W.Frag) (as : AsM) (H : Hp) : V → D → Prop
  | non : Rp K as H .non .non
  | bl (b : Bool) : Rp K as H (.bl b) (.bl b)
  | int (i : Int) : Rp K as H (.int i) (.int i)
  | str (x : Str) : Rp K as H (.str x) (.str x)
  | lst {a : Addr} {xs : List V} {ds : List D} : H a = some (.lst xs) → RpA K as H xs ds → Rp K as H (.ref a) (.lst ds)
  | slst {a : Addr} {xs : List V} {ds : List D} : SqL K H a xs → RpA K as H xs ds → Rp K as H (.ref a) (.slst ds)
  | tup {a : Addr} {xs : List V} {ds : List D} : SqT K H a xs → RpA K as H xs ds → Rp K as H (.ref a) (.tup ds)
  | dic {a : Addr} {od : Obj} {xs : List (Key × V)} {ds : List (Key × D)} : H a = some (.frz od (.dK xs)) → RpK K as H xs ds → Rp K as H (.ref a) (.dic ds)
  | ref (a : Addr) : Rp K as H (.ref a) (.ref a)
  | ty (n : String) : Rp K as H (.ty n) (.ty n)
  | cel {k : Nat} {p : Addr} : as k = some p → Rp K as H (.ref p) (.cel k)
  | fn {f : Str} {p : Addr} : ClsK K f p → Rp K as H (.ref p) (.fn f)
  | dicB {a : Addr} {od : Obj} {e : DictEntry} {ep : Nat} {b : Bool} {v : V} {d : D} : H a = some (.frz od (.ext fun _ => True)) → BdOb a od e ep b v → Rp K as H v d → Rp K as H (.ref a) (.dicB b d)
inductive RpA (K : PySem.W.Frag) (as : AsM) (H : Hp) : List V → List D → Prop
  | nil : RpA K as H [] []
  | cons {v : V} {vs : List V} {d : D} {ds : List D} : Rp K as H v d → RpA K as H vs ds → RpA K as H (v :: vs) (d :: ds)
inductive RpK (K : PySem.W.Frag) (as : AsM) (H : Hp) : List (Key × V) → List (Key × D) → Prop
  | nil : RpK K as H [] []
  | cons {k : Key} {v : V} {vs : List (Key × V)} {d : D} {ds : List (Key × D)} : Rp K as H v d → RpK K as H vs ds → RpK K as H ((k, v) :: vs) ((k, d) :: ds)
end

structure Le (as : AsM) (H : Hp) (as' : AsM) (H' : Hp) : Prop where
  hp : ∀ a o, H a = some o → H' a = some o
  am : ∀ k p, as k = some p → as' k = some p
theorem Le.refl {as : AsM} {H : Hp} : Le as H as H := ⟨fun _ _ h => h, fun _ _ h => h⟩
theorem Le.trans {as as1 as2 : AsM} {H H1 H2 : Hp} (a : Le as H as1 H1) (b : Le as1 H1 as2 H2) : Le as H as2 H2 :=
  ⟨fun x o h => b.hp x o (a.hp x o h), fun x o h => b.am x o (a.am x o h)⟩
theorem seqL_mono {K : PySem.W.Frag} {H H' : Hp} {a : Addr} {xs : List V} (e : ∀ a o, H a = some o → H' a = some o) (h : SqL K H a xs) : SqL K H' a xs := by
  rcases h with (h | ⟨o, h⟩) | h
  · exact .inl (.inl (e _ _ h))
  · exact .inl (.inr ⟨o, e _ _ h⟩)
  · exact .inr h
theorem seqT_mono {K : PySem.W.Frag} {H H' : Hp} {a : Addr} {xs : List V} (e : ∀ a o, H a = some o → H' a = some o) (h : SqT K H a xs) : SqT K H' a xs := by
  rcases h with (h | ⟨o, h⟩) | h
  · exact .inl (.inl (e _ _ h))
  · exact .inl (.inr ⟨o, e _ _ h⟩)
  · exact .inr h
section
variable {K : PySem.W.Frag} {as as' : AsM} {H H' : Hp}
mutual
theorem Rp.mono (l : Le as H as' H') : ∀ {d : D} {v : V}, Rp K as H v d → Rp K as' H' v d
  | .non, _, h => by cases h; exact .non
  | .bl _, _, h => by cases h; exact .bl _
  | .int _, _, h => by cases h; exact .int _
  | .str _, _, h => by cases h; exact .str _
  | .lst ds, _, h => by cases h with | lst h1 h2 => exact .lst (l.hp _ _ h1) (RpA.mono l h2)
  | .slst ds, _, h => by cases h with | slst h1 h2 => exact .slst (seqL_mono l.hp h1) (RpA.mono l h2)
  | .tup ds, _, h => by cases h with | tup h1 h2 => exact .tup (seqT_mono l.hp h1) (RpA.mono l h2)
  | .dic ds, _, h => by cases h with | dic h1 h2 => exact .dic (l.hp _ _ h1) (RpK.mono l h2)
  | .ref _, _, h => by cases h; exact .ref _
  | .ty _, _, h => by cases h; exact .ty _
  | .cel _, _, h => by cases h with | cel h1 => exact .cel (l.am _ _ h1)
  | .fn _, _, h => by cases h with | fn h1 => exact .fn h1
  | .dicB _ _, _, h => by cases h with | dicB h1 h2 h3 => exact .dicB (l.hp _ _ h1) h2 (Rp.mono l h3)
theorem RpA.mono (l : Le as H as' H') : ∀ {ds : List D} {vs : List V}, RpA K as H vs ds → RpA K as' H' vs ds
  | [], _, h => by cases h; exact .nil
  | d :: ds, _, h => by cases h with | cons h1 h2 => exact .cons (Rp.mono l h1) (RpA.mono l h2)
theorem RpK.mono (l : Le as H as' H') : ∀ {ds : List (Key × D)} {vs : List (Key × V)}, RpK K as H vs ds → RpK K as' H' vs ds
  | [], _, h => by cases h; exact .nil
  | (k, d) :: ds, _, h => by cases h with | cons h1 h2 => exact .cons (Rp.mono l h1) (RpK.mono l h2)
end
theorem RpA.length : ∀ {ds : List D} {vs : List V}, RpA K as H vs ds → vs.length = ds.length
  | [], _, h => by cases h; rfl
  | d :: ds, _, h => by cases h with | cons h1 h2 => exact congrArg Nat.succ (RpA.length h2)
theorem RpA.append : ∀ {ds es : List D} {vs us : List V}, RpA K as H vs ds → RpA K as H us es → RpA K as H (vs ++ us) (ds ++ es)
  | [], _, _, _, h, g => by cases h; exact g
  | d :: ds, _, _, _, h, g => by cases h with | cons h1 h2 => exact .cons h1 (RpA.append h2 g)
theorem RpA.get : ∀ {ds : List D} {vs : List V} {i : Nat} {d : D}, RpA K as H vs ds → ds[i]? = some d → ∃ v, vs[i]? = some v ∧ Rp K as H v d
  | [], _, i, _, h, e => by simp at e
  | d :: ds, _, 0, _, h, e => by cases h with | cons h1 h2 => simp at e; subst e; exact ⟨_, rfl, h1⟩
  | d :: ds, _, i + 1, _, h, e => by
    cases h with
    | cons h1 h2 =>
      obtain ⟨v, q, r⟩ := RpA.get (i := i) h2 (by simpa using e)
      exact ⟨v, by simpa using q, r⟩
theorem RpA.set : ∀ {ds : List D} {vs : List V} {v : V} {d : D} (i : Nat), RpA K as H vs ds → Rp K as H v d → RpA K as H (vs.set i v) (ds.set i d)
  | [], _, _, _, i, h, r => by cases h; exact .nil
  | d :: ds, _, _, _, 0, h, r => by cases h with | cons h1 h2 => exact .cons r h2
  | d :: ds, _, _, _, i + 1, h, r => by cases h with | cons h1 h2 => exact .cons h1 (RpA.set i h2 r)
theorem RpA.take : ∀ {ds : List D} {vs : List V} (n : Nat), RpA K as H vs ds → RpA K as H (vs.take n) (ds.take n)
  | _, _, 0, _ => .nil
  | [], _, n + 1, h => by cases h; exact .nil
  | d :: ds, _, n + 1, h => by cases h with | cons h1 h2 => exact .cons h1 (RpA.take n h2)
theorem RpA.drop : ∀ {ds : List D} {vs : List V} (n : Nat), RpA K as H vs ds → RpA K as H (vs.drop n) (ds.drop n)
  | _, _, 0, h => h
  | [], _, n + 1, h => by cases h; exact .nil
  | d :: ds, _, n + 1, h => by cases h with | cons h1 h2 => exact RpA.drop n h2
theorem RpA.ints : ∀ {ns : List Int}, RpA K as H (ns.map V.int) (ns.map D.int)
  | [] => .nil
  | n :: ns => .cons (.int n) RpA.ints
end

/-- what flies: the class by its name, its fields where it has its own dict -/
structure DX where
  cls : Str
  fs : Option (List (Str × D))
inductive XD (K : PySem.W.Frag) (as : AsM) (H0 : Hp) : DX → Option Addr → Prop
  | no (C : Str) : XD K as H0 ⟨C, none⟩ none
  | fs {C : Str} {d : Addr} {vs : List (Str × V)} {ds : List (Str × D)} : H0 d = some (.xd vs) → Paired (fun (p : Str × V) (q : Str × D) => p.1 = q.1 ∧ Rp K as H0 p.2 q.2) vs ds → XD K as H0 ⟨C, some ds⟩ (some d)
theorem XD.mono {K : PySem.W.Frag} {as as' : AsM} {H H' : Hp} {x : DX} {d : Option Addr} (l : Le as H as' H') (h : XD K as H x d) : XD K as' H' x d := by
  cases h with
  | no => exact .no _
  | fs h1 h2 => exact .fs (l.hp _ _ h1) (L2.Paired.mapP h2 fun _ _ z => ⟨z.1, z.2.mono l⟩)
/-- an exception that is kept -/
def ExH (cls : Value) (d : Option Addr) (a : Addr) : HO := .ext fun h => ∃ oe : Obj, h.get? a = some oe ∧ Zc cls d oe ∧ ∃ vs, oe.data = .fields vs
/-! ### the mini heap of things that change -/
inductive Co where
  | lst (ds : List D) | dic (kvs : List (Key × D)) | ins (n : Str) (fs : List (Str × D)) | fdic (od : Obj) (vs : List (Key × V)) (kvs : List (Key × D)) | exc (x : DX) | any (u : HO)
abbrev Cells := Nat → Option Co
def put (cs : Cells) (k : Nat) (o : Co) : Cells := fun j => if j = k then some o else cs j
def del (cs : Cells) (k : Nat) : Cells := fun j => if j = k then none else cs j
@[simp] theorem put_same {cs : Cells} {k : Nat} {o : Co} : put cs k o k = some o := if_pos rfl
theorem put_ne {cs : Cells} {k j : Nat} {o : Co} (h : j ≠ k) : put cs k o j = cs j := if_neg h
@[simp] theorem put_put {cs : Cells} {k : Nat} {o u : Co} : put (put cs k o) k u = put cs k u := by
  funext j; unfold put; split <;> rfl
theorem del_put {cs : Cells} {k : Nat} {o : Co} (h : cs k = none) : del (put cs k o) k = cs := by
  funext j
  show (if j = k then none else (if j = k then some o else cs j)) = cs j
  by_cases e : j = k
  · rw [if_pos e, e]; exact h.symm
  · rw [if_neg e, if_neg e]
inductive RpC (K : PySem.W.Frag) (as : AsM) (H0 : Hp) : Addr → HO → Co → Prop
  | lst {p : Addr} {vs : List V} {ds : List D} : RpA K as H0 vs ds → RpC K as H0 p (.lst vs) (.lst ds)
  | dic {p : Addr} {vs : List (Key × V)} {ds : List (Key × D)} : RpK K as H0 vs ds → RpC K as H0 p (.dK vs) (.dic ds)
  | ins {p C dx : Addr} {n : Str} {vs : List (Str × V)} {ds : List (Str × D)} : ClsK K n C → Paired (fun (p : Str × V) (q : Str × D) => p.1 = q.1 ∧ Rp K as H0 p.2 q.2) vs ds → RpC K as H0 p (.ins C dx vs) (.ins n ds)
  | fdic {p : Addr} {od : Obj} {vs : List (Key × V)} {ds : List (Key × D)} : RpK K as H0 vs ds → RpC K as H0 p (.frz od (.dK vs)) (.fdic od vs ds)
  | exc {p : Addr} {x : DX} {C : Addr} {d : Option Addr} : XD K as H0 x d → ClsK K x.cls C → RpC K as H0 p (ExH (.ref C) d p) (.exc x)
  | any {p : Addr} {u : HO} : RpC K as H0 p u (.any u)
theorem RpC.mono {K : PySem.W.Frag} {as as' : AsM} {H H' : Hp} {p : Addr} {u : HO} {o : Co} (l : Le as H as' H') (h : RpC K as H p u o) : RpC K as' H' p u o := by
  cases h with
  | lst h => exact .lst (h.mono l)
  | dic h => exact .dic (h.mono l)
  | fdic h => exact .fdic (h.mono l)
  | exc h h' => exact .exc (h.mono l) h'
  | any => exact .any
  | ins hc h => exact .ins hc (L2.Paired.mapP h fun _ _ z => ⟨z.1, z.2.mono l⟩)

structure Z where
  env : List (Option D)
  cs : Cells

/-- the heap side -/
structure OkC (K : PySem.W.Frag) (as : AsM) (H0 H : Hp) (cs : Cells) : Prop where
  ex : ∀ a o, H0 a = some o → H a = some o
  fin : ∃ n, ∀ k, n ≤ k → as k = none
  cel : ∀ k o, cs k = some o → ∃ p u, as k = some p ∧ H0 p = none ∧ H p = some u ∧ RpC K as H0 p u o
  inj : ∀ k k' p, as k = some p → as k' = some p → cs k ≠ none → cs k' ≠ none → k = k'
/-- the names' side -/
structure OkE (K : PySem.W.Frag) (as : AsM) (H0 : Hp) (σ : L2.St) (env : List (Option D)) : Prop where
  len : env.length = σ.length
  at_ : ∀ (i : Nat) (d : D), env[i]? = some (some d) → ∃ v, σ[i]? = some (some v) ∧ Rp K as H0 v d
structure Ok (K : PySem.W.Frag) (as : AsM) (H0 H : Hp) (σ : L2.St) (z : Z) : Prop where
  c : OkC K as H0 H z.cs
  e : OkE K as H0 σ z.env
theorem OkE.mono {K : PySem.W.Frag} {as as' : AsM} {H H' : Hp} {σ : L2.St} {env : List (Option D)} (l : Le as H as' H') (h : OkE K as H σ env) : OkE K as' H' σ env :=
  ⟨h.len, fun i d e => let ⟨v, a, b⟩ := h.at_ i d e; ⟨v, a, b.mono l⟩⟩
theorem OkE.set {K : PySem.W.Frag} {as : AsM} {H : Hp} {σ : L2.St} {env : List (Option D)} {v : V} {d : D} (h : OkE K as H σ env) (i : Nat) (r : Rp K as H v d) : OkE K as H (σ.set i (some v)) (env.set i (some d)) := by
  refine ⟨by rw [List.length_set, List.length_set]; exact h.len, fun j e hj => ?_⟩
  by_cases hij : i = j
  · subst hij
    have hlt : i < env.length := by
      rcases Nat.lt_or_ge i env.length with q | q
      · exact q
      · rw [List.getElem?_eq_none (by rw [List.length_set]; exact q)] at hj; cases hj
    rw [List.getElem?_set_self hlt] at hj
    cases hj
    exact ⟨v, by rw [List.getElem?_set_self (by rw [← h.len]; exact hlt)], r⟩
  · rw [List.getElem?_set_ne hij] at hj
    obtain ⟨v', a, b⟩ := h.at_ j e hj
    exact ⟨v', by rw [List.getElem?_set_ne hij]; exact a, b⟩
/-- the world grows by a known thing -/
theorem OkC.grow {K : PySem.W.Frag} {as : AsM} {H0 H : Hp} {cs : Cells} {p : Addr} {o : HO} (h : OkC K as H0 H cs) (hp : H p = none) : Le as H0 as (upd H0 p o) ∧ OkC K as (upd H0 p o) (upd H p o) cs := by
  have n0 : H0 p = none := by
    cases q : H0 p with
    | none => rfl
    | some u => rw [h.ex p u q] at hp; cases hp
  have l : Le as H0 as (upd H0 p o) := ⟨fun a u e => by rw [upd_ne (ne_of_none e n0)]; exact e, fun _ _ e => e⟩
  refine ⟨l, ⟨fun a u e => ?_, h.fin, fun k u e => ?_, h.inj⟩⟩
  · by_cases q : a = p
    · subst q; rw [upd_same] at e ⊢; exact e
    · rw [upd_ne q] at e ⊢; exact h.ex a u e
  · obtain ⟨p', u', h1, h2, h3, h4⟩ := h.cel k u e
    have ne : p' ≠ p := ne_of_none h3 hp
    exact ⟨p', u', h1, by rw [upd_ne ne]; exact h2, by rw [upd_ne ne]; exact h3, h4.mono l⟩
/-- a new thing that may change -/
theorem OkC.cell {K : PySem.W.Frag} {as : AsM} {H0 H : Hp} {cs : Cells} {p : Addr} {u : HO} {o : Co} (h : OkC K as H0 H cs) (hp : H p = none) (r : RpC K as H0 p u o) :
    ∃ k as', cs k = none ∧ Le as H0 as' H0 ∧ OkC K as' H0 (upd H p u) (put cs k o) ∧ as' k = some p := by
  obtain ⟨n, hn⟩ := h.fin
  have an : as n = none := hn n (Nat.le_refl _)
  have n0 : H0 p = none := by
    cases q : H0 p with
    | none => rfl
    | some u => rw [h.ex p u q] at hp; cases hp
  have cn : cs n = none := by
    cases q : cs n with
    | none => rfl
    | some u => obtain ⟨p', _, h1, _⟩ := h.cel n u q; rw [an] at h1; cases h1
  have l : Le as H0 (fun k => if k = n then some p else as k) H0 := ⟨fun _ _ e => e, fun k q e => by
    have : k ≠ n := fun z => by subst z; rw [an] at e; cases e
    show (if k = n then some p else as k) = _
    rw [if_neg this]; exact e⟩
  refine ⟨n, _, cn, l, ⟨fun a u e => ?_, ⟨n + 1, fun k hk => ?_⟩, fun k u e => ?_, fun k k' q e1 e2 c1 c2 => ?_⟩, if_pos rfl⟩
  · rw [upd_ne (ne_of_none e n0)]; exact h.ex a u e
  · show (if k = n then some p else as k) = none
    rw [if_neg (by omega)]; exact hn k (by omega)
  · by_cases q : k = n
    · subst q
      rw [put_same] at e; cases e
      exact ⟨p, _, if_pos rfl, n0, upd_same, r.mono l⟩
    · rw [put_ne q] at e
      obtain ⟨p', u', h1, h2, h3, h4⟩ := h.cel k u e
      exact ⟨p', u', by rw [if_neg q]; exact h1, h2, by rw [upd_ne (ne_of_none h3 hp)]; exact h3, h4.mono l⟩
  · have old : ∀ j q', j ≠ n → put cs n o j ≠ none → as j = some q' → q' ≠ p := fun j q' hj c e z => by
      subst z
      rw [put_ne hj] at c
      cases w : cs j with
      | none => exact c w
      | some u =>
        obtain ⟨p', _, h1, _, h3, _⟩ := h.cel j u w
        rw [e] at h1; cases h1
        rw [hp] at h3; cases h3
    by_cases q1 : k = n
    · by_cases q2 : k' = n
      · rw [q1, q2]
      · rw [if_pos q1] at e1; rw [if_neg q2] at e2
        cases e1
        exact absurd rfl (old k' p q2 c2 e2)
    · by_cases q2 : k' = n
      · rw [if_pos q2] at e2; rw [if_neg q1] at e1
        cases e2
        exact absurd rfl (old k p q1 c1 e1)
      · rw [if_neg q1] at e1; rw [if_neg q2] at e2
        rw [put_ne q1] at c1; rw [put_ne q2] at c2
        exact h.inj k k' q e1 e2 c1 c2
/-- such a thing turns -/
theorem OkC.turn {K : PySem.W.Frag} {as : AsM} {H0 H : Hp} {cs : Cells} {k : Nat} {p : Addr} {u : HO} {o o0 : Co} (h : OkC K as H0 H cs) (hk : cs k = some o0) (hp : as k = some p) (r : RpC K as H0 p u o) :
    OkC K as H0 (upd H p u) (put cs k o) := by
  obtain ⟨p', u', h1, n0, h3, _⟩ := h.cel k o0 hk
  rw [hp] at h1; cases h1
  refine ⟨fun a w e => ?_, h.fin, fun j w e => ?_, fun j j' q e1 e2 c1 c2 => ?_⟩
  · rw [upd_ne (ne_of_none e n0)]; exact h.ex a w e
  · by_cases q : j = k
    · subst q
      rw [put_same] at e; cases e
      exact ⟨p, _, hp, n0, upd_same, r⟩
    · rw [put_ne q] at e
      obtain ⟨p', u', g1, g2, g3, g4⟩ := h.cel j w e
      have ne : p' ≠ p := fun z => by
        subst z
        exact q (h.inj j k p' g1 hp (by rw [e]; simp) (by rw [hk]; simp))
      exact ⟨p', u', g1, g2, by rw [upd_ne ne]; exact g3, g4⟩
  · have low : ∀ j, put cs k o j ≠ none → cs j ≠ none := fun j c => by
      by_cases q : j = k
      · subst q; rw [hk]; simp
      · rw [put_ne q] at c; exact c
    exact h.inj j j' q e1 e2 (low j c1) (low j' c2)
/-- it becomes a thing that is known for good -/
theorem OkC.freeze {K : PySem.W.Frag} {as : AsM} {H0 H : Hp} {cs : Cells} {k : Nat} {p : Addr} {u : HO} {o : Co} (h : OkC K as H0 H cs) (hk : cs k = some o) (hp : as k = some p) (hu : H p = some u) :
    Le as H0 as (upd H0 p u) ∧ OkC K as (upd H0 p u) H (del cs k) := by
  obtain ⟨p', u', h1, n0, h3, _⟩ := h.cel k o hk
  rw [hp] at h1; cases h1
  have l : Le as H0 as (upd H0 p u) := ⟨fun a w e => by rw [upd_ne (ne_of_none e n0)]; exact e, fun _ _ e => e⟩
  have low : ∀ j, del cs k j ≠ none → j ≠ k ∧ cs j ≠ none := fun j c => by
    by_cases q : j = k
    · exact absurd (if_pos q) c
    · unfold del at c; rw [if_neg q] at c; exact ⟨q, c⟩
  refine ⟨l, ⟨fun a w e => ?_, h.fin, fun j w e => ?_, fun j j' q e1 e2 c1 c2 => h.inj j j' q e1 e2 (low j c1).2 (low j' c2).2⟩⟩
  · by_cases q : a = p
    · subst q; rw [upd_same] at e; rw [← e]; exact hu
    · rw [upd_ne q] at e; exact h.ex a w e
  · have q := (low j (by rw [e]; simp)).1
    have e' : cs j = some w := by unfold del at e; rw [if_neg q] at e; exact e
    obtain ⟨p', u', g1, g2, g3, g4⟩ := h.cel j w e'
    have ne : p' ≠ p := fun z => by
      subst z
      exact q (h.inj j k p' g1 hp (by rw [e']; simp) (by rw [hk]; simp))
    exact ⟨p', u', g1, by rw [upd_ne ne]; exact g2, g3, g4.mono l⟩

/-- what stands in a cell for good, in another form -/
theorem OkC.freezeZ {K : PySem.W.Frag} {as : AsM} {H0 H : Hp} {cs : Cells} {k : Nat} {p : Addr} {u : HO} {o : Co} (h : OkC K as H0 H cs) (hk : cs k = some o) (hp : as k = some p) :
    Le as H0 as (upd H0 p u) ∧ OkC K as (upd H0 p u) (upd H p u) (del cs k) := by
  obtain ⟨p', u', h1, n0, h3, _⟩ := h.cel k o hk
  rw [hp] at h1; cases h1
  have l : Le as H0 as (upd H0 p u) := ⟨fun a w e => by rw [upd_ne (ne_of_none e n0)]; exact e, fun _ _ e => e⟩
  have low : ∀ j, del cs k j ≠ none → j ≠ k ∧ cs j ≠ none := fun j c => by
    by_cases q : j = k
    · exact absurd (if_pos q) c
    · unfold del at c; rw [if_neg q] at c; exact ⟨q, c⟩
  refine ⟨l, ⟨fun a w e => ?_, h.fin, fun j w e => ?_, fun j j' q e1 e2 c1 c2 => h.inj j j' q e1 e2 (low j c1).2 (low j' c2).2⟩⟩
  · by_cases q : a = p
    · subst q; rw [upd_same] at e ⊢; exact e
    · rw [upd_ne q] at e ⊢; exact h.ex a w e
  · have q := (low j (by rw [e]; simp)).1
    have e' : cs j = some w := by unfold del at e; rw [if_neg q] at e; exact e
    obtain ⟨p', u', g1, g2, g3, g4⟩ := h.cel j w e'
    have ne : p' ≠ p := fun z => by
      subst z
      exact q (h.inj j k p' g1 hp (by rw [e']; simp) (by rw [hk]; simp))
    exact ⟨p', u', g1, by rw [upd_ne ne]; exact g2, by rw [upd_ne ne]; exact g3, g4.mono l⟩

/-! ### what is said of code -/
abbrev DE := Z → (D → Z → Prop) → Prop
abbrev DA := Z → (List D → Z → Prop) → Prop
abbrev DT := Z → (Bool → Z → Prop) → Prop
structure DEnds where
  nx : Z → Prop
  rt : D → Cells → Prop
  bk : Z → Prop := fun _ => False
  ct : Z → Prop := fun _ => False
  xx : DX → Z → Prop := fun _ _ => False
abbrev DS := DEnds → Z → Prop

def lift (K : PySem.W.Frag) (de : DE) : TE := fun σ H Q => ∃ as H0 c R, Ok K as H0 H σ c ∧ de c R ∧
  ∀ as' H0' H' c' v d, Le as H0 as' H0' → Ok K as' H0' H' σ c' → Rp K as' H0' v d → R d c' → Q v H'
def liftA (K : PySem.W.Frag) (da : DA) : TA := fun σ H Q => ∃ as H0 c R, Ok K as H0 H σ c ∧ da c R ∧
  ∀ as' H0' H' c' vs ds, Le as H0 as' H0' → Ok K as' H0' H' σ c' → RpA K as' H0' vs ds → R ds c' → Q vs H'
def liftT (K : PySem.W.Frag) (dt : DT) : TT := fun σ H Q => ∃ as H0 c R, Ok K as H0 H σ c ∧ dt c R ∧
  ∀ as' H0' H' c' b, Le as H0 as' H0' → Ok K as' H0' H' σ c' → R b c' → Q b H'
/-- a wish of the low side about what flies, kept by one of ours -/
def Tie (K : PySem.W.Frag) (mg : Str → Option Value) (as : AsM) (H0 : Hp) (xx : DX → Z → Prop) (W : WX) : Prop :=
  ∀ as' H0' H' σ' c' x d C, Le as H0 as' H0' → Ok K as' H0' H' σ' c' → XD K as' H0' x d → mg x.cls = some (.ref C) → xx x c' → W (.ref C) d σ' H'
theorem Tie.mono {K : PySem.W.Frag} {mg : Str → Option Value} {as as1 : AsM} {H0 H1 : Hp} {xx : DX → Z → Prop} {W : WX} (h : Tie K mg as H0 xx W) (l : Le as H0 as1 H1) : Tie K mg as1 H1 xx W :=
  fun _ _ _ _ _ _ _ _ l' o q e z => h _ _ _ _ _ _ _ _ (l.trans l') o q e z
structure Exits (K : PySem.W.Frag) (mg : Str → Option Value) (W : WX) (as : AsM) (H0 : Hp) (DD : DEnds) (Dn : Ends) : Prop where
  nx : ∀ as' H0' H' σ' c', Le as H0 as' H0' → Ok K as' H0' H' σ' c' → DD.nx c' → Dn.nx σ' H'
  bk : ∀ as' H0' H' σ' c', Le as H0 as' H0' → Ok K as' H0' H' σ' c' → DD.bk c' → Dn.bk σ' H'
  ct : ∀ as' H0' H' σ' c', Le as H0 as' H0' → Ok K as' H0' H' σ' c' → DD.ct c' → Dn.ct σ' H'
  rt : ∀ as' H0' H' cs' v d, Le as H0 as' H0' → OkC K as' H0' H' cs' → Rp K as' H0' v d → DD.rt d cs' → Dn.rt v H'
  xx : Tie K mg as H0 DD.xx W
theorem Exits.mono {K : PySem.W.Frag} {mg : Str → Option Value} {W : WX} {as as1 : AsM} {H0 H1 : Hp} {DD : DEnds} {Dn : Ends} (h : Exits K mg W as H0 DD Dn) (l : Le as H0 as1 H1) : Exits K mg W as1 H1 DD Dn :=
  ⟨fun _ _ _ _ _ l' o q => h.nx _ _ _ _ _ (l.trans l') o q, fun _ _ _ _ _ l' o q => h.bk _ _ _ _ _ (l.trans l') o q, fun _ _ _ _ _ l' o q => h.ct _ _ _ _ _ (l.trans l') o q, fun _ _ _ _ _ _ l' o r q => h.rt _ _ _ _ _ _ (l.trans l') o r q, h.xx.mono l⟩
def liftS (K : PySem.W.Frag) (mg : Str → Option Value) (W : WX) (ds : DS) : TS := fun Dn σ H => ∃ as H0 c DD, Ok K as H0 H σ c ∧ ds DD c ∧ Exits K mg W as H0 DD Dn

abbrev PD (X : Cx) (e : Expr) (de : DE) : Prop := PE X e (lift X.K de)
abbrev PDA (X : Cx) (es : List Expr) (da : DA) : Prop := PA X es (liftA X.K da)
abbrev PDT (X : Cx) (e : Expr) (dt : DT) : Prop := PT X e (liftT X.K dt)
abbrev PDW (X : Cx) (e : Expr) (dt : DT) : Prop := PW X e (liftT X.K dt)
abbrev PDS (X : Cx) (st : Stmt) (ds : DS) : Prop := ∀ W : WX, Takes X W → PS X st (liftS X.K X.mg W ds)
abbrev PDB (X : Cx) (sts : List Stmt) (ds : DS) : Prop := ∀ W : WX, Takes X W → PSs X sts (liftS X.K X.mg W ds)

section
variable {X : Cx}
theorem pe_imp {e : Expr} {t t' : TE} (h : PE X e t) (i : ∀ σ H Q, t' σ H Q → t σ H Q) : PE X e t' := ⟨fun pins s σ H Q I q => h.run pins s σ H Q I (i σ H Q q)⟩
/-- what an expression gives is locked for good -/
theorem pe_frz {e : Expr} {t : TE} (h : PE X e t) : PE X e (fun σ H Q => t σ H fun v H1 => ∃ d u, v = .ref d ∧ H1 d = some u ∧ Mut (some u) ∧ ∀ od, Q v (upd H1 d (.frz od u))) := by
  refine ⟨fun pins s σ H Q I q => thn (h.run pins s σ H _ I q) fun v s1 ⟨x, H1, I1, r, d, u, ev, hd, mu, q1⟩ => ?_⟩
  obtain ⟨od, I2⟩ := I1.lock hd mu
  exact ⟨x, _, I2, r, q1 od⟩
theorem upd_upd {H : Hp} {p : Addr} {o u : HO} : upd (upd H p o) p u = upd H p u := by
  funext b
  by_cases q : b = p
  · subst q; rw [upd_same, upd_same]
  · rw [upd_ne q, upd_ne q, upd_ne q]
theorem pt_imp {e : Expr} {t t' : TT} (h : PT X e t) (i : ∀ σ H Q, t' σ H Q → t σ H Q) : PT X e t' := ⟨fun pins s σ H Q I q => h.run pins s σ H Q I (i σ H Q q)⟩
theorem pw_imp {e : Expr} {t t' : TT} (h : PW X e t) (i : ∀ σ H Q, t' σ H Q → t σ H Q) : PW X e t' := ⟨fun wh pins s σ H Q I q => h.run wh pins s σ H Q I (i σ H Q q)⟩
theorem pa_imp {es : List Expr} {t t' : TA} (h : PA X es t) (i : ∀ σ H Q, t' σ H Q → t σ H Q) : PA X es t' := ⟨fun pos pins s σ H Q I q => h.run pos pins s σ H Q I (i σ H Q q)⟩
theorem pk_imp {es : List Keyword} {t t' : TA} (h : PK X es t) (i : ∀ σ H Q, t' σ H Q → t σ H Q) : PK X es t' := ⟨fun pos pins s σ H Q I q => h.run pos pins s σ H Q I (i σ H Q q)⟩
theorem ps_imp {st : Stmt} {t t' : TS} (h : PS X st t) (i : ∀ Dn σ H, t' Dn σ H → t Dn σ H) : PS X st t' := ⟨fun pins s σ H Dn I q => h.run pins s σ H Dn I (i Dn σ H q)⟩
theorem pss_imp {st : List Stmt} {t t' : TS} (h : PSs X st t) (i : ∀ Dn σ H, t' Dn σ H → t Dn σ H) : PSs X st t' := ⟨fun pins s σ H Dn I q => h.run pins s σ H Dn I (i Dn σ H q)⟩
end

/-! ### names, constants -/
def dVar (i : Nat) : DE := fun c R => ∃ d, c.env[i]? = some (some d) ∧ R d c
def dC (d : D) : DE := fun c R => R d c
section
variable {X : Cx}
theorem pd_var (i : Nat) {x : Str} {pos : Pos} (hN : X.N[i]? = some x := by rfl) (hv : Vis X.env.scope x := by first | exact Or.inl rfl | exact Or.inr (Or.inl rfl) | exact Or.inr (Or.inr rfl))
    (hd : (x == ("__debug__" : Str)) = false := by decide) (hcd : (x == ("__classdict__" : Str)) = false := by decide) : PD X (.Name x pos) (dVar i) :=
  pe_imp (pe_var hN hv hd hcd) fun σ H Q ⟨as, H0, c, R, ok, ⟨d, e, r⟩, q⟩ => by
    obtain ⟨v, e1, r1⟩ := ok.e.at_ i d e
    exact ⟨v, e1, q _ _ _ _ _ _ .refl ok r1 r⟩
theorem lift_c {K : PySem.W.Frag} {v : V} {d : D} (h : ∀ as H, Rp K as H v d) : ∀ σ H Q, lift K (dC d) σ H Q → tC v σ H Q :=
  fun σ H Q ⟨as, H0, c, R, ok, r, q⟩ => q _ _ _ _ _ _ .refl ok (h _ _) r
theorem pd_int {i : Int} {j pos} : PD X (.Constant (.int i) j pos) (dC (.int i)) := pe_imp pe_int (lift_c fun _ _ => .int i)
theorem pd_bl {b : Bool} {j pos} : PD X (.Constant (.bool b) j pos) (dC (.bl b)) := pe_imp pe_bl (lift_c fun _ _ => .bl b)
theorem pd_non {j pos} : PD X (.Constant .none j pos) (dC .non) := pe_imp pe_non (lift_c fun _ _ => .non)
theorem pd_str {x : Str} {j pos} : PD X (.Constant (.str x) j pos) (dC (.str x)) := pe_imp pe_str (lift_c fun _ _ => .str x)
theorem pd_glob {x : Str} {v : V} {d : D} {u : Value} {pos : Pos} (hg : Gl X x) (hm : X.mg x = some u) (r : RelV v u) (h : ∀ as H, Rp X.K as H v d) (hd : (x == ("__debug__" : Str)) = false := by decide) : PD X (.Name x pos) (dC d) :=
  pe_imp (pe_glob hg hm r hd) (lift_c h)
end

/-! ### operators -/
abbrev DF := D → D → Z → (D → Z → Prop) → Prop
def dBin (f : DF) (da db : DE) : DE := fun c R => da c fun x c1 => db c1 fun y c2 => f x y c2 R
def OpD (K : PySem.W.Frag) (r : R2) (f : DF) : Prop := ∀ as H0 H σ c v1 v2 d1 d2 R (Q : VK), Ok K as H0 H σ c → Rp K as H0 v1 d1 → Rp K as H0 v2 d2 → f d1 d2 c R →
  (∀ as' H0' H' c' v d, Le as H0 as' H0' → Ok K as' H0' H' σ c' → Rp K as' H0' v d → R d c' → Q v H') → r v1 v2 H Q
theorem lift_op {K : PySem.W.Frag} {r : R2} {f : DF} {da db : DE} (h : OpD K r f) : ∀ σ H Q, lift K (dBin f da db) σ H Q → tOp r (lift K da) (lift K db) σ H Q :=
  fun σ H Q ⟨as, H0, c, R, ok, q, k⟩ => ⟨as, H0, c, _, ok, q, fun as1 H1 Hn1 c1 v1 d1 l1 ok1 r1 q1 => ⟨as1, H1, c1, _, ok1, q1, fun as2 H2 Hn2 c2 v2 d2 l2 ok2 r2 q2 =>
    h as2 H2 Hn2 σ c2 v1 v2 d1 d2 R Q ok2 (r1.mono l2) r2 q2 fun as3 H3 Hn3 c3 v3 d3 l3 ok3 r3 q3 => k _ _ _ _ _ _ ((l1.trans l2).trans l3) ok3 r3 q3⟩⟩
theorem opR_or {X : Cx} {f : Value → Value → Sem Value} {r r' : R2} (h : OpR X f r) (h' : OpR X f r') : OpR X f (fun x y H Q => r x y H Q ∨ r' x y H Q) :=
  fun pins s σ H x y v u Q I rx ry z => z.elim (h pins s σ H x y v u Q I rx ry) (h' pins s σ H x y v u Q I rx ry)
def dInt2 (C : Int → Int → Prop) (g : Int → Int → D) : DF := fun x y c R => match x, y with
  | .int i, .int j => C i j ∧ R (g i j) c
  | _, _ => False
theorem opD_int {K : PySem.W.Frag} {C : Int → Int → Prop} {g : Int → Int → V} {g' : Int → Int → D} (hg : ∀ i j as H, Rp K as H (g i j) (g' i j)) : OpD K (rI C g) (dInt2 C g') := by
  intro as H0 H σ c v1 v2 d1 d2 R Q ok r1 r2 h k
  cases d1 with
  | int i =>
    cases d2 with
    | int j => cases r1; cases r2; exact ⟨i, j, rfl, rfl, h.1, k _ _ _ _ _ _ .refl ok (hg i j _ _) h.2⟩
    | _ => exact h.elim
  | _ => exact h.elim
theorem opD_int0 {K : PySem.W.Frag} {g : Int → Int → V} {g' : Int → Int → D} (hg : ∀ i j as H, Rp K as H (g i j) (g' i j)) : OpD K (rI0 g) (dInt2 (fun _ _ => True) g') := by
  intro as H0 H σ c v1 v2 d1 d2 R Q ok r1 r2 h k
  cases d1 with
  | int i =>
    cases d2 with
    | int j => cases r1; cases r2; exact ⟨i, j, rfl, rfl, k _ _ _ _ _ _ .refl ok (hg i j _ _) h.2⟩
    | _ => exact h.elim
  | _ => exact h.elim
end DL

namespace DL
open PySem L2

/-! ### data as the library's -/
mutual
def py : D → PyData
  | .non => .none | .bl b => .bool b | .int i => .int i | .str s => .str s
  | .lst ds => .list (pyA ds) | .slst ds => .list (pyA ds) | .tup ds => .tuple (pyA ds)
  | .dic _ => .none | .ref _ => .none | .ty _ => .none | .cel _ => .none | .fn _ => .none | .dicB _ _ => .none
def pyA : List D → List PyData
  | [] => []
  | d :: ds => py d :: pyA ds
end
mutual
def plain : D → Bool
  | .non => true | .bl _ => true | .int _ => true | .str _ => true
  | .lst ds => plainA ds | .slst ds => plainA ds | .tup ds => plainA ds
  | .dic _ => false | .ref _ => false | .ty _ => false | .cel _ => false | .fn _ => false | .dicB _ _ => false
def plainA : List D → Bool
  | [] => true
  | d :: ds => plain d && plainA ds
end
section
variable {K : PySem.W.Frag} {as : AsM} {H0 H : Hp}
mutual
theorem Rp.dp (e : ∀ a o, H0 a = some o → H a = some o) : ∀ {d : D} {v : V}, plain d = true → Rp K as H0 v d → Dp K H v (py d)
  | .non, _, _, h => by cases h; exact .non
  | .bl _, _, _, h => by cases h; exact .bl _
  | .int _, _, _, h => by cases h; exact .int _
  | .str _, _, _, h => by cases h; exact .str _
  | .lst ds, _, p, h => by cases h with | lst h1 h2 => exact .lst (SqL.of (e _ _ h1)) (RpA.dp e p h2)
  | .slst ds, _, p, h => by cases h with | slst h1 h2 => exact .lst (seqL_mono e h1) (RpA.dp e p h2)
  | .tup ds, _, p, h => by cases h with | tup h1 h2 => exact .tup (seqT_mono e h1) (RpA.dp e p h2)
  | .dic ds, _, p, h => by cases p
  | .ref _, _, p, h => by cases p
  | .ty _, _, p, h => by cases p
  | .cel _, _, p, h => by cases p
  | .fn _, _, p, h => by cases p
  | .dicB _ _, _, p, h => by cases p
theorem RpA.dp (e : ∀ a o, H0 a = some o → H a = some o) : ∀ {ds : List D} {vs : List V}, plainA ds = true → RpA K as H0 vs ds → DpAll K H vs (pyA ds)
  | [], _, _, h => by cases h; exact .nil
  | d :: ds, _, p, h => by
    cases h with
    | cons h1 h2 =>
      have p' := Bool.and_eq_true_iff.mp (show (plain d && plainA ds) = true from p)
      exact .cons (Rp.dp e p'.1 h1) (RpA.dp e p'.2 h2)
end
end

/-! ### operators by data -/
section
variable {X : Cx} {K : PySem.W.Frag} {a b c : Expr} {da db dc : DE} {pos : Pos}
theorem pd_bin {op : Operator} {r : R2} {f : DF} (ho : OpR X (binaryOp op) r) (hd : OpD X.K r f) (ha : PD X a da) (hb : PD X b db) : PD X (.BinOp a op b pos) (dBin f da db) := pe_imp (pe_op ho ha hb) (lift_op hd)
theorem pd_cmp {op : CmpOp} {r : R2} {f : DF} (ho : OpR X (compareOp op) r) (hd : OpD X.K r f) (ha : PD X a da) (hb : PD X b db) (hm : behindInMarks op b = false) : PD X (.Compare a [op] [b] pos) (dBin f da db) := pe_imp (pe_cmpR ho ha hb hm) (lift_op hd)

/-! #### plus -/
def dAdd : DF := fun x y c R => match x, y with
  | .int i, .int j => R (.int (i + j)) c
  | .int i, .bl k => R (.int (i + PyProof.Rows.b2i k)) c
  | .str s, .str t => s.length + t.length ≤ sizeLine ∧ R (.str (s ++ t)) c
  | .lst xs, .lst ys => xs.length + ys.length ≤ sizeLine ∧ R (.lst (xs ++ ys)) c
  | .tup xs, .tup ys => xs ≠ [] ∧ xs.length + ys.length ≤ sizeLine ∧ R (.tup (xs ++ ys)) c
  | _, _ => False
/-- a new known thing -/
theorem new_known {σ : L2.St} {as : AsM} {H0 H : Hp} {c : Z} {p : Addr} {o : HO} (ok : Ok K as H0 H σ c) (hp : H p = none) : Le as H0 as (upd H0 p o) ∧ Ok K as (upd H0 p o) (upd H p o) σ c :=
  let ⟨l, k⟩ := ok.c.grow (o := o) hp
  ⟨l, k, ok.e.mono l⟩
theorem rp_lst {as : AsM} {H0 : Hp} {p : Addr} {vs : List V} {ds : List D} (l : Le as H0 as (upd H0 p (.lst vs))) (r : RpA K as H0 vs ds) : Rp K as (upd H0 p (.lst vs)) (.ref p) (.lst ds) := .lst upd_same (r.mono l)
theorem rp_tup {as : AsM} {H0 : Hp} {p : Addr} {vs : List V} {ds : List D} (l : Le as H0 as (upd H0 p (.tup vs))) (r : RpA K as H0 vs ds) : Rp K as (upd H0 p (.tup vs)) (.ref p) (.tup ds) := .tup (SqT.of upd_same) (r.mono l)
def rAdd5 (K : PySem.W.Frag) : R2 := fun x y H Q => rI0 (fun i j => .int (i + j)) x y H Q ∨ (∃ i k, x = .int i ∧ y = .bl k ∧ Q (.int (i + PyProof.Rows.b2i k)) H) ∨ (∃ i j, x = .str i ∧ y = .str j ∧ i.length + j.length ≤ sizeLine ∧ Q (.str (i ++ j)) H) ∨ rCat x y H Q ∨ rCatT K x y H Q
theorem op_add5 : OpR X (binaryOp .Add) (rAdd5 X.K) := opR_or op_add (opR_or op_add_ib (opR_or op_add_str (opR_or op_cat op_catT)))
theorem opD_add : OpD K (rAdd5 K) dAdd := by
  intro as H0 H σ c v1 v2 d1 d2 R Q ok r1 r2 h k
  cases d1 with
  | int i =>
    cases d2 with
    | int j => cases r1; cases r2; exact .inl ⟨i, j, rfl, rfl, k _ _ _ _ _ _ .refl ok (.int _) h⟩
    | bl j => cases r1; cases r2; exact .inr (.inl ⟨i, j, rfl, rfl, k _ _ _ _ _ _ .refl ok (.int _) h⟩)
    | _ => exact h.elim
  | str s =>
    cases d2 with
    | str t => cases r1; cases r2; exact .inr (.inr (.inl ⟨s, t, rfl, rfl, h.1, k _ _ _ _ _ _ .refl ok (.str _) h.2⟩))
    | _ => exact h.elim
  | lst xs =>
    cases d2 with
    | lst ys =>
      cases r1 with
      | lst g1 g2 =>
        cases r2 with
        | lst g3 g4 =>
          refine .inr (.inr (.inr (.inl ⟨_, _, _, _, rfl, rfl, ok.c.ex _ _ g1, ok.c.ex _ _ g3, by rw [g2.length, g4.length]; exact h.1, fun p hp => ?_⟩)))
          obtain ⟨l, ok'⟩ := new_known (o := .lst _) ok hp
          exact k _ _ _ _ _ _ l ok' (rp_lst l (g2.append g4)) h.2
    | _ => exact h.elim
  | tup xs =>
    cases d2 with
    | tup ys =>
      cases r1 with
      | tup g1 g2 =>
        cases r2 with
        | tup g3 g4 =>
          have n1 : ∀ {vs : List V}, RpA K as H0 vs xs → vs ≠ [] := fun {vs} q z => by
            subst z
            have := q.length
            exact h.1 (List.eq_nil_of_length_eq_zero this.symm)
          have q2 := g2.length
          have q4 := g4.length
          refine .inr (.inr (.inr (.inr ⟨_, _, _, _, rfl, rfl, seqT_mono ok.c.ex g1, seqT_mono ok.c.ex g3, n1 g2, by rw [q2, q4]; exact h.2.1, ?_⟩)))
          refine ⟨fun e => ?_, fun e p hp => ?_⟩
          · subst e
            have : ys = [] := List.eq_nil_of_length_eq_zero q4.symm
            subst this
            exact k _ _ _ _ _ _ .refl ok (.tup g1 g2) (by have := h.2.2; rw [List.append_nil] at this; exact this)
          · obtain ⟨l, ok'⟩ := new_known (o := .tup _) ok hp
            exact k _ _ _ _ _ _ l ok' (rp_tup l (g2.append g4)) h.2.2
    | _ => exact h.elim
  | _ => exact h.elim
theorem pd_add (ha : PD X a da) (hb : PD X b db) : PD X (.BinOp a .Add b pos) (dBin dAdd da db) := pd_bin op_add5 opD_add ha hb

/-! #### other arithmetic -/
def dSub : DF := dInt2 (fun _ _ => True) fun i j => .int (i - j)
theorem pd_sub (ha : PD X a da) (hb : PD X b db) : PD X (.BinOp a .Sub b pos) (dBin dSub da db) := pd_bin op_sub (opD_int0 fun _ _ _ _ => .int _) ha hb
def dMul : DF := dInt2 CMul fun i j => .int (i * j)
theorem pd_mul (ha : PD X a da) (hb : PD X b db) : PD X (.BinOp a .Mult b pos) (dBin dMul da db) := pd_bin op_mul (opD_int fun _ _ _ _ => .int _) ha hb
def dDiv : DF := dInt2 (fun _ j => 0 < j ∧ j < 2 ^ 200) fun i j => .int (i / j)
theorem div_room {i j : Int} (h : 0 < j ∧ j < 2 ^ 200) : CDivW i j := wide_div (b := 200) h.1 (by
  have h1 := h.1
  have h2 := h.2
  have e : (2 : Int) ^ 200 = ((2 ^ 200 : Nat) : Int) := by norm_cast
  omega) (by decide) (by decide)
theorem opD_intC {C C' : Int → Int → Prop} {g : Int → Int → V} {g' : Int → Int → D} (hC : ∀ i j, C' i j → C i j) (hg : ∀ i j as H, Rp K as H (g i j) (g' i j)) : OpD K (rI C g) (dInt2 C' g') := by
  intro as H0 H σ c v1 v2 d1 d2 R Q ok r1 r2 h k
  cases d1 with
  | int i =>
    cases d2 with
    | int j => cases r1; cases r2; exact ⟨i, j, rfl, rfl, hC i j h.1, k _ _ _ _ _ _ .refl ok (hg i j _ _) h.2⟩
    | _ => exact h.elim
  | _ => exact h.elim
theorem pd_div (ha : PD X a da) (hb : PD X b db) : PD X (.BinOp a .FloorDiv b pos) (dBin dDiv da db) := pd_bin op_fdivW (opD_intC (fun _ _ h => div_room h) fun _ _ _ _ => .int _) ha hb
def dMod : DF := dInt2 (fun _ j => 0 < j) fun i j => .int (i % j)
theorem pd_mod (ha : PD X a da) (hb : PD X b db) : PD X (.BinOp a .Mod b pos) (dBin dMod da db) := pd_bin op_mod (opD_int fun _ _ _ _ => .int _) ha hb
def dPow : DF := dInt2 CPow fun i j => .int (i ^ j.toNat)
theorem pd_pow (ha : PD X a da) (hb : PD X b db) : PD X (.BinOp a .Pow b pos) (dBin dPow da db) := pd_bin op_pow (opD_int fun _ _ _ _ => .int _) ha hb
def dShl : DF := dInt2 CPow fun i j => .int (i * 2 ^ j.toNat)
theorem pd_shl (ha : PD X a da) (hb : PD X b db) : PD X (.BinOp a .LShift b pos) (dBin dShl da db) := pd_bin op_shl (opD_int fun _ _ _ _ => .int _) ha hb
def dShr : DF := dInt2 (fun _ j => 0 ≤ j) fun i j => .int (i / 2 ^ j.toNat)
def dAnd : DF := dInt2 (fun _ _ => True) fun i j => .int (Builtin.bitAnd i j)
def dOr : DF := dInt2 (fun _ _ => True) fun i j => .int (Builtin.bitOr i j)
def dXor : DF := dInt2 (fun _ _ => True) fun i j => .int (Builtin.bitXor i j)
def dNeg (da : DE) : DE := fun c R => da c fun x c1 => match x with | .int i => R (.int (-i)) c1 | _ => False
theorem pd_neg (ha : PD X a da) : PD X (.UnaryOp .USub a pos) (dNeg da) := pe_imp (pe_un un_neg ha) fun σ H Q ⟨as, H0, c, R, ok, q, k⟩ => ⟨as, H0, c, _, ok, q, fun as1 H1 Hn c1 v d l1 ok1 r1 q1 => by
  cases d with
  | int i => cases r1; exact ⟨i, rfl, k _ _ _ _ _ _ l1 ok1 (.int _) q1⟩
  | _ => exact q1.elim⟩

/-! #### comparisons -/
def dLt : DF := dInt2 (fun _ _ => True) fun i j => .bl (decide (i < j))
def dLe : DF := dInt2 (fun _ _ => True) fun i j => .bl (decide (i ≤ j))
def dGt : DF := dInt2 (fun _ _ => True) fun i j => .bl (decide (j < i))
def dGe : DF := dInt2 (fun _ _ => True) fun i j => .bl (decide (j ≤ i))
theorem opD_lt : OpD K (rI0 fun i j => .bl (decide (i < j))) dLt := opD_int0 fun _ _ _ _ => .bl _
theorem opD_le : OpD K (rI0 fun i j => .bl (decide (i ≤ j))) dLe := opD_int0 fun _ _ _ _ => .bl _
theorem opD_gt : OpD K (rI0 fun i j => .bl (decide (j < i))) dGt := opD_int0 fun _ _ _ _ => .bl _
theorem opD_ge : OpD K (rI0 fun i j => .bl (decide (j ≤ i))) dGe := opD_int0 fun _ _ _ _ => .bl _
theorem pd_ge (ha : PD X a da) (hb : PD X b db) : PD X (.Compare a [.GtE] [b] pos) (dBin dGe da db) := pd_cmp op_ge opD_ge ha hb (nomark _)
def dEq : DF := fun x y c R => match x, y with
  | .int i, .int j => R (.bl (decide (i = j))) c
  | .bl i, .bl j => R (.bl (decide (i = j))) c
  | .str i, .str j => R (.bl (decide (i = j))) c
  | x, y => plain x = true ∧ plain y = true ∧ SeqAt.shaped (py x) = true ∧ SeqAt.shaped (py y) = true ∧ R (.bl (PyData.eqv (py x) (py y))) c
def dNe : DF := fun x y c R => match x, y with
  | .int i, .int j => R (.bl (!decide (i = j))) c
  | .bl i, .bl j => R (.bl (!decide (i = j))) c
  | .str i, .str j => R (.bl (!decide (i = j))) c
  | x, y => plain x = true ∧ plain y = true ∧ SeqAt.shaped (py x) = true ∧ SeqAt.shaped (py y) = true ∧ R (.bl (!PyData.eqv (py x) (py y))) c
theorem dec_i {i j : Int} : decide (V.int i = V.int j) = decide (i = j) := by simp
theorem dec_b {i j : Bool} : decide (V.bl i = V.bl j) = decide (i = j) := by simp
theorem dec_s {i j : Str} : decide (V.str i = V.str j) = decide (i = j) := by simp
theorem opD_eq : OpD K (fun x y H Q => rEq x y H Q ∨ rEqD K x y H Q) dEq := by
  intro as H0 H σ c v1 v2 d1 d2 R Q ok r1 r2 h k
  have dp : ∀ {x y : D} {v u : V}, Rp K as H0 v x → Rp K as H0 u y → plain x = true ∧ plain y = true ∧ SeqAt.shaped (py x) = true ∧ SeqAt.shaped (py y) = true ∧ R (.bl (PyData.eqv (py x) (py y))) c → rEqD K v u H Q :=
    fun a b ⟨h1, h2, h3, h4, h5⟩ => ⟨_, _, a.dp ok.c.ex h1, b.dp ok.c.ex h2, h3, h4, k _ _ _ _ _ _ .refl ok (.bl _) h5⟩
  cases d1 <;> cases d2
  all_goals first
    | exact .inr (dp r1 r2 h)
    | (cases r1; cases r2; exact .inl ⟨rfl, by rw [dec_i]; exact k _ _ _ _ _ _ .refl ok (.bl _) h⟩)
    | (cases r1; cases r2; exact .inl ⟨rfl, by rw [dec_b]; exact k _ _ _ _ _ _ .refl ok (.bl _) h⟩)
    | (cases r1; cases r2; exact .inl ⟨rfl, by rw [dec_s]; exact k _ _ _ _ _ _ .refl ok (.bl _) h⟩)
theorem opD_ne : OpD K (fun x y H Q => rNe x y H Q ∨ rNeD K x y H Q) dNe := by
  intro as H0 H σ c v1 v2 d1 d2 R Q ok r1 r2 h k
  have dp : ∀ {x y : D} {v u : V}, Rp K as H0 v x → Rp K as H0 u y → plain x = true ∧ plain y = true ∧ SeqAt.shaped (py x) = true ∧ SeqAt.shaped (py y) = true ∧ R (.bl (!PyData.eqv (py x) (py y))) c → rNeD K v u H Q :=
    fun a b ⟨h1, h2, h3, h4, h5⟩ => ⟨_, _, a.dp ok.c.ex h1, b.dp ok.c.ex h2, h3, h4, k _ _ _ _ _ _ .refl ok (.bl _) h5⟩
  cases d1 <;> cases d2
  all_goals first
    | exact .inr (dp r1 r2 h)
    | (cases r1; cases r2; exact .inl ⟨rfl, by rw [dec_i]; exact k _ _ _ _ _ _ .refl ok (.bl _) h⟩)
    | (cases r1; cases r2; exact .inl ⟨rfl, by rw [dec_b]; exact k _ _ _ _ _ _ .refl ok (.bl _) h⟩)
    | (cases r1; cases r2; exact .inl ⟨rfl, by rw [dec_s]; exact k _ _ _ _ _ _ .refl ok (.bl _) h⟩)
theorem pd_eq (hu : X.A.units + 64 < cLine) (ha : PD X a da) (hb : PD X b db) : PD X (.Compare a [.Eq] [b] pos) (dBin dEq da db) := pd_cmp (opR_or op_eq (op_eqD hu)) opD_eq ha hb (nomark _)
/-- a op b op' c -/
def dChain (f g : DF) (da db dc : DE) : DE := fun c R => da c fun x c1 => db c1 fun y c2 => f x y c2 fun z c3 => match z with
  | .bl true => dc c3 fun w c4 => g y w c4 R
  | .bl false => R (.bl false) c3
  | _ => False
theorem pd_chain {op op' : CmpOp} {r r' : R2} {f g : DF} (ho : OpR X (compareOp op) r) (hf : OpD X.K r f) (ho' : OpR X (compareOp op') r') (hg : OpD X.K r' g) (ha : PD X a da) (hb : PD X b db) (hc : PD X c dc)
    (hm : lastMarks [op, op'] [b, c] = false) : PD X (.Compare a [op, op'] [b, c] pos) (dChain f g da db dc) :=
  pe_imp (pe_chain ho ho' ha hb hc hm) fun σ H Q ⟨as, H0, c, R, ok, q, k⟩ => ⟨as, H0, c, _, ok, q, fun as1 H1 Hn c1 v1 d1 l1 ok1 r1 q1 => ⟨as1, H1, c1, _, ok1, q1, fun as2 H2 Hn2 c2 v2 d2 l2 ok2 r2 q2 => by
    refine hf as2 H2 Hn2 σ c2 v1 v2 d1 d2 _ _ ok2 (r1.mono l2) r2 q2 fun as3 H3 Hn3 c3 v3 d3 l3 ok3 r3 q3 => ?_
    cases d3 with
    | bl z =>
      cases r3
      refine ⟨z, rfl, ?_⟩
      cases z with
      | true =>
        rw [if_pos rfl]
        exact ⟨as3, H3, c3, _, ok3, q3, fun as4 H4 Hn4 c4 v4 d4 l4 ok4 r4 q4 => hg as4 H4 Hn4 σ c4 v2 v4 d2 d4 R Q ok4 (r2.mono (l3.trans l4)) r4 q4 fun as5 H5 Hn5 c5 v5 d5 l5 ok5 r5 q5 =>
          k _ _ _ _ _ _ ((((l1.trans l2).trans l3).trans l4).trans l5) ok5 r5 q5⟩
      | false =>
        rw [if_neg Bool.false_ne_true]
        exact k _ _ _ _ _ _ ((l1.trans l2).trans l3) ok3 (.bl _) q3
    | _ => exact q3.elim⟩⟩

/-! #### truth -/
def truD : D → Option Bool
  | .non => some false | .bl b => some b | .int i => some (i != 0) | .str s => if s.length ≤ sizeLine then some ((s.length : Int) != 0) else none
  | .lst ds => some (!ds.isEmpty) | .slst ds => some (!ds.isEmpty) | .tup ds => some (!ds.isEmpty) | _ => none
theorem isEmpty_rp {as : AsM} {H : Hp} : ∀ {ds : List D} {vs : List V}, RpA K as H vs ds → (!vs.isEmpty) = !ds.isEmpty
  | [], _, h => by cases h; rfl
  | _ :: _, _, h => by cases h; rfl
theorem isEmpty_rk {as : AsM} {H : Hp} : ∀ {ds : List (Key × D)} {vs : List (Key × V)}, RpK K as H vs ds → (!vs.isEmpty) = !ds.isEmpty
  | [], _, h => by cases h; rfl
  | _ :: _, _, h => by cases h; rfl
theorem truV_of {as : AsM} {H0 H : Hp} {v : V} {d : D} {b : Bool} (e : ∀ a o, H0 a = some o → H a = some o) (r : Rp K as H0 v d) (h : truD d = some b) : TruV K v H b := by
  cases r with
  | non => cases h; rfl
  | bl b => cases h; rfl
  | int i => cases h; rfl
  | str s =>
    have h' : (if s.length ≤ sizeLine then some ((s.length : Int) != 0) else none) = some b := h
    by_cases q : s.length ≤ sizeLine
    · rw [if_pos q] at h'; cases h'; exact ⟨q, rfl⟩
    · rw [if_neg q] at h'; cases h'
  | lst h1 h2 => cases h; exact .inl ⟨_, SqL.of (e _ _ h1), (isEmpty_rp h2).symm⟩
  | slst h1 h2 => cases h; exact .inl ⟨_, seqL_mono e h1, (isEmpty_rp h2).symm⟩
  | tup h1 h2 => cases h; exact .inr (.inl ⟨_, seqT_mono e h1, (isEmpty_rp h2).symm⟩)
  | dic h1 h2 => cases h
  | ref a => cases h
  | ty n => cases h
  | cel h => cases h
  | fn h => cases h
  | dicB h1 h2 h3 => cases h
def dTru (da : DE) : DT := fun c R => da c fun x c1 => ∃ b, truD x = some b ∧ R b c1
theorem pdt_of (ha : PD X a da) (he : ∀ whole, isTrue a X.env whole = (do let v ← whole; standAt a.pos; holding [v] (truthy v)) := by intro _; rfl) : PDT X a (dTru da) :=
  pt_imp (pt_truth ha he) fun σ H Q ⟨as, H0, c, R, ok, q, k⟩ => ⟨as, H0, c, _, ok, q, fun as1 H1 Hn c1 v d l1 ok1 r1 ⟨b, e, q1⟩ => ⟨b, truV_of ok1.c.ex r1 e, k _ _ _ _ _ l1 ok1 q1⟩⟩
def dAndT (ta tb : DT) : DT := fun c R => ta c fun b c1 => match b with | true => tb c1 R | false => R false c1
def dOrT (ta tb : DT) : DT := fun c R => ta c fun b c1 => match b with | true => R true c1 | false => tb c1 R
def dNotT (ta : DT) : DT := fun c R => ta c fun b c1 => R (!b) c1
variable {rest : List Expr} {ta tb : DT}
theorem pdw_one_or (h : PDT X a ta) : PDW X (.BoolOp .Or [a] pos) ta := pw_imp (pw_or1 h) fun _ _ _ q => q
theorem pdw_or (h : PDT X a ta) (g : PDW X (.BoolOp .Or (b :: rest) pos) tb) : PDW X (.BoolOp .Or (a :: b :: rest) pos) (dOrT ta tb) :=
  pw_imp (pw_or h g) fun σ H Q ⟨as, H0, c, R, ok, q, k⟩ => ⟨as, H0, c, _, ok, q, fun as1 H1 Hn c1 z l1 ok1 q1 => by
    cases z with
    | true => exact iteT (k _ _ _ _ _ l1 ok1 q1)
    | false => exact iteF ⟨as1, H1, c1, R, ok1, q1, fun _ _ _ _ _ l2 ok2 q2 => k _ _ _ _ _ (l1.trans l2) ok2 q2⟩⟩
theorem pdt_w (h : PDW X a ta) : PDT X a ta := h.pt
theorem pdt_not (h : PDT X a ta) : PDT X (.UnaryOp .Not a pos) (dNotT ta) :=
  pt_imp (pt_not h) fun σ H Q ⟨as, H0, c, R, ok, q, k⟩ => ⟨as, H0, c, _, ok, q, fun as1 H1 Hn c1 z l1 ok1 q1 => k _ _ _ _ _ l1 ok1 q1⟩
/-- values: and, or, not of truths -/
def dAndV (da db : DE) : DE := fun c R => da c fun x c1 => match x with | .bl true => db c1 R | .bl false => R (.bl false) c1 | _ => False
def dOrV (da db : DE) : DE := fun c R => da c fun x c1 => match x with | .bl true => R (.bl true) c1 | .bl false => db c1 R | _ => False
def dNotV (da : DE) : DE := fun c R => da c fun x c1 => ∃ b, truD x = some b ∧ R (.bl (!b)) c1
theorem pd_one {op} (ha : PD X a da) : PD X (.BoolOp op [a] pos) da := pe_one ha
theorem pd_and (ha : PD X a da) (hb : PD X (.BoolOp .And (b :: rest) pos) db) : PD X (.BoolOp .And (a :: b :: rest) pos) (dAndV da db) :=
  pe_imp (pe_and ha hb) fun σ H Q ⟨as, H0, c, R, ok, q, k⟩ => ⟨as, H0, c, _, ok, q, fun as1 H1 Hn c1 v d l1 ok1 r1 q1 => by
    cases d with
    | bl z =>
      cases r1
      refine ⟨z, rfl, ?_⟩
      cases z with
      | true => exact iteT ⟨as1, H1, c1, R, ok1, q1, fun _ _ _ _ _ _ l2 ok2 r2 q2 => k _ _ _ _ _ _ (l1.trans l2) ok2 r2 q2⟩
      | false => exact iteF (k _ _ _ _ _ _ l1 ok1 (.bl _) q1)
    | _ => exact q1.elim⟩
theorem pd_not (ha : PD X a da) : PD X (.UnaryOp .Not a pos) (dNotV da) :=
  pe_imp (pe_notT ha) fun σ H Q ⟨as, H0, c, R, ok, q, k⟩ => ⟨as, H0, c, _, ok, q, fun as1 H1 Hn c1 v d l1 ok1 r1 ⟨b, e, q1⟩ => ⟨b, truV_of ok1.c.ex r1 e, k _ _ _ _ _ _ l1 ok1 (.bl _) q1⟩⟩
def dIfE (t : DT) (da db : DE) : DE := fun c R => t c fun b c1 => match b with | true => da c1 R | false => db c1 R
theorem pd_ifE (ht : PDT X c ta) (ha : PD X a da) (hb : PD X b db) : PD X (.IfExp c a b pos) (dIfE ta da db) :=
  pe_imp (pe_ifExp ht ha hb) fun σ H Q ⟨as, H0, c, R, ok, q, k⟩ => ⟨as, H0, c, _, ok, q, fun as1 H1 Hn c1 z l1 ok1 q1 => by
    cases z with
    | true => exact iteT ⟨as1, H1, c1, R, ok1, q1, fun _ _ _ _ _ _ l2 ok2 r2 q2 => k _ _ _ _ _ _ (l1.trans l2) ok2 r2 q2⟩
    | false => exact iteF ⟨as1, H1, c1, R, ok1, q1, fun _ _ _ _ _ _ l2 ok2 r2 q2 => k _ _ _ _ _ _ (l1.trans l2) ok2 r2 q2⟩⟩

/-! ### argument lists, displays -/
def dNil : DA := fun c R => R [] c
def dCons (da : DE) (dr : DA) : DA := fun c R => da c fun x c1 => dr c1 fun xs c2 => R (x :: xs) c2
variable {es : List Expr} {dr : DA}
theorem lift_nil : ∀ σ H Q, liftA K dNil σ H Q → tNil σ H Q := fun σ H Q ⟨as, H0, c, R, ok, q, k⟩ => k _ _ _ _ _ _ .refl ok .nil q
theorem lift_cons {dk : DA} : ∀ σ H Q, liftA K (dCons da dk) σ H Q → tCons (lift K da) (liftA K dk) σ H Q :=
  fun σ H Q ⟨as, H0, c, R, ok, q, k⟩ => ⟨as, H0, c, _, ok, q, fun as1 H1 Hn c1 v d l1 ok1 r1 q1 => ⟨as1, H1, c1, _, ok1, q1, fun as2 H2 Hn2 c2 vs ds l2 ok2 r2 q2 => k _ _ _ _ _ _ (l1.trans l2) ok2 (.cons (r1.mono l2) r2) q2⟩⟩
theorem pda_nil : PDA X [] dNil := pa_imp pa_nil lift_nil
theorem pda_cons (ha : PD X a da) (hr : PDA X es dr) (hs : starEach (a :: es) X.env = (false, eval a X.env) :: starEach es X.env := by rfl) : PDA X (a :: es) (dCons da dr) := pa_imp (pa_cons ha hr hs) lift_cons
def dTup (dr : DA) : DE := fun c R => dr c fun ds c1 => ds.length ≤ sizeLine ∧ R (.tup ds) c1
def dLst (dr : DA) : DE := fun c R => dr c fun ds c1 => ds.length ≤ sizeLine ∧ R (.lst ds) c1
/-- a list that will change -/
def dLstC (dr : DA) : DE := fun c R => dr c fun ds c1 => ds.length ≤ sizeLine ∧ ∀ k, c1.cs k = none → R (.cel k) { c1 with cs := put c1.cs k (.lst ds) }
theorem pd_tup {x1} (h : PDA X es dr) : PD X (.Tuple es x1 pos) (dTup dr) :=
  pe_imp (pe_tup h) fun σ H Q ⟨as, H0, c, R, ok, q, k⟩ => ⟨as, H0, c, _, ok, q, fun as1 H1 Hn c1 vs ds l1 ok1 r1 ⟨z, q1⟩ => ⟨by rw [r1.length]; exact z, fun p hp => by
    obtain ⟨l, ok'⟩ := new_known (o := .tup vs) ok1 hp
    exact k _ _ _ _ _ _ (l1.trans l) ok' (rp_tup l r1) q1⟩⟩
theorem pd_lst (h : PDA X es dr) : PD X (.List es pos) (dLst dr) :=
  pe_imp (pe_lst h) fun σ H Q ⟨as, H0, c, R, ok, q, k⟩ => ⟨as, H0, c, _, ok, q, fun as1 H1 Hn c1 vs ds l1 ok1 r1 ⟨z, q1⟩ => ⟨by rw [r1.length]; exact z, fun p hp => by
    obtain ⟨l, ok'⟩ := new_known (o := .lst vs) ok1 hp
    exact k _ _ _ _ _ _ (l1.trans l) ok' (rp_lst l r1) q1⟩⟩
/-- a new cell -/
theorem new_cell {σ : L2.St} {as : AsM} {H0 H : Hp} {c : Z} {p : Addr} {u : HO} {o : Co} (ok : Ok K as H0 H σ c) (hp : H p = none) (r : RpC K as H0 p u o) :
    ∃ k as', c.cs k = none ∧ Le as H0 as' H0 ∧ Ok K as' H0 (upd H p u) σ { c with cs := put c.cs k o } ∧ Rp K as' H0 (.ref p) (.cel k) := by
  obtain ⟨k, as', h1, h2, h3, h4⟩ := ok.c.cell hp r
  exact ⟨k, as', h1, h2, ⟨h3, ok.e.mono h2⟩, .cel h4⟩
theorem pd_lstC (h : PDA X es dr) : PD X (.List es pos) (dLstC dr) :=
  pe_imp (pe_lst h) fun σ H Q ⟨as, H0, c, R, ok, q, k⟩ => ⟨as, H0, c, _, ok, q, fun as1 H1 Hn c1 vs ds l1 ok1 r1 ⟨z, q1⟩ => ⟨by rw [r1.length]; exact z, fun p hp => by
    obtain ⟨j, as', n, l, ok', r⟩ := new_cell ok1 hp (.lst r1)
    exact k _ _ _ _ _ _ (l1.trans l) ok' r (q1 j n)⟩⟩
end
end DL

namespace DL
open PySem L2

/-! ### built-in functions -/
abbrev DFn := List D → Z → (D → Z → Prop) → Prop
def CallD (K : PySem.W.Frag) (r : List V → Hp → VK → Prop) (f : DFn) : Prop := ∀ as H0 H σ c vs ds R (Q : VK), Ok K as H0 H σ c → RpA K as H0 vs ds → f ds c R →
  (∀ as' H0' H' c' v d, Le as H0 as' H0' → Ok K as' H0' H' σ c' → Rp K as' H0' v d → R d c' → Q v H') → r vs H Q
def dCall (f : DFn) (da : DA) : DE := fun c R => da c fun ds c1 => f ds c1 R
theorem lift_call {K : PySem.W.Frag} {r : List V → Hp → VK → Prop} {f : DFn} {da : DA} (h : CallD K r f) : ∀ σ H Q, lift K (dCall f da) σ H Q → tCB r (liftA K da) σ H Q :=
  fun σ H Q ⟨as, H0, c, R, ok, q, k⟩ => ⟨as, H0, c, _, ok, q, fun as1 H1 Hn1 c1 vs ds l1 ok1 r1 q1 =>
    h as1 H1 Hn1 σ c1 vs ds R Q ok1 r1 q1 fun as2 H2 Hn2 c2 v2 d2 l2 ok2 r2 q2 => k _ _ _ _ _ _ (l1.trans l2) ok2 r2 q2⟩
theorem callR_or {X : Cx} {f : Value} {r r' : List V → Hp → VK → Prop} (h : CallR X f r) (h' : CallR X f r') : CallR X f (fun xs H Q => r xs H Q ∨ r' xs H Q) :=
  fun pins s σ H xs us Q I rx z => z.elim (h pins s σ H xs us Q I rx) (h' pins s σ H xs us Q I rx)
section
variable {X : Cx} {x : Str} {p pos : Pos} {e : Expr} {es : List Expr} {da : DA} {id T : String} {r : List V → Hp → VK → Prop} {f : DFn}
theorem pd_callB (hc : CallR X (.builtin id) r) (hd : CallD X.K r f) (hg : Gl X x) (hm : X.mg x = none) (hv : bootBuiltins x = some (.builtin id)) (ha : PDA X (e :: es) da) (hn : x ≠ "__name__" := by decide) (hdb : (x == ("__debug__" : Str)) = false := by decide)
    (he : starEach (e :: es) X.env = (false, eval e X.env) :: starEach es X.env := by rfl) (hpl : (backTo pos (starEach es X.env)).any (·.1) = false := by rfl) : PD X (.Call (.Name x p) (e :: es) [] pos) (dCall f da) :=
  pe_imp (pe_callB hc hg hm hv ha hn hdb he hpl) (lift_call hd)
theorem pd_callTy (hc : CallR X (.type T) r) (hd : CallD X.K r f) (hg : Gl X x) (hm : X.mg x = none) (hv : bootBuiltins x = some (.type T)) (ha : PDA X (e :: es) da) (hn : x ≠ "__name__" := by decide) (hdb : (x == ("__debug__" : Str)) = false := by decide)
    (he : starEach (e :: es) X.env = (false, eval e X.env) :: starEach es X.env := by rfl) (hpl : (backTo pos (starEach es X.env)).any (·.1) = false := by rfl) : PD X (.Call (.Name x p) (e :: es) [] pos) (dCall f da) :=
  pe_imp (pe_callTy hc hg hm hv ha hn hdb he hpl) (lift_call hd)
end
section
variable {K : PySem.W.Frag} {X : Cx}
theorem rpa1 {as : AsM} {H : Hp} {vs : List V} {d : D} (h : RpA K as H vs [d]) : ∃ v, vs = [v] ∧ Rp K as H v d := by
  cases h with | cons h1 h2 => cases h2; exact ⟨_, rfl, h1⟩
theorem rpa2 {as : AsM} {H : Hp} {vs : List V} {d e : D} (h : RpA K as H vs [d, e]) : ∃ v u, vs = [v, u] ∧ Rp K as H v d ∧ Rp K as H u e := by
  cases h with | cons h1 h2 => obtain ⟨u, rfl, h3⟩ := rpa1 h2; exact ⟨_, u, rfl, h1, h3⟩
def fAbs : DFn := fun ds c R => match ds with | [.int i] => R (.int (if i < 0 then -i else i)) c | _ => False
theorem callD_abs : CallD K (fun xs H Q => ∃ i, xs = [V.int i] ∧ Q (.int (if i < 0 then -i else i)) H) fAbs := by
  intro as H0 H σ c vs ds R Q ok r h k
  unfold fAbs at h
  split at h
  · obtain ⟨v, rfl, r1⟩ := rpa1 r; cases r1; exact ⟨_, rfl, k _ _ _ _ _ _ .refl ok (.int _) h⟩
  · exact h.elim
def fMax : DFn := fun ds c R => match ds with | [.int i, .int j] => R (.int (if j > i then j else i)) c | _ => False
theorem callD_max : CallD K (fun xs H Q => ∃ i j, xs = [V.int i, V.int j] ∧ Q (.int (if j > i then j else i)) H) fMax := by
  intro as H0 H σ c vs ds R Q ok r h k
  unfold fMax at h
  split at h
  · obtain ⟨v, u, rfl, r1, r2⟩ := rpa2 r; cases r1; cases r2; exact ⟨_, _, rfl, k _ _ _ _ _ _ .refl ok (.int _) h⟩
  · exact h.elim
def fMin : DFn := fun ds c R => match ds with | [.int i, .int j] => R (.int (if j < i then j else i)) c | _ => False
theorem callD_min : CallD K (fun xs H Q => ∃ i j, xs = [V.int i, V.int j] ∧ Q (.int (if j < i then j else i)) H) fMin := by
  intro as H0 H σ c vs ds R Q ok r h k
  unfold fMin at h
  split at h
  · obtain ⟨v, u, rfl, r1, r2⟩ := rpa2 r; cases r1; cases r2; exact ⟨_, _, rfl, k _ _ _ _ _ _ .refl ok (.int _) h⟩
  · exact h.elim
def fInt : DFn := fun ds c R => match ds with | [.int i] => R (.int i) c | [.bl b] => R (.int (if b then 1 else 0)) c | _ => False
theorem callD_int : CallD K (fun xs H Q => (∃ i, xs = [V.int i] ∧ Q (.int i) H) ∨ ∃ k, xs = [V.bl k] ∧ Q (.int (if k then 1 else 0)) H) fInt := by
  intro as H0 H σ c vs ds R Q ok r h k
  unfold fInt at h
  split at h
  · obtain ⟨v, rfl, r1⟩ := rpa1 r; cases r1; exact .inl ⟨_, rfl, k _ _ _ _ _ _ .refl ok (.int _) h⟩
  · obtain ⟨v, rfl, r1⟩ := rpa1 r; cases r1; exact .inr ⟨_, rfl, k _ _ _ _ _ _ .refl ok (.int _) h⟩
  · exact h.elim
/-- len -/
def fLen : DFn := fun ds c R => match ds with
  | [.lst xs] => R (.int (xs.length : Int)) c | [.slst xs] => R (.int (xs.length : Int)) c | [.tup xs] => R (.int (xs.length : Int)) c | [.dic xs] => R (.int (xs.length : Int)) c
  | [.str s] => s.length ≤ sizeLine ∧ R (.int (s.length : Int)) c
  | [.cel k] => ∃ xs, c.cs k = some (.lst xs) ∧ R (.int (xs.length : Int)) c
  | _ => False
theorem RpK.length {as : AsM} {H : Hp} : ∀ {ds : List (Key × D)} {vs : List (Key × V)}, RpK K as H vs ds → vs.length = ds.length
  | [], _, h => by cases h; rfl
  | _ :: _, _, h => by cases h with | cons h1 h2 => exact congrArg Nat.succ (RpK.length h2)
/-- what a cell of a list is in the heap -/
theorem cell_lst {as : AsM} {H0 H : Hp} {σ : L2.St} {c : Z} {k : Nat} {ds : List D} {v : V} (ok : Ok K as H0 H σ c) (r : Rp K as H0 v (.cel k)) (h : c.cs k = some (.lst ds)) : ∃ p vs, v = .ref p ∧ as k = some p ∧ H p = some (.lst vs) ∧ RpA K as H0 vs ds := by
  cases r with
  | cel e =>
    obtain ⟨p', u, h1, h2, h3, h4⟩ := ok.c.cel k _ h
    rw [e] at h1; cases h1
    cases h4 with
    | lst h5 => exact ⟨_, _, rfl, e, h3, h5⟩
def rLen3 (K : PySem.W.Frag) : List V → Hp → VK → Prop := fun xs H Q => (∃ p ys, xs = [V.ref p] ∧ (SqL K H p ys ∨ SqT K H p ys) ∧ Q (.int ys.length) H) ∨ (∃ z, xs = [V.str z] ∧ z.length ≤ sizeLine ∧ Q (.int z.length) H) ∨ (∃ a kvs, xs = [V.ref a] ∧ Rd H a (.dK kvs) ∧ Q (.int kvs.length) H)
theorem call_lenR : CallR X (.builtin "len") (fun xs H Q => ∃ a kvs, xs = [V.ref a] ∧ Rd H a (.dK kvs) ∧ Q (.int kvs.length) H) := by
  intro pins s σ H xs us Q I r ⟨a, kvs, e, rd, q⟩
  subst e
  obtain ⟨u, rfl, rv⟩ := vals1 r
  cases rv
  exact d_len I rd fun t s' J => ⟨.int kvs.length, _, J, ⟨t, rfl⟩, q⟩
theorem call_len3 : CallR X (.builtin "len") (rLen3 X.K) := callR_or call_len_seq (callR_or call_len_str call_lenR)
theorem callD_len : CallD K (rLen3 K) fLen := by
  intro as H0 H σ c vs ds R Q ok r h k
  unfold fLen at h
  split at h
  · obtain ⟨v, rfl, r1⟩ := rpa1 r
    cases r1 with | lst g1 g2 => exact .inl ⟨_, _, rfl, .inl (SqL.of (ok.c.ex _ _ g1)), by rw [g2.length]; exact k _ _ _ _ _ _ .refl ok (.int _) h⟩
  · obtain ⟨v, rfl, r1⟩ := rpa1 r
    cases r1 with | slst g1 g2 => exact .inl ⟨_, _, rfl, .inl (seqL_mono ok.c.ex g1), by rw [g2.length]; exact k _ _ _ _ _ _ .refl ok (.int _) h⟩
  · obtain ⟨v, rfl, r1⟩ := rpa1 r
    cases r1 with | tup g1 g2 => exact .inl ⟨_, _, rfl, .inr (seqT_mono ok.c.ex g1), by rw [g2.length]; exact k _ _ _ _ _ _ .refl ok (.int _) h⟩
  · obtain ⟨v, rfl, r1⟩ := rpa1 r
    cases r1 with | dic g1 g2 => exact .inr (.inr ⟨_, _, rfl, .inr ⟨_, ok.c.ex _ _ g1⟩, by rw [g2.length]; exact k _ _ _ _ _ _ .refl ok (.int _) h⟩)
  · obtain ⟨v, rfl, r1⟩ := rpa1 r
    cases r1; exact .inr (.inl ⟨_, rfl, h.1, k _ _ _ _ _ _ .refl ok (.int _) h.2⟩)
  · obtain ⟨v, rfl, r1⟩ := rpa1 r
    obtain ⟨xs, h1, h2⟩ := h
    obtain ⟨p, us, rfl, _, g3, g4⟩ := cell_lst ok r1 h1
    exact .inl ⟨_, _, rfl, .inl (SqL.of g3), by rw [g4.length]; exact k _ _ _ _ _ _ .refl ok (.int _) h2⟩
  · exact h.elim
/-- sum of ints -/
def intsOf : List D → Option (List Int)
  | [] => some []
  | .int i :: ds => (intsOf ds).map (i :: ·)
  | _ => none
theorem intsOf_rp {as : AsM} {H : Hp} : ∀ {ds : List D} {vs : List V} {ns : List Int}, RpA K as H vs ds → intsOf ds = some ns → vs = ns.map V.int
  | [], _, ns, h, e => by cases h; cases e; rfl
  | d :: ds, _, ns, h, e => by
    cases h with
    | cons h1 h2 =>
      cases d with
      | int i =>
        cases h1
        cases q : intsOf ds with
        | none =>
          have e' : (intsOf ds).map (i :: ·) = some ns := e
          rw [q] at e'; cases e'
        | some ms =>
          have e' : (intsOf ds).map (i :: ·) = some ns := e
          rw [q] at e'; cases e'
          rw [intsOf_rp h2 q]; rfl
      | _ => cases e
@[simp] theorem intsOf_map (ns : List Int) : intsOf (ns.map D.int) = some ns := by
  induction ns with
  | nil => rfl
  | cons n ns ih => show (intsOf (ns.map D.int)).map (n :: ·) = _; rw [ih]; rfl
def listD : D → Option (List D) | .lst ds => some ds | .slst ds => some ds | _ => none
theorem listD_rp {as : AsM} {H0 H : Hp} {v : V} {d : D} {ds : List D} (e : ∀ a o, H0 a = some o → H a = some o) (r : Rp K as H0 v d) (h : listD d = some ds) : ∃ a vs, v = .ref a ∧ SqL K H a vs ∧ RpA K as H0 vs ds := by
  cases r with
  | lst h1 h2 => cases h; exact ⟨_, _, rfl, SqL.of (e _ _ h1), h2⟩
  | slst h1 h2 => cases h; exact ⟨_, _, rfl, seqL_mono e h1, h2⟩
  | _ => cases h
def fSum : DFn := fun ds c R => ∃ d xs ns, ds = [d] ∧ listD d = some xs ∧ intsOf xs = some ns ∧ R (.int ns.sum) c
theorem callD_sum : CallD K (rSum K) fSum := by
  intro as H0 H σ c vs ds R Q ok r ⟨d, xs, ns, e, h1, h2, h3⟩ k
  subst e
  obtain ⟨v, rfl, r1⟩ := rpa1 r
  obtain ⟨a, us, rfl, g1, g2⟩ := listD_rp ok.c.ex r1 h1
  have e := intsOf_rp g2 h2
  subst e
  exact ⟨a, ns, rfl, g1, k _ _ _ _ _ _ .refl ok (.int _) h3⟩

/-! ### isinstance against built-in types -/
def tyN : D → Option String
  | .non => some "NoneType" | .bl _ => some "bool" | .int _ => some "int" | .str _ => some "str" | .lst _ => some "list" | .slst _ => some "list" | .tup _ => some "tuple" | .dic _ => some "dict" | _ => none
def fIsi (n : String) : DFn := fun ds c R => match ds with | [x, .ty m] => m = n ∧ ∃ t b, tyN x = some t ∧ kitB t n = some b ∧ R (.bl b) c | _ => False
theorem tyx_of {as : AsM} {H0 H : Hp} {v : V} {d : D} {t : String} (e : ∀ a o, H0 a = some o → H a = some o) (r : Rp K as H0 v d) (h : tyN d = some t) : TyX K H v (.type t) := by
  cases r with
  | non => cases h; exact .base .non
  | bl b => cases h; exact .base (.bl _)
  | int i => cases h; exact .base (.int _)
  | str s => cases h; exact .base (.str _)
  | lst h1 h2 => cases h; exact .base (.lst (e _ _ h1))
  | slst h1 h2 =>
    cases h
    rcases h1 with (h1 | ⟨o, h1⟩) | ⟨o, its, n, h1, h2, _⟩
    · exact .base (.lst (e _ _ h1))
    · exact .base (.frz (e _ _ h1))
    · exact .kList h1 h2
  | tup h1 h2 =>
    cases h
    rcases h1 with (h1 | ⟨o, h1⟩) | ⟨o, its, n, h1, h2, _⟩
    · exact .base (.tup (e _ _ h1))
    · exact .fTuple (e _ _ h1)
    · exact .kTuple h1 h2
  | dic h1 h2 => cases h; exact .fDict (e _ _ h1)
  | _ => cases h
theorem callD_isi {n : String} : CallD K (rIsi K) (fIsi n) := by
  intro as H0 H σ c vs ds R Q ok r h k
  unfold fIsi at h
  split at h
  · obtain ⟨v, u, rfl, r1, r2⟩ := rpa2 r
    obtain ⟨e, t, b, h1, h2, h3⟩ := h
    subst e
    cases r2
    exact ⟨v, _, _, _, b, rfl, .ty _, tyx_of ok.c.ex r1 h1, kit_ty h2, k _ _ _ _ _ _ .refl ok (.bl _) h3⟩
  · exact h.elim
end

/-! ### subscripts -/
section
variable {K : PySem.W.Frag} {X : Cx} {a b : Expr} {da db : DE} {pos : Pos}
def lookD (kvs : List (Key × D)) (k : Key) : Option D := (kvs.find? fun kv => decide (kv.1 = k)).map (·.2)
theorem lookD_rp {as : AsM} {H : Hp} {k : Key} : ∀ {ds : List (Key × D)} {vs : List (Key × V)} {d : D}, RpK K as H vs ds → lookD ds k = some d → ∃ v, valV vs k = some v ∧ Rp K as H v d
  | [], _, _, h, e => by cases e
  | (j, x) :: ds, _, d, h, e => by
    cases h with
    | cons h1 h2 =>
      by_cases q : j = k
      · subst q
        have : lookD ((j, x) :: ds) j = some x := by simp [lookD, List.find?_cons]
        rw [this] at e; cases e
        exact ⟨_, valV_pos rfl, h1⟩
      · have e1 : lookD ((j, x) :: ds) k = lookD ds k := by simp [lookD, List.find?_cons, q]
        rw [e1] at e
        obtain ⟨v, g1, g2⟩ := lookD_rp h2 e
        exact ⟨v, by rw [valV_neg q]; exact g1, g2⟩
def dIxF : DF := fun x y c R => match x, y with
  | .lst ds, .int i => ∃ d, atI ds i = some d ∧ R d c
  | .slst ds, .int i => ∃ d, atI ds i = some d ∧ R d c
  | .tup ds, .int i => ∃ d, atI ds i = some d ∧ R d c
  | .cel k, .int i => ∃ ds d, c.cs k = some (.lst ds) ∧ atI ds i = some d ∧ R d c
  | .str s, .int i => ∃ ch, s.length ≤ sizeLine ∧ atI s.cps.toList i = some ch ∧ R (.str ⟨#[ch]⟩) c
  | .dic kvs, .int i => ∃ d, lookD kvs (.inl i) = some d ∧ R d c
  | .dic kvs, .str s => ∃ d, lookD kvs (.inr s) = some d ∧ R d c
  | _, _ => False
theorem atI_rp {as : AsM} {H : Hp} {vs : List V} {ds : List D} {i : Int} {d : D} (r : RpA K as H vs ds) (h : atI ds i = some d) : ∃ v, atI vs i = some v ∧ Rp K as H v d := by
  unfold atI at h ⊢
  rw [r.length]
  cases q : ixN ds.length i with
  | none => rw [q] at h; cases h
  | some j => rw [q] at h; exact r.get h
def rIxDic : R2 := fun x y H Q => ∃ a v, x = .ref a ∧ DGet H a y (some v) ∧ Q v H
theorem ix_dic (hu : X.A.units + 1 < cLine) : IxR X rIxDic := by
  intro value slice pins s σ H x y v u Q I rx ry ⟨a, z, e, g, q⟩ hs
  subst e
  cases rx
  exact PyProof.Rows.tail_any (dict_typeIs I g) PySem.F.slot_dict_getitem.lookup (d_getItem hu I g ry fun w' s3 I3 rw' => ⟨z, H, I3, rw', q⟩) hs
def rIx4 (K : PySem.W.Frag) : R2 := fun x y H Q => rIx K x y H Q ∨ rIxDic x y H Q
theorem opD_ix : OpD K (rIx4 K) dIxF := by
  intro as H0 H σ c v1 v2 d1 d2 R Q ok r1 r2 h k
  unfold dIxF at h
  split at h
  · obtain ⟨d, h1, h2⟩ := h
    cases r2
    cases r1 with
    | lst g1 g2 =>
      obtain ⟨v, e1, e2⟩ := atI_rp g2 h1
      exact .inl (.inl ⟨_, _, _, v, rfl, rfl, SqL.of (ok.c.ex _ _ g1), e1, k _ _ _ _ _ _ .refl ok e2 h2⟩)
  · obtain ⟨d, h1, h2⟩ := h
    cases r2
    cases r1 with
    | slst g1 g2 =>
      obtain ⟨v, e1, e2⟩ := atI_rp g2 h1
      exact .inl (.inl ⟨_, _, _, v, rfl, rfl, seqL_mono ok.c.ex g1, e1, k _ _ _ _ _ _ .refl ok e2 h2⟩)
  · obtain ⟨d, h1, h2⟩ := h
    cases r2
    cases r1 with
    | tup g1 g2 =>
      obtain ⟨v, e1, e2⟩ := atI_rp g2 h1
      exact .inl (.inr (.inl ⟨_, _, _, v, rfl, rfl, seqT_mono ok.c.ex g1, e1, k _ _ _ _ _ _ .refl ok e2 h2⟩))
  · obtain ⟨ds, d, h0, h1, h2⟩ := h
    cases r2
    obtain ⟨p, us, rfl, _, g3, g4⟩ := cell_lst ok r1 h0
    obtain ⟨v, e1, e2⟩ := atI_rp g4 h1
    exact .inl (.inl ⟨_, _, _, v, rfl, rfl, SqL.of g3, e1, k _ _ _ _ _ _ .refl ok e2 h2⟩)
  · obtain ⟨ch, h0, h1, h2⟩ := h
    cases r1; cases r2
    exact .inl (.inr (.inr ⟨_, _, ch, rfl, rfl, h0, h1, k _ _ _ _ _ _ .refl ok (.str _) h2⟩))
  · rename_i kvs i
    obtain ⟨d, h1, h2⟩ := h
    cases r2
    cases r1 with
    | dic g1 g2 =>
      obtain ⟨v, e1, e2⟩ := lookD_rp g2 h1
      have g : DGet H _ (kV (Sum.inl i)) _ := .inl ⟨_, _, .inr ⟨_, ok.c.ex _ _ g1⟩, rfl, rfl⟩
      rw [e1] at g
      exact .inr ⟨_, v, rfl, g, k _ _ _ _ _ _ .refl ok e2 h2⟩
  · rename_i kvs i
    obtain ⟨d, h1, h2⟩ := h
    cases r2
    cases r1 with
    | dic g1 g2 =>
      obtain ⟨v, e1, e2⟩ := lookD_rp g2 h1
      have g : DGet H _ (kV (Sum.inr i)) _ := .inl ⟨_, _, .inr ⟨_, ok.c.ex _ _ g1⟩, rfl, rfl⟩
      rw [e1] at g
      exact .inr ⟨_, v, rfl, g, k _ _ _ _ _ _ .refl ok e2 h2⟩
  · exact h.elim
theorem pd_ix (hu : X.A.units + 1 < cLine) (ha : PD X a da) (hb : PD X b db) (hs : PlainIx b) : PD X (.Subscript a b pos) (dBin dIxF da db) := pe_imp (pe_ix (ix_seq.or (ix_dic hu)) ha hb hs) (lift_op opD_ix)

/-! #### slices -/
abbrev DO := Z → (Option Int → Z → Prop) → Prop
def liftO (K : PySem.W.Frag) (do_ : DO) : TO := fun σ H Q => ∃ as H0 c R, Ok K as H0 H σ c ∧ do_ c R ∧ ∀ as' H0' H' c' o, Le as H0 as' H0' → Ok K as' H0' H' σ c' → R o c' → Q o H'
def dNoPart : DO := fun c R => R none c
def dPart (da : DE) : DO := fun c R => da c fun x c1 => match x with | .int i => R (some i) c1 | _ => False
theorem po_imp {e : Option Expr} {t t' : TO} (h : PO X e t) (i : ∀ σ H Q, t' σ H Q → t σ H Q) : PO X e t' := ⟨fun pins s σ H Q I q => h.run pins s σ H Q I (i σ H Q q)⟩
abbrev PDO (X : Cx) (e : Option Expr) (d : DO) : Prop := PO X e (liftO X.K d)
theorem pdo_none : PDO X none dNoPart := po_imp po_none fun σ H Q ⟨as, H0, c, R, ok, q, k⟩ => k _ _ _ _ _ .refl ok q
theorem pdo_some (ha : PD X a da) : PDO X (some a) (dPart da) := po_imp (po_some ha) fun σ H Q ⟨as, H0, c, R, ok, q, k⟩ => ⟨as, H0, c, _, ok, q, fun as1 H1 Hn c1 v d l1 ok1 r1 q1 => by
  cases d with
  | int i => cases r1; exact ⟨i, rfl, k _ _ _ _ _ l1 ok1 q1⟩
  | _ => exact q1.elim⟩
def cutD (xs : List D) (lo hi : Option Int) : List D := (xs.drop (HT.sIx xs.length 0 lo)).take (HT.sIx xs.length xs.length hi - HT.sIx xs.length 0 lo)
theorem cut_rp {as : AsM} {H : Hp} {vs : List V} {ds : List D} {lo hi : Option Int} (r : RpA K as H vs ds) : RpA K as H (cutV vs lo hi) (cutD ds lo hi) := by
  unfold cutV cutD
  rw [r.length]
  exact (r.drop _).take _
def dSlF : D → Option Int → Option Int → Z → (D → Z → Prop) → Prop := fun x lo hi c R => match x with
  | .lst ds => R (.lst (cutD ds lo hi)) c
  | .slst ds => R (.lst (cutD ds lo hi)) c
  | .tup ds => ¬ (HT.sIx ds.length 0 lo = 0 ∧ HT.sIx ds.length ds.length hi = ds.length) ∧ R (.tup (cutD ds lo hi)) c
  | .str s => s.length ≤ sizeLine ∧ R (.str (cutS s lo hi)) c
  | _ => False
def dSl (da : DE) (dl dh : DO) : DE := fun c R => da c fun x c1 => dl c1 fun lo c2 => dh c2 fun hi c3 => dSlF x lo hi c3 R
theorem pd_slice {lo hi : Option Expr} {dl dh : DO} {p2 : Pos} (ha : PD X a da) (hl : PDO X lo dl) (hh : PDO X hi dh) : PD X (.Subscript a (.Slice lo hi none p2) pos) (dSl da dl dh) :=
  pe_imp (pe_slice (sl_list.or (sl_tup.or sl_str)) ha hl hh) fun σ H Q ⟨as, H0, c, R, ok, q, k⟩ => ⟨as, H0, c, _, ok, q, fun as1 H1 Hn c1 v d l1 ok1 r1 q1 => ⟨as1, H1, c1, _, ok1, q1, fun as2 H2 Hn2 c2 lo l2 ok2 q2 => ⟨as2, H2, c2, _, ok2, q2, fun as3 H3 Hn3 c3 hi l3 ok3 q3 => by
    have r3 := r1.mono (l2.trans l3)
    have l := (l1.trans l2).trans l3
    unfold dSlF at q3
    split at q3
    · cases r3 with
      | lst g1 g2 =>
        refine .inl ⟨_, _, rfl, SqL.of (ok3.c.ex _ _ g1), fun p hp => ?_⟩
        obtain ⟨l', ok'⟩ := new_known (o := .lst _) ok3 hp
        exact k _ _ _ _ _ _ (l.trans l') ok' (rp_lst l' (cut_rp g2)) q3
    · cases r3 with
      | slst g1 g2 =>
        refine .inl ⟨_, _, rfl, seqL_mono ok3.c.ex g1, fun p hp => ?_⟩
        obtain ⟨l', ok'⟩ := new_known (o := .lst _) ok3 hp
        exact k _ _ _ _ _ _ (l.trans l') ok' (rp_lst l' (cut_rp g2)) q3
    · cases r3 with
      | tup g1 g2 =>
        refine .inr (.inl ⟨_, _, rfl, seqT_mono ok3.c.ex g1, by rw [g2.length]; exact q3.1, fun p hp => ?_⟩)
        obtain ⟨l', ok'⟩ := new_known (o := .tup _) ok3 hp
        exact k _ _ _ _ _ _ (l.trans l') ok' (rp_tup l' (cut_rp g2)) q3.2
    · cases r3
      exact .inr (.inr ⟨_, rfl, q3.1, k _ _ _ _ _ _ l ok3 (.str _) q3.2⟩)
    · exact q3.elim⟩⟩⟩
end

/-! ### statements -/
section
variable {K : PySem.W.Frag} {X : Cx} {e tg : Expr} {st : Stmt} {rest : List Stmt} {da : DE} {pos : Pos} {s1 s2 : DS}
def sNext : DS := fun DD c => DD.nx c
def sSeq (s t : DS) : DS := fun DD c => s { DD with nx := t DD } c
def sAsg (da : DE) (i : Nat) : DS := fun DD c => da c fun d c1 => DD.nx { c1 with env := c1.env.set i (some d) }
def sRet (da : DE) : DS := fun DD c => da c fun d c1 => DD.rt d c1.cs
def sRetN : DS := fun DD c => DD.rt .non c.cs
def sDrop (da : DE) : DS := fun DD c => da c fun _ c1 => DD.nx c1
def sIf (t : DT) (s u : DS) : DS := fun DD c => t c fun b c1 => match b with | true => s DD c1 | false => u DD c1
def sBreak : DS := fun DD c => DD.bk c
def sCont : DS := fun DD c => DD.ct c
theorem pdb_nil : PDB X [] sNext := fun W tk => pss_imp pss_nil fun Dn σ H ⟨as, H0, c, DD, ok, q, k⟩ => k.nx _ _ _ _ _ .refl ok q
theorem pdb_one (h : PDS X st s1) : PDB X [st] s1 := fun W tk => pss_imp (pss_one (h W tk)) fun _ _ _ q => q
theorem pdb_cons (h : PDS X st s1) (g : PDB X rest s2) : PDB X (st :: rest) (sSeq s1 s2) := fun W tk => pss_imp (pss_cons (h W tk) (g W tk)) fun Dn σ H ⟨as, H0, c, DD, ok, q, k⟩ => ⟨as, H0, c, _, ok, q, ⟨fun as1 H1 Hn σ1 c1 l1 ok1 q1 => ⟨as1, H1, c1, DD, ok1, q1, k.mono l1⟩, k.bk, k.ct, k.rt, k.xx⟩⟩
theorem pds_ret (h : PD X e da) : PDS X (.Return (some e) pos) (sRet da) := fun W tk => ps_imp (ps_ret h) fun Dn σ H ⟨as, H0, c, DD, ok, q, k⟩ => ⟨as, H0, c, _, ok, q, fun as1 H1 Hn c1 v d l1 ok1 r1 q1 => k.rt _ _ _ _ _ _ l1 ok1.c r1 q1⟩
theorem pds_expr (h : PD X e da) (hs : swapsWith e none pos.line X.env = pure false := by rfl) : PDS X (.Expr e pos) (sDrop da) := fun W tk => ps_imp (ps_expr h hs) fun Dn σ H ⟨as, H0, c, DD, ok, q, k⟩ => ⟨as, H0, c, _, ok, q, fun as1 H1 Hn c1 v d l1 ok1 r1 q1 => k.nx _ _ _ _ _ l1 ok1 q1⟩
theorem pds_if {t : DT} {a b : List Stmt} (ht : PDT X e t) (ha : PDB X a s1) (hb : PDB X b s2) : PDS X (.If e a b pos) (sIf t s1 s2) := fun W tk => ps_imp (ps_if ht (ha W tk) (hb W tk)) fun Dn σ H ⟨as, H0, c, DD, ok, q, k⟩ => ⟨as, H0, c, _, ok, q, fun as1 H1 Hn c1 z l1 ok1 q1 => by
    cases z with
    | true => exact iteT ⟨as1, H1, c1, DD, ok1, q1, k.mono l1⟩
    | false => exact iteF ⟨as1, H1, c1, DD, ok1, q1, k.mono l1⟩⟩
theorem pds_set {i : Nat} {x : Str} {pos' : Pos} (hN : X.N.Nodup) (hi : X.N[i]? = some x) (hx : Loc X.env.scope x) (h : PD X e da) (hs : swapsWith e (some (.Name x pos')) pos.line X.env = pure false := by rfl)
    (hf : X.fn x = true ∨ X.env.scope.names.lookup x = some .local := by first | exact .inl rfl | exact .inr rfl | assumption) : PDS X (.Assign [.Name x pos'] e pos) (sAsg da i) := fun W tk => ps_imp (ps_set hN hi hx h hs hf) fun Dn σ H ⟨as, H0, c, DD, ok, q, k⟩ => ⟨as, H0, c, _, ok, q, fun as1 H1 Hn c1 v d l1 ok1 r1 q1 =>
    k.nx _ _ _ _ _ l1 (⟨ok1.c, ok1.e.set i r1⟩ : Ok X.K as1 H1 Hn (σ.set i (some v)) { c1 with env := c1.env.set i (some d) }) q1⟩
/-- targets -/
abbrev DG := D → Z → (Z → Prop) → Prop
def liftG (K : PySem.W.Frag) (dg : DG) : TG := fun v σ H Q => ∃ (as : AsM) (H0 : Hp) (c : Z) (d : D) (R : Z → Prop), Ok K as H0 H σ c ∧ Rp K as H0 v d ∧ dg d c R ∧ ∀ (as' : AsM) (H0' H' : Hp) (σ' : L2.St) (c' : Z), Le as H0 as' H0' → Ok K as' H0' H' σ' c' → R c' → Q σ' H'
def pg_imp {e : Expr} {t t' : TG} (h : PG X e t) (i : ∀ v σ H Q, t' v σ H Q → t v σ H Q) : PG X e t' := ⟨fun pins s σ H x u Q I r q => h.run pins s σ H x u Q I r (i _ _ _ _ q)⟩
abbrev PDG (X : Cx) (e : Expr) (dg : DG) : Prop := PG X e (liftG X.K dg)
def gNm (i : Nat) : DG := fun d c R => R { c with env := c.env.set i (some d) }
theorem pdg_name {i : Nat} {x : Str} (hN : X.N.Nodup) (hi : X.N[i]? = some x) (hx : Loc X.env.scope x) (hf : X.fn x = true ∨ X.env.scope.names.lookup x = some .local := by first | exact .inl rfl | exact .inr rfl | assumption) : PDG X (.Name x pos) (gNm i) :=
  pg_imp (pg_name hN hi hx hf) fun v σ H Q ⟨as, H0, c, d, R, ok, r, q, k⟩ => k _ _ _ _ _ .refl (⟨ok.c, ok.e.set i r⟩ : Ok X.K as H0 H (σ.set i (some v)) { c with env := c.env.set i (some d) }) q
def gList : List DG → List D → Z → (Z → Prop) → Prop
  | [], [], c, R => R c
  | g :: gs, d :: ds, c, R => g d c fun c1 => gList gs ds c1 R
  | _, _, _, _ => False
def gTp (gs : List DG) : DG := fun d c R => ∃ ds, d = .tup ds ∧ ds.length = gs.length ∧ gList gs ds c R
def liftGs (K : PySem.W.Frag) (gs : List DG) : TGs := fun vs σ H Q => ∃ (as : AsM) (H0 : Hp) (c : Z) (ds : List D) (R : Z → Prop), Ok K as H0 H σ c ∧ RpA K as H0 vs ds ∧ gList gs ds c R ∧ ∀ (as' : AsM) (H0' H' : Hp) (σ' : L2.St) (c' : Z), Le as H0 as' H0' → Ok K as' H0' H' σ' c' → R c' → Q σ' H'
def pgs_imp {e : List Expr} {t t' : TGs} (h : PGs X e t) (i : ∀ v σ H Q, t' v σ H Q → t v σ H Q) : PGs X e t' := ⟨fun pins s σ H x u Q I r q => h.run pins s σ H x u Q I r (i _ _ _ _ q)⟩

theorem pdgs_nil : PGs X [] (liftGs X.K []) := pgs_imp pgs_nil fun v σ H Q ⟨as, H0, c, ds, R, ok, r, q, k⟩ => by
  cases ds with
  | nil => cases r; exact ⟨rfl, k _ _ _ _ _ .refl ok q⟩
  | cons d ds => exact q.elim
theorem pdgs_cons {es : List Expr} {g : DG} {gs : List DG} (h1 : PDG X e g) (h2 : PGs X es (liftGs X.K gs)) (hs : (assignEach (e :: es) X.env).map (·.2) = assign e X.env :: (assignEach es X.env).map (·.2) := by rfl) : PGs X (e :: es) (liftGs X.K (g :: gs)) :=
  pgs_imp (pgs_cons h1 h2 hs) fun v σ H Q ⟨as, H0, c, ds, R, ok, r, q, k⟩ => by
    cases ds with
    | nil => exact q.elim
    | cons d ds =>
      cases r with
      | cons r1 r2 =>
        exact ⟨_, _, rfl, as, H0, c, d, _, ok, r1, q, fun as1 H1 Hn σ1 c1 l1 ok1 q1 => ⟨as1, H1, c1, ds, R, ok1, r2.mono l1, q1, fun _ _ _ _ _ l2 ok2 q2 => k _ _ _ _ _ (l1.trans l2) ok2 q2⟩⟩
theorem pdg_tup {es : List Expr} {kk : Nat} {gs : List DG} (hc : X.calm = true) (h : PGs X es (liftGs X.K gs)) (hn : (assignEach es X.env).length = gs.length := by rfl) (hst : (assignEach es X.env).findIdx? (·.1) = none := by rfl) : PDG X (.Tuple es kk pos) (gTp gs) :=
  pg_imp (pg_tup hc h hn hst) fun v σ H Q ⟨as, H0, c, d, R, ok, r, ⟨ds, e, hl, q⟩, k⟩ => by
    subst e
    cases r with
    | tup g1 g2 => exact ⟨_, _, rfl, seqT_mono ok.c.ex g1, by rw [g2.length]; exact hl, as, H0, c, ds, R, ok, g2, q, k⟩
/-- o[i] = v, o a list that changes -/
def gIx (do_ di : DE) : DG := fun v c R => do_ c fun o c1 => di c1 fun i c2 => match o, i with
  | .cel k, .int j => ∃ ds n, c2.cs k = some (.lst ds) ∧ ixN ds.length j = some n ∧ R { c2 with cs := put c2.cs k (.lst (ds.set n v)) }
  | _, _ => False
theorem cell_set {as : AsM} {H0 H : Hp} {σ : L2.St} {c : Z} {k : Nat} {p : Addr} {u : HO} {o o0 : Co} (ok : Ok K as H0 H σ c) (hk : c.cs k = some o0) (hp : as k = some p) (r : RpC K as H0 p u o) :
    Ok K as H0 (upd H p u) σ { c with cs := put c.cs k o } := ⟨ok.c.turn hk hp r, ok.e⟩
theorem pdg_ix {o i : Expr} {do_ di : DE} (ho : PD X o do_) (hi : PD X i di)
    (ha : ∀ v, assign (.Subscript o i pos) X.env v = (do
      let ov ← holding [v] (eval o X.env)
      let iv ← holding [v, ov] (eval i X.env)
      standAt pos
      holding [v, ov, iv] (setItem ov iv v)
      release [v, ov, iv] []) := by intro _; rfl) : PDG X (.Subscript o i pos) (gIx do_ di) :=
  pg_imp (pg_sub ho hi set_list ha) fun v σ H Q ⟨as, H0, c, d, R, ok, r, q, k⟩ => ⟨as, H0, c, _, ok, q, fun as1 H1 Hn c1 v1 d1 l1 ok1 r1 q1 => ⟨as1, H1, c1, _, ok1, q1, fun as2 H2 Hn2 c2 v2 d2 l2 ok2 r2 q2 => by
    cases d1 with
    | cel j =>
      cases d2 with
      | int z =>
        obtain ⟨ds, n, e1, e2, q3⟩ := q2
        cases r2
        obtain ⟨p, us, rfl, hp, g3, g4⟩ := cell_lst ok2 (r1.mono l2) e1
        refine ⟨_, _, _, n, rfl, rfl, g3, by rw [g4.length]; exact e2, ?_⟩
        exact k _ _ _ _ _ (l1.trans l2) (cell_set ok2 e1 hp (.lst (g4.set n (r.mono (l1.trans l2))))) q3
      | _ => exact q2.elim
    | _ => cases d2 <;> exact q2.elim⟩⟩
def sAsgG (da : DE) (g : DG) : DS := fun DD c => da c fun d c1 => g d c1 DD.nx
theorem pds_asg {g : DG} (he : PD X e da) (hg : PDG X tg g) (hs : swapsWithSole [tg] e pos.line X.env = pure false := by rfl) (hw : swappedStores [tg] e X.env = pure none := by rfl) (h1 : (assignEach [tg] X.env).map (·.2) = [assign tg X.env] := by rfl) : PDS X (.Assign [tg] e pos) (sAsgG da g) := fun W tk => ps_imp (ps_asg he hg hs hw h1) fun Dn σ H ⟨as, H0, c, DD, ok, q, k⟩ => ⟨as, H0, c, _, ok, q, fun as1 H1 Hn c1 v d l1 ok1 r1 q1 => ⟨as1, H1, c1, d, _, ok1, r1, q1, fun as2 H2 Hn2 σ2 c2 l2 ok2 q2 => k.nx _ _ _ _ _ (l1.trans l2) ok2 q2⟩⟩
/-- a, b = e1, e2 -/
def sPar (i j : Nat) (da : DA) : DS := fun DD c => da c fun ds c1 => match ds with
  | [d1, d2] => DD.nx { c1 with env := (c1.env.set i (some d1)).set j (some d2) }
  | _ => False
theorem pds_par {i j : Nat} {st : Stmt} {dr : DA} (t : PS X st (tPar i j (liftA X.K dr))) : PDS X st (sPar i j dr) :=
  fun W tk => ps_imp t fun Dn σ H ⟨as, H0, c, DD, ok, q, k⟩ => ⟨as, H0, c, _, ok, q, fun as1 H1 Hn c1 vs ds l1 ok1 r1 q1 => by
    match ds, q1 with
    | [d1, d2], q1 =>
      obtain ⟨v, u, rfl, g1, g2⟩ := rpa2 r1
      exact ⟨v, u, rfl, k.nx _ _ _ _ _ l1 (⟨ok1.c, (ok1.e.set i g1).set j g2⟩ : Ok X.K as1 H1 Hn ((σ.set i (some v)).set j (some u)) { c1 with env := (c1.env.set i (some d1)).set j (some d2) }) q1⟩⟩
end

/-! ### loops -/
section
variable {K : PySem.W.Frag} {X : Cx} {e tg : Expr} {body : List Stmt} {da : DE} {pos : Pos} {sb : DS}
/-- what a loop walks: a list of things, told ahead -/
abbrev DI := Z → (List D → Z → Prop) → Prop
def sFor (di : DI) (g : DG) (sb : DS) : DS := fun DD c => di c fun ds c1 => ∃ I : Nat → Z → Prop, I 0 c1 ∧
  (∀ i d c2, ds[i]? = some d → I i c2 → g d c2 fun c3 => sb { DD with nx := I (i + 1), ct := I (i + 1), bk := DD.nx } c3) ∧ ∀ c2, I ds.length c2 → DD.nx c2
/-- W of the low side -/
def lowI (K : PySem.W.Frag) (as : AsM) (H0 : Hp) (I : Z → Prop) (σ : L2.St) (H : Hp) : Prop := ∃ as' H0' c', Le as H0 as' H0' ∧ Ok K as' H0' H σ c' ∧ I c'
def iSeq (da : DE) : DI := fun c R => da c fun d c1 => ∃ ds, listD d = some ds ∧ R ds c1
def iTp (da : DE) : DI := fun c R => da c fun d c1 => ∃ ds, d = .tup ds ∧ R ds c1
def rangeD (lo : Int) (n : Nat) : List D := (List.range n).map fun i : Nat => D.int (lo + (i : Int))
@[simp] theorem rangeD_length {lo : Int} {n : Nat} : (rangeD lo n).length = n := by unfold rangeD; rw [List.length_map, List.length_range]
theorem rangeD_at {lo : Int} {n i : Nat} (h : i < n) : (rangeD lo n)[i]? = some (.int (lo + (i : Int))) := by
  unfold rangeD; rw [List.getElem?_map, List.getElem?_range h]; rfl
theorem rangeD_get {lo : Int} {n i : Nat} {d : D} (h : (rangeD lo n)[i]? = some d) : i < n ∧ d = .int (lo + (i : Int)) := by
  have hi : i < n := by
    rcases Nat.lt_or_ge i n with q | q
    · exact q
    · rw [List.getElem?_eq_none (by rw [rangeD_length]; exact q)] at h; cases h
  rw [rangeD_at hi] at h; cases h; exact ⟨hi, rfl⟩
def iRng1 (da : DA) : DI := fun c R => da c fun ds c1 => match ds with
  | [.int n] => -(2 ^ 62) ≤ n ∧ n < 2 ^ 62 ∧ R (rangeD 0 n.toNat) c1
  | _ => False
def iRng2 (da : DA) : DI := fun c R => da c fun ds c1 => match ds with
  | [.int lo, .int hi] => (-(2 ^ 62) ≤ lo ∧ lo < 2 ^ 62 ∧ -(2 ^ 62) ≤ hi ∧ hi < 2 ^ 62) ∧ R (rangeD lo (hi - lo).toNat) c1
  | _ => False
theorem for_low {mg : Str → Option Value} {W : WX} {dg : DG} {I : Nat → Z → Prop} {DD : DEnds} {Dn : Ends} {as : AsM} {H0 : Hp} {n i : Nat} {v : V} {d : D} {σ : L2.St} {H : Hp} (k : Exits K mg W as H0 DD Dn)
    (st : ∀ c2, I i c2 → dg d c2 fun c3 => sb { DD with nx := I (i + 1), ct := I (i + 1), bk := DD.nx } c3) (h : ∃ as' H0' c', Le as H0 as' H0' ∧ Ok K as' H0' H σ c' ∧ I i c' ∧ Rp K as' H0' v d) :
    liftG K dg v σ H fun σ2 H2 => liftS K mg W sb { Dn with nx := lowI K as H0 (I (i + 1)), ct := lowI K as H0 (I (i + 1)), bk := Dn.nx } σ2 H2 := by
  obtain ⟨as1, H1, c1, l1, ok1, i1, r1⟩ := h
  refine ⟨as1, H1, c1, d, _, ok1, r1, st c1 i1, fun as2 H2 Hn2 σ2 c2 l2 ok2 q2 => ⟨as2, H2, c2, _, ok2, q2, ?_⟩⟩
  have l := l1.trans l2
  exact ⟨fun _ _ _ _ _ l3 ok3 q3 => ⟨_, _, _, l.trans l3, ok3, q3⟩, fun _ _ _ _ _ l3 ok3 q3 => k.nx _ _ _ _ _ (l.trans l3) ok3 q3, fun _ _ _ _ _ l3 ok3 q3 => ⟨_, _, _, l.trans l3, ok3, q3⟩, fun _ _ _ _ _ _ l3 ok3 r3 q3 => k.rt _ _ _ _ _ _ (l.trans l3) ok3 r3 q3, k.xx.mono l⟩
/-- while: a measure that falls -/
def sWhile (t : DT) (sb : DS) : DS := fun DD c => ∃ I : Nat → Z → Prop, (∃ m, I m c) ∧ ∀ m c1, I m c1 → t c1 fun b c2 => match b with
  | true => sb { DD with nx := fun c3 => ∃ m', m' < m ∧ I m' c3, ct := fun c3 => ∃ m', m' < m ∧ I m' c3, bk := DD.nx } c2
  | false => DD.nx c2
theorem pds_while {t : DT} (hp : PassesOwn (model X.prog X.w) X.A X.env X.xe) (ht : PDT X e t) (hb : PDB X body sb) : PDS X (.While e body [] pos) (sWhile t sb) :=
  fun W tk => ps_imp (ps_while hp ht (hb W tk)) fun Dn σ H ⟨as, H0, c, DD, ok, ⟨I, ⟨m, i0⟩, st⟩, k⟩ => ⟨fun m => lowI X.K as H0 (I m), ⟨m, as, H0, c, .refl, ok, i0⟩, fun m σ' H' ⟨as1, H1, c1, l1, ok1, i1⟩ => ⟨as1, H1, c1, _, ok1, st m c1 i1, fun as2 H2 Hn2 c2 b l2 ok2 q2 => by
    cases b with
    | true =>
      refine iteT ⟨fun σ3 H3 => ∃ m', m' < m ∧ lowI X.K as H0 (I m') σ3 H3, fun _ _ z => z, as2, H2, c2, _, ok2, q2, ?_⟩
      have l := l1.trans l2
      exact ⟨fun _ _ _ _ _ l3 ok3 ⟨m', h1, h2⟩ => ⟨m', h1, _, _, _, l.trans l3, ok3, h2⟩, fun _ _ _ _ _ l3 ok3 q3 => k.nx _ _ _ _ _ (l.trans l3) ok3 q3, fun _ _ _ _ _ l3 ok3 ⟨m', h1, h2⟩ => ⟨m', h1, _, _, _, l.trans l3, ok3, h2⟩, fun _ _ _ _ _ _ l3 ok3 r3 q3 => k.rt _ _ _ _ _ _ (l.trans l3) ok3 r3 q3, k.xx.mono l⟩
    | false => exact iteF (k.nx _ _ _ _ _ (l1.trans l2) ok2 q2)⟩⟩
end
end DL

namespace DL
open PySem L2

/-! ### defs, where nothing is being written out (guards) -/
structure FnG (P : Program) (w : World) (K : PySem.W.Frag) (mg : Str → Option Value) (base : Heap) (CX : CXT) (k : Nat) (f : Addr) (fd : FuncData) (ps : List Str) (sp : Sp) : Prop where
  len : ∀ vs H Q E, sp vs H Q E → vs.length = ps.length
  run : ∀ (A : Around) (outer : List Env) (s : Shared) (H : Hp) (args : Args) (us : List Value) (vs : List V) (Q : VK) (E : XK), A.guards = some [] → Room k A → Env0 P w K mg base A outer s H → BindsTo s fd args (ps.zip us) → Vals vs us → sp vs H Q E →
    codeAny (model P w) A (.call (.ref f) args) (CR CX outer P w H s Q E) s
theorem FnG.mono {P : Program} {w : World} {K : PySem.W.Frag} {mg : Str → Option Value} {base : Heap} {CX : CXT} {j k : Nat} {f : Addr} {fd : FuncData} {ps : List Str} {sp : Sp} (F : FnG P w K mg base CX j f fd ps sp) (h : j ≤ k) : FnG P w K mg base CX k f fd ps sp :=
  ⟨F.len, fun A outer s H args us vs Q E hg hr => F.run A outer s H args us vs Q E hg (hr.mono h)⟩
section
variable {P : Program} {w : World} {K : PySem.W.Frag} {mg : Str → Option Value} {base : Heap}
theorem fnG_of {CX : CXT} {k : Nat} {f : Addr} {name qual : Str} {params : Arguments} {body : List Stmt} {scope : Scope} {dV kV doc pm cdv ct oc : Value} {an od : Option Addr} {osl : Array (Option Value)} {N ps : List Str} {sp : Sp}
    (lk : K.lookup f = some ⟨oc, od, .func (PySem.W.fnOf name qual params body scope dV kV doc pm an cdv ct), osl⟩) (hcd : PySem.W.codeIn K cdv qual = true) (S : FnScope N ps scope) (len : ∀ vs H Q E, sp vs H Q E → vs.length = ps.length)
    (hbody : ∀ (A : Around) (outer : List Env) (s : Shared) (H : Hp) (vs : List V) (Q : VK) (E : XK), A.guards = some [] → Room k (A.deeper (PyProof.Rows.envOfC qual scope s.heap.objs.size f cdv)) → sp vs H Q E →
      ∃ t, PSs (cxOf CX P w K mg base N qual scope f cdv A outer s H E) body t ∧ t { nx := fun _ H' => Q .non H', rt := Q } (L2.start N vs) H) : FnG P w K mg base CX (k + 1) f (PySem.W.fnOf name qual params body scope dV kV doc pm an cdv ct) ps sp := by
  refine ⟨len, ?_⟩
  intro A outer s H args us vs Q E hg hr e0 hb r hsp
  have same : ∀ b o, base.get? b = some o → s.heap.get? b = some o := fun b o e => (e0.bs b o e).1
  have KX : K.In s.heap := e0.mod.kin.keeps same
  have lim : s.heap.NoLimit := e0.mod.nolimit.keeps same
  have kinds : ∀ y ∈ ps.zip us, scope.names.lookup y.1 = some .local ∨ (scope.names.lookup y.1 = some .cell ∧ ((cellsFrom (s.heap.objs.size + 1) scope.names []).lookup y.1).isSome = true) := by
    rintro ⟨n, v⟩ hy
    rcases S.par n (List.of_mem_zip hy).1 with q | q
    · exact .inl q
    · exact .inr ⟨q, PySem.W.cellsFrom_some _ _ _ (.inl q)⟩
  apply codeAny_call_function hr.depth (KX _ _ lk) rfl S.co S.gen rfl (PySem.W.codeRec_of KX hcd)
  apply hb
  apply wpAny_newFunctionEnv_cells S.kind kinds
  intro env he s1 x
  subst he
  refine ⟨lim.keeps x.toInCall.keep, codeAny_func ?_⟩
  obtain ⟨t, ht, hq⟩ := hbody A outer s H vs Q E hg (hr.deeper _) hsp
  have I := inv_start (CX := CX) (E := E) (outer := outer) (f := f) (cd := cdv) S hr.hd e0 (len _ _ _ _ hsp) r x
  refine wpAny_mono (ht.run [] s1 (L2.start N vs) H _ I hq) (fun fl s' hs => ?_) (fun e s' hs => hs)
  cases fl with
  | ret u => exact let ⟨v, σ', H', J, rv, q⟩ := hs; ⟨v, H', J.os, J.bare, J.base, J.hok, rv, q⟩
  | next => exact let ⟨σ', H', J, q⟩ := hs; ⟨V.non, H', J.os, J.bare, J.base, J.hok, rfl, q⟩
  | brk => exact let ⟨_, _, _, q⟩ := hs; False.elim q
  | cont => exact let ⟨_, _, _, q⟩ := hs; False.elim q
end

/-! ### what a def does, by data -/
abbrev Sem := List D → Cells → (D → Cells → Prop) → Prop
def FnD (K : PySem.W.Frag) (sem : Sem) : Sp := fun vs H Q _ => ∃ as H0 ds cs R, OkC K as H0 H cs ∧ RpA K as H0 vs ds ∧ sem ds cs R ∧
  ∀ as' H0' H' cs' v d, Le as H0 as' H0' → OkC K as' H0' H' cs' → Rp K as' H0' v d → R d cs' → Q v H'
/-- how a call binds: n values by place, keywords named ks -/
structure Bnd (K : PySem.W.Frag) (fd : FuncData) (ps : List Str) (n : Nat) (ks : List Str) (gD : List D → List D → List D) : Prop where
  bd : ∃ g : List Value → List Value → List Value, (∀ (s : Shared) (us ws : List Value), K.In s.heap → us.length = n → ws.length = ks.length → BindsTo s fd ⟨us, ks.zip ws⟩ (ps.zip (g us ws))) ∧
    ∀ {as : AsM} {H : Hp} {vs zs : List V} {us ws : List Value} {ds es : List D}, vs.length = n → zs.length = ks.length → Vals vs us → RpA K as H vs ds → Vals zs ws → RpA K as H zs es → ∃ vs', Vals vs' (g us ws) ∧ RpA K as H vs' (gD ds es)
def dFn (n : Nat) (sem : Sem) (gD : List D → List D → List D) (da : DA) : DE := fun c R => da c fun ds c1 => ds.length = n ∧ sem (gD ds []) c1.cs fun d cs' => R d { c1 with cs := cs' }
def dFnK (n m : Nat) (sem : Sem) (gD : List D → List D → List D) (da dk : DA) : DE := fun c R => da c fun ds c1 => dk c1 fun es c2 => ds.length = n ∧ es.length = m ∧ sem (gD ds es) c2.cs fun d cs' => R d { c2 with cs := cs' }
section
variable {X : Cx} {k n : Nat} {f : Addr} {fd : FuncData} {ps ks : List Str} {sem : Sem} {gD : List D → List D → List D} {x : Str} {p pos : Pos} {e : Expr} {es : List Expr} {kws : List Keyword} {da dk : DA}
theorem run_fnD {pins : List (Addr × Obj)} {σ : L2.St} {H : Hp} {s : Shared} {Q : VK} {us ws : List Value} {vs zs : List V} {as : AsM} {H0 : Hp} {c : Z} {ds es : List D} {R : D → Z → Prop}
    (F : FnG X.prog X.w X.K X.mg X.base CX0 k f fd ps (FnD X.K sem)) (hgd : X.A.guards = some []) (hr : Room k X.A) (hb : Bnd X.K fd ps n ks gD) (I : Inv X pins σ H s) (r : Vals vs us) (rz : Vals zs ws) (ok : Ok X.K as H0 H σ c) (rd : RpA X.K as H0 vs ds) (re : RpA X.K as H0 zs es)
    (l1 : ds.length = n) (l2 : es.length = ks.length) (h : sem (gD ds es) c.cs fun d cs' => R d { c with cs := cs' })
    (q : ∀ as' H0' H' c' v d, Le as H0 as' H0' → Ok X.K as' H0' H' σ c' → Rp X.K as' H0' v d → R d c' → Q v H') : wpAny (model X.prog X.w) X.A (call (.ref f) us (ks.zip ws)) (EP X pins σ Q) X.xe s := by
  obtain ⟨g, to, rel⟩ := hb.bd
  obtain ⟨vs', rv, rd'⟩ := rel (rd.length.trans l1) (re.length.trans l2) r rd rz re
  have sp : FnD X.K sem vs' H Q E0 := ⟨as, H0, _, c.cs, _, ok.c, rd', h, fun as' H0' H' cs' v d l oc rp hq => q as' H0' H' { c with cs := cs' } v d l ⟨oc, ok.e.mono l⟩ rp hq⟩
  refine wpAny_call (codeAny_mono (F.run X.A X.stack s H _ _ vs' Q E0 hgd hr I.env0 (to s us ws I.kIn (by rw [← r.length, rd.length, l1]) (by rw [← rz.length, re.length, l2])) rv sp) fun res s' hq => ?_)
  cases res with
  | error e => exact False.elim hq
  | ok fl =>
    cases fl with
    | ret u => exact I.after hq
    | _ => exact False.elim hq
theorem pd_fn (F : FnG X.prog X.w X.K X.mg X.base CX0 k f fd ps (FnD X.K sem)) (hgd : X.A.guards = some []) (hr : Room k X.A) (hg : Gl X x) (hm : X.mg x = some (.ref f)) (hk : PySem.W.keepIn X.K (.ref f) = true) (hb : Bnd X.K fd ps n [] gD)
    (ha : PDA X (e :: es) da) (hdb : (x == ("__debug__" : Str)) = false := by decide) (he : starEach (e :: es) X.env = (false, eval e X.env) :: starEach es X.env := by rfl) (hpl : (backTo pos (starEach es X.env)).any (·.1) = false := by rfl) :
    PD X (.Call (.Name x p) (e :: es) [] pos) (dFn n sem gD da) := by
  refine ⟨fun pins s σ H Q I ⟨as, H0, c, R, ok, q, kk⟩ => ?_⟩
  refine wpAny_Call_Name_kw (ld_glob I hg hm ?_ hdb)
  have arg : liftA X.K da σ H fun vs H1 => ∃ as1 H01 c1 ds, Le as H0 as1 H01 ∧ Ok X.K as1 H01 H1 σ c1 ∧ RpA X.K as1 H01 vs ds ∧ ds.length = n ∧ sem (gD ds []) c1.cs fun d cs' => R d { c1 with cs := cs' } :=
    ⟨as, H0, c, _, ok, q, fun as1 H1 Hn c1 vs ds l1 ok1 r1 ⟨z1, z2⟩ => ⟨as1, H1, c1, ds, l1, ok1, r1, z1, z2⟩⟩
  refine PySem.W.callWith_K (h₀ := X.base) I.ok.mod.kin hk (thn (ha.run pos pins s σ H _ I arg) fun us s1 ⟨vs, H1, I1, r, as1, H01, c1, ds, l1, ok1, rd, z1, z2⟩ => ⟨I1.kIn, ?_⟩) he hpl
  exact run_fnD (ws := []) F hgd hr hb I1 r .nil ok1 rd .nil z1 rfl z2 fun _ _ _ _ _ _ l ok' rp hq => kk _ _ _ _ _ _ (l1.trans l) ok' rp hq
theorem pdk_nil : PK X [] (liftA X.K dNil) := pk_imp pk_nil lift_nil
theorem pdk_cons {nm : Option Str} {kpos : Pos} {de : DE} (h : PD X e de) (g : PK X kws (liftA X.K dk)) : PK X (⟨nm, e, kpos⟩ :: kws) (liftA X.K (dCons de dk)) := pk_imp (pk_cons h g) lift_cons
end
/-! #### bindings -/
section
variable {K : PySem.W.Frag} {fd : FuncData} {ps : List Str}
/-- every parameter is written, by its place -/
theorem Bnd.all (h : Binds K fd ps []) : Bnd K fd ps ps.length [] (fun ds _ => ds) :=
  ⟨fun us _ => us, fun s us ws X l1 l2 => by
    have := h s us X (by rw [List.append_nil]; exact l1)
    rw [List.append_nil] at this
    exact this, fun l1 l2 r rd rz re => ⟨_, r, rd⟩⟩
/-- the last ones by their defaults -/
theorem Bnd.dfl {n : Nat} {dvs : List V} {ds0 : List Value} {dd : List D} (h : Binds K fd ps ds0) (r0 : Vals dvs ds0) (rd0 : ∀ as H, RpA K as H dvs dd) (hn : n + dd.length = ps.length) : Bnd K fd ps n [] (fun ds _ => ds ++ dd) :=
  ⟨fun us _ => us ++ ds0, fun s us ws X l1 l2 => h s us X (by rw [List.length_append, l1, ← r0.length, (rd0 (fun _ => none) (fun _ => none)).length]; exact hn), fun l1 l2 r rd rz re => ⟨_, r.append r0, rd.append (rd0 _ _)⟩⟩
/-- by place, then by keywords, in the parameters' order -/
theorem Bnd.kw {n : Nat} {ks : List Str} (h : ∀ (s : Shared) (us ws : List Value), K.In s.heap → us.length = n → ws.length = ks.length → BindsTo s fd ⟨us, ks.zip ws⟩ (ps.zip (us ++ ws))) : Bnd K fd ps n ks (fun ds es => ds ++ es) :=
  ⟨fun us ws => us ++ ws, fun s us ws X l1 l2 => h s us ws X l1 l2, fun l1 l2 r rd rz re => ⟨_, r.append rz, rd.append re⟩⟩
end

/-! ### a def by its body -/
section
variable {P : Program} {w : World} {K : PySem.W.Frag} {mg : Str → Option Value} {base : Heap}
def env0 (n : Nat) (ds : List D) : List (Option D) := ds.map some ++ List.replicate (n - ds.length) none
theorem env0_ok {as : AsM} {H0 : Hp} {N : List Str} {vs : List V} {ds : List D} (r : RpA K as H0 vs ds) : OkE K as H0 (L2.start N vs) (env0 N.length ds) := by
  have hl := r.length
  refine ⟨by unfold L2.start env0; simp [hl], fun i d e => ?_⟩
  unfold env0 at e
  unfold L2.start
  by_cases hi : i < ds.length
  · rw [List.getElem?_append_left (by simpa using hi), List.getElem?_map] at e
    cases q : ds[i]? with
    | none => rw [q] at e; cases e
    | some d' =>
      rw [q] at e
      have e' : d' = d := by simpa using e
      subst e'
      obtain ⟨v, e1, e2⟩ := r.get q
      refine ⟨v, ?_, e2⟩
      rw [List.getElem?_append_left (by rw [List.length_map, hl]; exact hi), List.getElem?_map, e1]; rfl
  · rw [List.getElem?_append_right (by simpa using hi), List.getElem?_replicate] at e
    split at e <;> cases e
theorem fn_body {x qual : Str} {params : Arguments} {body : List Stmt} {scope : Scope} {dvs : List V} {kws : List (Str × V)} {f : Addr} {fd : FuncData} {N ps : List Str} {k : Nat} {sem : Sem} {sb : DS}
    (F : FunD K x qual params body scope dvs kws f fd) (S : FnScope N ps scope) (len : ∀ ds cs R, sem ds cs R → ds.length = ps.length)
    (hb : ∀ (cdv : Value) (A : Around) (outer : List Env) (s : Shared) (H : Hp) (E : XK), A.guards = some [] → Room k (A.deeper (PyProof.Rows.envOfC qual scope s.heap.objs.size f cdv)) → PDB (cxOf CX0 P w K mg base N qual scope f cdv A outer s H E).nox body sb)
    (h : ∀ ds cs R, sem ds cs R → sb { nx := fun c => R .non c.cs, rt := R } ⟨env0 N.length ds, cs⟩) : FnG P w K mg base CX0 (k + 1) f fd ps (FnD K sem) := by
  obtain ⟨oc, od, dV, kV, doc, pm, an, cdv, ct, osl, rfl, lk, hcd, _, _⟩ := F.ex
  refine fnG_of lk hcd S (fun vs H Q E ⟨as, H0, ds, cs, R, oc, rd, sm, _⟩ => rd.length.trans (len ds cs R sm)) fun A outer s H vs Q E hg hr ⟨as, H0, ds, cs, R, oc, rd, sm, q⟩ => ?_
  refine ⟨_, (hb cdv A outer s H E hg hr (fun _ _ _ _ => False) takes0).nox, as, H0, ⟨env0 N.length ds, cs⟩, _, ⟨oc, env0_ok rd⟩, h ds cs R sm, ⟨fun as' H0' H' σ' c' l ok' hq => q as' H0' H' c'.cs .non .non l ok'.c .non hq, fun _ _ _ _ _ _ _ z => z.elim, fun _ _ _ _ _ _ _ z => z.elim, fun as' H0' H' cs' v d l oc' rp hq => q as' H0' H' cs' v d l oc' rp hq, fun _ _ _ _ _ _ _ _ _ _ _ _ z => z.elim⟩⟩
/-- a def that may raise -/
abbrev SemX := List D → Cells → (D → Cells → Prop) → (DX → Cells → Prop) → Prop
def FnDX (K : PySem.W.Frag) (mg : Str → Option Value) (sem : SemX) : Sp := fun vs H Q E => ∃ as H0 ds cs R XX, OkC K as H0 H cs ∧ RpA K as H0 vs ds ∧ sem ds cs R XX ∧
  (∀ as' H0' H' cs' v d, Le as H0 as' H0' → OkC K as' H0' H' cs' → Rp K as' H0' v d → R d cs' → Q v H') ∧
  ∀ as' H0' H' cs' x d C, Le as H0 as' H0' → OkC K as' H0' H' cs' → XD K as' H0' x d → mg x.cls = some (.ref C) → XX x cs' → E (.ref C) d H'
theorem fn_bodyX {x qual : Str} {params : Arguments} {body : List Stmt} {scope : Scope} {dvs : List V} {kws : List (Str × V)} {f : Addr} {fd : FuncData} {N ps : List Str} {k : Nat} {sem : SemX} {sb : DS}
    (F : FunD K x qual params body scope dvs kws f fd) (S : FnScope N ps scope) (len : ∀ ds cs R XX, sem ds cs R XX → ds.length = ps.length)
    (hb : ∀ (cdv : Value) (A : Around) (outer : List Env) (s : Shared) (H : Hp) (E : XK), A.guards = some [] → Room k (A.deeper (PyProof.Rows.envOfC qual scope s.heap.objs.size f cdv)) → PDB (cxOf (L2.CX P w) P w K mg base N qual scope f cdv A outer s H E) body sb)
    (h : ∀ ds cs R XX, sem ds cs R XX → sb { nx := fun c => R .non c.cs, rt := R, xx := fun x c => XX x c.cs } ⟨env0 N.length ds, cs⟩) : FnG P w K mg base (L2.CX P w) (k + 1) f fd ps (FnDX K mg sem) := by
  obtain ⟨oc, od, dV, kV, doc, pm, an, cdv, ct, osl, rfl, lk, hcd, _, _⟩ := F.ex
  refine fnG_of lk hcd S (fun vs H Q E ⟨as, H0, ds, cs, R, XX, oc, rd, sm, _⟩ => rd.length.trans (len ds cs R XX sm)) fun A outer s H vs Q E hg hr ⟨as, H0, ds, cs, R, XX, oc, rd, sm, q, qx⟩ => ?_
  refine ⟨_, hb cdv A outer s H E hg hr (fun cls d _ H => E cls d H) (takes_of rfl rfl rfl rfl), as, H0, ⟨env0 N.length ds, cs⟩, _, ⟨oc, env0_ok rd⟩, h ds cs R XX sm, ⟨fun as' H0' H' σ' c' l ok' hq => q as' H0' H' c'.cs .non .non l ok'.c .non hq, fun _ _ _ _ _ _ _ z => z.elim, fun _ _ _ _ _ _ _ z => z.elim, fun as' H0' H' cs' v d l oc' rp hq => q as' H0' H' cs' v d l oc' rp hq, fun as' H0' H' σ' c' x d C l ok' xd hm hq => qx as' H0' H' c'.cs x d C l ok'.c xd hm hq⟩⟩
end

/-! ### expressions that may raise: a call by its name -/
abbrev DEX := (DX → Z → Prop) → DE
def liftX (K : PySem.W.Frag) (mg : Str → Option Value) (W : WX) (dex : DEX) : TE := fun σ H Q => ∃ as H0 c R XX, Ok K as H0 H σ c ∧ dex XX c R ∧ Tie K mg as H0 XX W ∧
  ∀ as' H0' H' c' v d, Le as H0 as' H0' → Ok K as' H0' H' σ c' → Rp K as' H0' v d → R d c' → Q v H'
abbrev PDX (X : Cx) (e : Expr) (dex : DEX) : Prop := ∀ W : WX, Takes X W → PE X e (liftX X.K X.mg W dex)
def dFnX (n : Nat) (sem : SemX) (gD : List D → List D → List D) (da : DA) : DEX := fun XX c R => da c fun ds c1 => ds.length = n ∧ sem (gD ds []) c1.cs (fun d cs' => R d { c1 with cs := cs' }) fun x cs' => XX x { c1 with cs := cs' }
def dFnKX (n m : Nat) (sem : SemX) (gD : List D → List D → List D) (da dk : DA) : DEX := fun XX c R => da c fun ds c1 => dk c1 fun es c2 => ds.length = n ∧ es.length = m ∧ sem (gD ds es) c2.cs (fun d cs' => R d { c2 with cs := cs' }) fun x cs' => XX x { c2 with cs := cs' }
/-- where nothing may be raised -/
def semN (sem : SemX) : Sem := fun ds cs R => sem ds cs R fun _ _ => False
section
variable {X : Cx} {k n : Nat} {f : Addr} {fd : FuncData} {ps ks : List Str} {sem : SemX} {gD : List D → List D → List D} {x : Str} {p pos : Pos} {e : Expr} {es : List Expr} {kws : List Keyword} {da dk : DA}
theorem run_fnX {W : WX} (tk : Takes X W) {pins : List (Addr × Obj)} {σ : L2.St} {H : Hp} {s : Shared} {Q : VK} {us ws : List Value} {vs zs : List V} {as : AsM} {H0 : Hp} {c : Z} {ds es : List D} {R : D → Z → Prop} {XX : DX → Z → Prop}
    (F : FnG X.prog X.w X.K X.mg X.base (L2.CX X.prog X.w) k f fd ps (FnDX X.K X.mg sem)) (hgd : X.A.guards = some []) (hr : Room k X.A) (hb : Bnd X.K fd ps n ks gD) (I : Inv X pins σ H s) (r : Vals vs us) (rz : Vals zs ws) (ok : Ok X.K as H0 H σ c) (rd : RpA X.K as H0 vs ds) (re : RpA X.K as H0 zs es)
    (l1 : ds.length = n) (l2 : es.length = ks.length) (h : sem (gD ds es) c.cs (fun d cs' => R d { c with cs := cs' }) fun x cs' => XX x { c with cs := cs' }) (tie : Tie X.K X.mg as H0 XX W)
    (q : ∀ as' H0' H' c' v d, Le as H0 as' H0' → Ok X.K as' H0' H' σ c' → Rp X.K as' H0' v d → R d c' → Q v H') : wpAny (model X.prog X.w) X.A (call (.ref f) us (ks.zip ws)) (EP X pins σ Q) X.xe s := by
  obtain ⟨g, to, rel⟩ := hb.bd
  obtain ⟨vs', rv, rd'⟩ := rel (rd.length.trans l1) (re.length.trans l2) r rd rz re
  have sp : FnDX X.K X.mg sem vs' H Q (WE W σ) := ⟨as, H0, _, c.cs, _, _, ok.c, rd', h, fun as' H0' H' cs' v d l oc rp hq => q as' H0' H' { c with cs := cs' } v d l ⟨oc, ok.e.mono l⟩ rp hq,
    fun as' H0' H' cs' x d C l oc xd hm hq => tie as' H0' H' σ { c with cs := cs' } x d C l ⟨oc, ok.e.mono l⟩ xd hm hq⟩
  refine wpAny_call (codeAny_mono (F.run X.A X.stack s H _ _ vs' Q (WE W σ) hgd hr I.env0 (to s us ws I.kIn (by rw [← r.length, rd.length, l1]) (by rw [← rz.length, re.length, l2])) rv sp) fun res s' hq => ?_)
  cases res with
  | error e => exact passAt tk σ pins H s e s' I hq
  | ok fl =>
    cases fl with
    | ret u => exact I.after hq
    | _ => exact False.elim hq
theorem pdx_fn (F : FnG X.prog X.w X.K X.mg X.base (L2.CX X.prog X.w) k f fd ps (FnDX X.K X.mg sem)) (hgd : X.A.guards = some []) (hr : Room k X.A) (hg : Gl X x) (hm : X.mg x = some (.ref f)) (hk : PySem.W.keepIn X.K (.ref f) = true) (hb : Bnd X.K fd ps n [] gD)
    (ha : PDA X (e :: es) da) (hdb : (x == ("__debug__" : Str)) = false := by decide) (he : starEach (e :: es) X.env = (false, eval e X.env) :: starEach es X.env := by rfl) (hpl : (backTo pos (starEach es X.env)).any (·.1) = false := by rfl) :
    PDX X (.Call (.Name x p) (e :: es) [] pos) (dFnX n sem gD da) := by
  intro W tk
  refine ⟨fun pins s σ H Q I ⟨as, H0, c, R, XX, ok, q, tie, kk⟩ => ?_⟩
  refine wpAny_Call_Name_kw (ld_glob I hg hm ?_ hdb)
  have arg : liftA X.K da σ H fun vs H1 => ∃ as1 H01 c1 ds, Le as H0 as1 H01 ∧ Ok X.K as1 H01 H1 σ c1 ∧ RpA X.K as1 H01 vs ds ∧ ds.length = n ∧ sem (gD ds []) c1.cs (fun d cs' => R d { c1 with cs := cs' }) fun x cs' => XX x { c1 with cs := cs' } :=
    ⟨as, H0, c, _, ok, q, fun as1 H1 Hn c1 vs ds l1 ok1 r1 ⟨z1, z2⟩ => ⟨as1, H1, c1, ds, l1, ok1, r1, z1, z2⟩⟩
  refine PySem.W.callWith_K (h₀ := X.base) I.ok.mod.kin hk (thn (ha.run pos pins s σ H _ I arg) fun us s1 ⟨vs, H1, I1, r, as1, H01, c1, ds, l1, ok1, rd, z1, z2⟩ => ⟨I1.kIn, ?_⟩) he hpl
  exact run_fnX tk (ws := []) F hgd hr hb I1 r .nil ok1 rd .nil z1 rfl z2 (tie.mono l1) fun _ _ _ _ _ _ l ok' rp hq => kk _ _ _ _ _ _ (l1.trans l) ok' rp hq
theorem pdx_fnK (F : FnG X.prog X.w X.K X.mg X.base (L2.CX X.prog X.w) k f fd ps (FnDX X.K X.mg sem)) (hgd : X.A.guards = some []) (hr : Room k X.A) (hg : Gl X x) (hm : X.mg x = some (.ref f)) (hk : PySem.W.keepIn X.K (.ref f) = true) (hb : Bnd X.K fd ps n ks gD)
    (ha : PDA X (e :: es) da) (hkw : PK X kws (liftA X.K dk)) (hall : (backToKw pos (keywordEach kws X.env)).all (·.1.isSome) = true := by rfl) (hks : (backToKw pos (keywordEach kws X.env)).filterMap (·.1) = ks := by rfl)
    (hdb : (x == ("__debug__" : Str)) = false := by decide) (he : starEach (e :: es) X.env = (false, eval e X.env) :: starEach es X.env := by rfl)
    (hpl : ((backTo pos (starEach (e :: es) X.env)).any (·.1) || (backToKw pos (keywordEach kws X.env)).any (·.1.isNone)) = false := by rfl) :
    PDX X (.Call (.Name x p) (e :: es) kws pos) (dFnKX n ks.length sem gD da dk) := by
  intro W tk
  refine ⟨fun pins s σ H Q I ⟨as, H0, c, R, XX, ok, q, tie, kk⟩ => ?_⟩
  refine wpAny_Call_Name_kw (ld_glob I hg hm ?_ hdb)
  have arg : liftA X.K da σ H fun vs H1 => liftA X.K dk σ H1 fun zs H2 => ∃ as2 H02 c2 ds es, Le as H0 as2 H02 ∧ Ok X.K as2 H02 H2 σ c2 ∧ RpA X.K as2 H02 vs ds ∧ RpA X.K as2 H02 zs es ∧ ds.length = n ∧ es.length = ks.length ∧ sem (gD ds es) c2.cs (fun d cs' => R d { c2 with cs := cs' }) fun x cs' => XX x { c2 with cs := cs' } :=
    ⟨as, H0, c, _, ok, q, fun as1 H1 Hn c1 vs ds l1 ok1 r1 q1 => ⟨as1, H1, c1, _, ok1, q1, fun as2 H2 Hn2 c2 zs es l2 ok2 r2 ⟨z1, z2, z3⟩ => ⟨as2, H2, c2, ds, es, l1.trans l2, ok2, r1.mono l2, r2, z1, z2, z3⟩⟩⟩
  refine PySem.W.callWith_KW (h₀ := X.base) I.ok.mod.kin hk hall (thn (ha.run pos pins s σ H _ I arg) fun us s1 ⟨vs, H1, I1, r, q1⟩ => ?_) hpl he
  refine thn (hkw.run pos pins s1 σ H1 _ I1 q1) fun ws s2 ⟨zs, H2, I2, rz, as2, H02, c2, ds, es, l2, ok2, rd, re, z1, z2, z3⟩ => ⟨I2.kIn, ?_⟩
  rw [hks]
  exact run_fnX tk F hgd hr hb I2 r rz ok2 rd re z1 z2 z3 (tie.mono l2) fun _ _ _ _ _ _ l ok' rp hq => kk _ _ _ _ _ _ (l2.trans l) ok' rp hq
/-- as a plain call, where nothing may be raised -/
theorem FnG.calm (F : FnG X.prog X.w X.K X.mg X.base (L2.CX X.prog X.w) k f fd ps (FnDX X.K X.mg sem)) : FnG X.prog X.w X.K X.mg X.base CX0 k f fd ps (FnD X.K (semN sem)) :=
  ⟨fun vs H Q E ⟨as, H0, ds, cs, R, oc, rd, sm, q⟩ => F.len vs H Q E0 ⟨as, H0, ds, cs, R, fun _ _ => False, oc, rd, sm, q, fun _ _ _ _ _ _ _ _ _ _ _ z => z.elim⟩,
   fun A outer s H args us vs Q E hg hr en bt rv ⟨as, H0, ds, cs, R, oc, rd, sm, q⟩ => codeAny_mono (F.run A outer s H args us vs Q E0 hg hr en bt rv ⟨as, H0, ds, cs, R, fun _ _ => False, oc, rd, sm, q, fun _ _ _ _ _ _ _ _ _ _ _ z => z.elim⟩) fun r s' h => by
    cases r with
    | error e =>
      obtain ⟨_, _, _, _, _, _, _, _, _, _, _, _, z⟩ := h
      exact z.elim
    | ok fl =>
      cases fl with
      | ret u => exact h
      | _ => exact False.elim h⟩
/-! #### statements that hold one -/
def sAsgX (de : DEX) (i : Nat) : DS := fun DD c => de DD.xx c fun d c1 => DD.nx { c1 with env := c1.env.set i (some d) }
def sRetX (de : DEX) : DS := fun DD c => de DD.xx c fun d c1 => DD.rt d c1.cs
def sDropX (de : DEX) : DS := fun DD c => de DD.xx c fun _ c1 => DD.nx c1
variable {dex : DEX}
theorem pds_exprX (h : PDX X e dex) (hs : swapsWith e none pos.line X.env = pure false := by rfl) : PDS X (.Expr e pos) (sDropX dex) :=
  fun W tk => ps_imp (ps_expr (h W tk) hs) fun Dn σ H ⟨as, H0, c, DD, ok, q, k⟩ => ⟨as, H0, c, _, _, ok, q, k.xx, fun as1 H1 Hn c1 v d l1 ok1 r1 q1 => k.nx _ _ _ _ _ l1 ok1 q1⟩
theorem pds_setX {i : Nat} {x : Str} {pos' : Pos} (hN : X.N.Nodup) (hi : X.N[i]? = some x) (hx : Loc X.env.scope x) (h : PDX X e dex) (hs : swapsWith e (some (.Name x pos')) pos.line X.env = pure false := by rfl)
    (hf : X.fn x = true ∨ X.env.scope.names.lookup x = some .local := by first | exact .inl rfl | exact .inr rfl | assumption) : PDS X (.Assign [.Name x pos'] e pos) (sAsgX dex i) :=
  fun W tk => ps_imp (ps_set hN hi hx (h W tk) hs hf) fun Dn σ H ⟨as, H0, c, DD, ok, q, k⟩ => ⟨as, H0, c, _, _, ok, q, k.xx, fun as1 H1 Hn c1 v d l1 ok1 r1 q1 =>
    k.nx _ _ _ _ _ l1 (⟨ok1.c, ok1.e.set i r1⟩ : Ok X.K as1 H1 Hn (σ.set i (some v)) { c1 with env := c1.env.set i (some d) }) q1⟩

/-! ### raise -/
/-- a raise that is not reached -/
def sNever : DS := fun _ _ => False
theorem pds_never {st : Stmt} : PDS X st sNever := fun W tk => ps_imp ps_never fun _ _ _ ⟨_, _, _, _, _, q, _⟩ => q.elim
end
end DL

namespace DL
open PySem L2

/-! ### repr -/
mutual
/-- numbers below 2^300, texts of plain signs -/
def small : D → Prop
  | .int i => -(2 ^ 200) < i ∧ i < 2 ^ 200
  | .str s => ∀ c ∈ s.cps.toList, c < 16 ^ 8
  | .lst ds => smallA ds | .slst ds => smallA ds | .tup ds => smallA ds
  | .non => True | .bl _ => True | .dic _ => False | .ref _ => False | .ty _ => False | .cel _ => False | .fn _ => False | .dicB _ _ => False
def smallA : List D → Prop
  | [] => True
  | d :: ds => small d ∧ smallA ds
end
mutual
def wt : D → Nat
  | .int _ => 400 | .str s => 10 * s.length + 2
  | .lst ds => 3 + wtA ds | .slst ds => 3 + wtA ds | .tup ds => 3 + wtA ds
  | .non => 5 | .bl _ => 5 | .dic _ => 5 | .ref _ => 5 | .ty _ => 5 | .cel _ => 5 | .fn _ => 5 | .dicB _ _ => 5
def wtA : List D → Nat
  | [] => 0
  | d :: ds => wt d + 2 + wtA ds
end
theorem log_small {i : Int} (h : -(2 ^ 200) < i ∧ i < 2 ^ 200) : i.natAbs.log2 < 200 := by
  by_cases h0 : i.natAbs = 0
  · rw [h0]; decide
  · exact (Nat.log2_lt h0).mpr (by
      have h1 := h.1
      have h2 := h.2
      have e : (2 : Int) ^ 200 = ((2 ^ 200 : Nat) : Int) := by norm_cast
      omega)
mutual
theorem small_shown : ∀ {d : D}, small d → plain d = true ∧ (py d).showable = true ∧ (py d).hasDict = false ∧ (py d).shown.length ≤ wt d
  | .non, h => ⟨rfl, rfl, rfl, by decide⟩
  | .bl b, h => ⟨rfl, rfl, rfl, by cases b <;> decide⟩
  | .int i, h => by
    have l := log_small h
    refine ⟨rfl, decide_eq_true (show i.natAbs.log2 < 1920 by omega), rfl, ?_⟩
    have := int_text_length_le (a := i) (k := 200) (by decide) l
    show (Str.ofString (toString i)).length ≤ 400
    have e : (Str.ofString (toString i)).length = (toString i).length := by
      exact PySem.ofString_length _
    omega
  | .str s, h => ⟨rfl, rfl, rfl, StrLaws.reprText_len s h⟩
  | .lst ds, h => by
    obtain ⟨h1, h2, h3, h4⟩ := smallA_shown (ds := ds) h
    refine ⟨h1, h2, h3, ?_⟩
    have := listText_len_le (PyData.shownAll (pyA ds))
    show (listText (PyData.shownAll (pyA ds))).length ≤ 3 + wtA ds
    omega
  | .slst ds, h => by
    obtain ⟨h1, h2, h3, h4⟩ := smallA_shown (ds := ds) h
    refine ⟨h1, h2, h3, ?_⟩
    have := listText_len_le (PyData.shownAll (pyA ds))
    show (listText (PyData.shownAll (pyA ds))).length ≤ 3 + wtA ds
    omega
  | .tup ds, h => by
    obtain ⟨h1, h2, h3, h4⟩ := smallA_shown (ds := ds) h
    refine ⟨h1, h2, h3, ?_⟩
    have := tupleText_len_le (PyData.shownAll (pyA ds))
    show (tupleText (PyData.shownAll (pyA ds))).length ≤ 3 + wtA ds
    omega
  | .dic _, h => h.elim
  | .ref _, h => h.elim
  | .ty _, h => h.elim
  | .cel _, h => h.elim
  | .fn _, h => h.elim
  | .dicB _ _, h => h.elim
theorem smallA_shown : ∀ {ds : List D}, smallA ds → plainA ds = true ∧ PyData.showableAll (pyA ds) = true ∧ PyData.hasDictAll (pyA ds) = false ∧ ((PyData.shownAll (pyA ds)).map (·.length)).sum + 2 * (PyData.shownAll (pyA ds)).length ≤ wtA ds
  | [], h => ⟨rfl, rfl, rfl, Nat.le_refl _⟩
  | d :: ds, h => by
    obtain ⟨a1, a2, a3, a4⟩ := small_shown (d := d) h.1
    obtain ⟨b1, b2, b3, b4⟩ := smallA_shown (ds := ds) h.2
    refine ⟨?_, ?_, ?_, ?_⟩
    · show (plain d && plainA ds) = true
      rw [a1, b1]; rfl
    · show (PyData.showable (py d) && PyData.showableAll (pyA ds)) = true
      rw [a2, b2]; rfl
    · show (PyData.hasDict (py d) || PyData.hasDictAll (pyA ds)) = false
      rw [a3, b3]; rfl
    · show (((PyData.shown (py d)) :: PyData.shownAll (pyA ds)).map (·.length)).sum + 2 * ((PyData.shown (py d)) :: PyData.shownAll (pyA ds)).length ≤ wt d + 2 + wtA ds
      simp only [List.map_cons, List.sum_cons, List.length_cons]
      omega
end
def fRepr : DFn := fun ds c R => match ds with
  | [d] => small d ∧ (py d).depth < 60 ∧ wt d ≤ sizeLine ∧ R (.str (py d).shown) c
  | _ => False
section
variable {X : Cx} {K : PySem.W.Frag}
end
end DL

namespace DL
open PySem L2

/-! ### constants of the module -/
section
variable {X : Cx} {K : PySem.W.Frag} {x : Str} {pos : Pos}
theorem pd_conI {i : Int} (hg : Gl X x) (h : ∃ t, X.mg x = some (.int i t)) (hd : (x == ("__debug__" : Str)) = false := by decide) : PD X (.Name x pos) (dC (.int i)) := by
  obtain ⟨t, h⟩ := h
  exact pd_glob (v := .int i) hg h ⟨t, rfl⟩ (fun _ _ => .int i) hd
theorem pd_bty {n : String} (hg : Gl X x) (hm : X.mg x = none) (hv : bootBuiltins x = some (.type n)) (hn : x ≠ "__name__" := by decide) (hd : (x == ("__debug__" : Str)) = false := by decide) : PD X (.Name x pos) (dC (.ty n)) :=
  pe_imp (pe_bltn (v := .ty n) hg hm hv rfl hn hd) (lift_c fun _ _ => .ty n)
end

/-! ### dicts written out -/
section
variable {X : Cx} {K : PySem.W.Frag} {pos : Pos}
def dDNew : DE := fun c R => R (.dic []) c
theorem rp_dic {as : AsM} {H0 : Hp} {p : Addr} {od : Obj} {vs : List (Key × V)} {ds : List (Key × D)} (l : Le as H0 as (upd H0 p (.frz od (.dK vs)))) (r : RpK K as H0 vs ds) : Rp K as (upd H0 p (.frz od (.dK vs))) (.ref p) (.dic ds) := .dic upd_same (r.mono l)
theorem pd_dnew : PD X (.Dict [] [] pos) dDNew := pe_imp (pe_frz pe_dnewK) fun σ H Q ⟨as, H0, c, R, ok, q, k⟩ => fun p hp => ⟨p, _, rfl, upd_same, True.intro, fun od => by
  obtain ⟨l, ok'⟩ := new_known (o := .frz od (.dK [])) ok hp
  rw [upd_upd]
  exact k _ _ _ _ _ _ l ok' (rp_dic l .nil) q⟩
def keyD : D → Option Key | .int i => some (.inl i) | .str s => some (.inr s) | _ => none
def putD (kvs : List (Key × D)) (k : Key) (d : D) : List (Key × D) := if (kvs.any fun kv => decide (kv.1 = k)) = true then kvs.map (fun kv => if kv.1 = k then (kv.1, d) else kv) else kvs ++ [(k, d)]
def mergeD (kvs more : List (Key × D)) : List (Key × D) := more.foldl (fun acc kv => putD acc kv.1 kv.2) kvs
theorem RpK.any {as : AsM} {H : Hp} {k : Key} : ∀ {ds : List (Key × D)} {vs : List (Key × V)}, RpK K as H vs ds → (vs.any fun kv => decide (kv.1 = k)) = (ds.any fun kv => decide (kv.1 = k))
  | [], _, h => by cases h; rfl
  | _ :: _, _, h => by cases h with | cons h1 h2 => simp only [List.any_cons]; rw [RpK.any h2]
theorem RpK.mapk {as : AsM} {H : Hp} {k : Key} {v : V} {d : D} (r : Rp K as H v d) : ∀ {ds : List (Key × D)} {vs : List (Key × V)}, RpK K as H vs ds → RpK K as H (vs.map fun kv => if kv.1 = k then (kv.1, v) else kv) (ds.map fun kv => if kv.1 = k then (kv.1, d) else kv)
  | [], _, h => by cases h; exact .nil
  | (j, e) :: ds, _, h => by
    cases h with
    | cons h1 h2 =>
      simp only [List.map_cons]
      by_cases q : j = k
      · rw [if_pos q, if_pos q]; exact .cons r (RpK.mapk r h2)
      · rw [if_neg q, if_neg q]; exact .cons h1 (RpK.mapk r h2)
theorem RpK.snoc {as : AsM} {H : Hp} {k : Key} {v : V} {d : D} (r : Rp K as H v d) : ∀ {ds : List (Key × D)} {vs : List (Key × V)}, RpK K as H vs ds → RpK K as H (vs ++ [(k, v)]) (ds ++ [(k, d)])
  | [], _, h => by cases h; exact .cons r .nil
  | _ :: _, _, h => by cases h with | cons h1 h2 => exact .cons h1 (RpK.snoc r h2)
theorem RpK.put {as : AsM} {H : Hp} {k : Key} {v : V} {d : D} {ds : List (Key × D)} {vs : List (Key × V)} (h : RpK K as H vs ds) (r : Rp K as H v d) : RpK K as H (putK vs k v) (putD ds k d) := by
  unfold putK putD
  rw [h.any]
  by_cases q : (ds.any fun kv => decide (kv.1 = k)) = true
  · rw [if_pos q, if_pos q]; exact h.mapk r
  · rw [if_neg q, if_neg q]; exact h.snoc r
theorem RpK.merge {as : AsM} {H : Hp} : ∀ {es : List (Key × D)} {us : List (Key × V)} {ds : List (Key × D)} {vs : List (Key × V)}, RpK K as H us es → RpK K as H vs ds → RpK K as H (mergeK vs us) (mergeD ds es)
  | [], _, _, _, h, g => by cases h; exact g
  | (k, d) :: es, _, ds, vs, h, g => by
    cases h with
    | @cons _ v us _ _ h1 h2 =>
      show RpK K as H (mergeK (putK vs k v) us) (mergeD (putD ds k d) es)
      exact RpK.merge h2 (g.put h1)
def dPairs : List (DE × DE) → Z → (List (D × D) → Z → Prop) → Prop
  | [], c, R => R [] c
  | (a, b) :: r, c, R => a c fun x c1 => b c1 fun y c2 => dPairs r c2 fun ps c3 => R ((x, y) :: ps) c3
def keysD : List (D × D) → Option (List (Key × D))
  | [] => some []
  | (k, d) :: r => match keyD k, keysD r with | some k', some r' => some ((k', d) :: r') | _, _ => none
def dDisp (ps : List (DE × DE)) : DE := fun c R => ∀ k, c.cs k = none → dPairs ps { c with cs := put c.cs k (.dic []) } fun xs c1 => c1.cs k = some (.dic []) ∧ ∃ kvs, keysD xs = some kvs ∧ kvs.length ≤ 15 ∧ R (.dic (mergeD [] kvs)) { c1 with cs := del c1.cs k }
inductive RpPr (K : PySem.W.Frag) (as : AsM) (H : Hp) : List (V × V) → List (D × D) → Prop
  | nil : RpPr K as H [] []
  | cons {a b : V} {x y : D} {vs : List (V × V)} {ds : List (D × D)} : Rp K as H a x → Rp K as H b y → RpPr K as H vs ds → RpPr K as H ((a, b) :: vs) ((x, y) :: ds)
theorem pairs_low {as : AsM} {H0 H : Hp} {σ : L2.St} {c : Z} {R : List (D × D) → Z → Prop} {Q : List (V × V) → Hp → Prop} : ∀ {ps : List (DE × DE)}, Ok K as H0 H σ c → dPairs ps c R →
    (∀ as' H0' H' c' vs ds, Le as H0 as' H0' → Ok K as' H0' H' σ c' → RpPr K as' H0' vs ds → R ds c' → Q vs H') → tPairs (ps.map fun p => (lift K p.1, lift K p.2)) σ H Q := by
  intro ps
  induction ps generalizing as H0 H c R Q with
  | nil => intro ok q k; exact k _ _ _ _ _ _ .refl ok .nil q
  | cons p ps ih =>
    intro ok q k
    refine ⟨as, H0, c, _, ok, q, fun as1 H1 Hn1 c1 v d l1 ok1 r1 q1 => ⟨as1, H1, c1, _, ok1, q1, fun as2 H2 Hn2 c2 u e l2 ok2 r2 q2 => ?_⟩⟩
    exact ih ok2 q2 fun as3 H3 Hn3 c3 vs ds l3 ok3 r3 q3 => k _ _ _ _ _ _ ((l1.trans l2).trans l3) ok3 (.cons (r1.mono (l2.trans l3)) (r2.mono l3) r3) q3
theorem keys_rp {as : AsM} {H : Hp} : ∀ {ds : List (D × D)} {vs : List (V × V)} {kvs : List (Key × D)}, RpPr K as H vs ds → keysD ds = some kvs → ∃ us : List (Key × V), vs = us.map (fun kv => (kV kv.1, kv.2)) ∧ RpK K as H us kvs ∧ us.length = kvs.length
  | [], _, _, h, e => by cases h; cases e; exact ⟨[], rfl, .nil, rfl⟩
  | (x, y) :: ds, _, kvs, h, e => by
    cases h with
    | cons h1 h2 h3 =>
      have e' : (match keyD x, keysD ds with | some k', some r' => some ((k', y) :: r') | _, _ => none) = some kvs := e
      cases q1 : keyD x with
      | none => rw [q1] at e'; cases e'
      | some k' =>
        cases q2 : keysD ds with
        | none => rw [q1, q2] at e'; cases e'
        | some r' =>
          rw [q1, q2] at e'; cases e'
          obtain ⟨us, e1, e2, e3⟩ := keys_rp h3 q2
          subst e1
          cases x with
          | int i => cases h1; cases q1; exact ⟨(.inl i, _) :: us, rfl, .cons h2 e2, congrArg Nat.succ e3⟩
          | str s => cases h1; cases q1; exact ⟨(.inr s, _) :: us, rfl, .cons h2 e2, congrArg Nat.succ e3⟩
          | _ => cases q1
theorem pdd_nil : PPs X pos [] [] (([] : List (DE × DE)).map fun p => (lift X.K p.1, lift X.K p.2)) := pps_nil
theorem pdd_cons {k v : Expr} {ks : List (Option Expr)} {vs : List Expr} {dk dv : DE} {ps : List (DE × DE)} (hk : PD X k dk) (hv : PD X v dv) (hr : PPs X pos ks vs (ps.map fun p => (lift X.K p.1, lift X.K p.2))) :
    PPs X pos (some k :: ks) (v :: vs) (((dk, dv) :: ps).map fun p => (lift X.K p.1, lift X.K p.2)) := pps_cons hk hv hr
theorem pd_disp {keys : List (Option Expr)} {values : List Expr} {ps : List (DE × DE)} (h : PPs X pos keys values (ps.map fun p => (lift X.K p.1, lift X.K p.2))) (hall : keys.all (·.isSome) = true) (hl : keys.length = values.length) (h0 : keys ≠ [])
    (h15 : keys.length ≤ 15) : PD X (.Dict keys values pos) (dDisp ps) :=
  pe_imp (pe_frz (pe_disp h hall hl h0 h15)) fun σ H Q ⟨as, H0, c, R, ok, q, k⟩ => fun p hp => by
    obtain ⟨j, as1, hj, l1, ok1, rp⟩ := new_cell (u := .dK []) (o := .dic []) ok hp (.dic .nil)
    refine pairs_low ok1 (q j hj) fun as2 H2 Hn2 c2 vs ds l2 ok2 r2 ⟨e1, kvs, e2, e3, q2⟩ => ?_
    cases rp with
    | cel ej =>
      have ej2 := l2.am _ _ ej
      obtain ⟨p', u, g1, g2, g3, g4⟩ := ok2.c.cel j _ e1
      rw [ej2] at g1; cases g1
      cases g4 with
      | dic g5 =>
        cases g5
        obtain ⟨us, f1, f2, f3⟩ := keys_rp r2 e2
        refine ⟨g3, us, f1, by rw [f3]; exact e3, ?_⟩
        have oc := ok2.c.turn e1 ej2 (.dic (f2.merge (ds := []) (vs := []) .nil))
        refine ⟨p, _, rfl, upd_same, True.intro, fun od => ?_⟩
        obtain ⟨l3, oc'⟩ := oc.freezeZ (u := .frz od (.dK (mergeK [] us))) put_same ej2
        have ec : del (put c2.cs j (.dic (mergeD [] kvs))) j = del c2.cs j := by
          funext i; unfold del put; split <;> rfl
        rw [ec] at oc'
        exact k _ _ _ { c2 with cs := del c2.cs j } _ _ ((l1.trans l2).trans l3) ⟨oc', ok2.e.mono l3⟩ (rp_dic l3 (f2.merge .nil)) q2
end

/-! ### in, not in; is None; chains as tests -/
section
variable {X : Cx} {K : PySem.W.Frag} {a b c : Expr} {da db dc : DE} {pos : Pos}
def isNon : D → Bool | .non => true | _ => false
def dIsN (da : DE) : DE := fun c R => da c fun x c1 => R (.bl (isNon x)) c1
def dIsNotN (da : DE) : DE := fun c R => da c fun x c1 => R (.bl (!isNon x)) c1
theorem isNon_rp {as : AsM} {H : Hp} {v : V} {d : D} (r : Rp K as H v d) : decide (v = V.non) = isNon d := by cases r <;> rfl
theorem pd_isN {j p2} (ha : PD X a da) : PD X (.Compare a [.Is] [.Constant .none j p2] pos) (dIsN da) :=
  pe_imp (pe_cmpR op_isN ha pe_non (nomark _)) fun σ H Q ⟨as, H0, c, R, ok, q, k⟩ => ⟨as, H0, c, _, ok, q, fun as1 H1 Hn c1 v d l1 ok1 r1 q1 => ⟨rfl, by rw [isNon_rp r1]; exact k _ _ _ _ _ _ l1 ok1 (.bl _) q1⟩⟩
def dTB (da : DE) : DT := fun c R => da c fun x c1 => match x with | .bl b => R b c1 | _ => False
end

/-! #### comparisons as tests -/
section
variable {X : Cx} {K : PySem.W.Frag} {a b : Expr} {da db : DE} {pos : Pos}
theorem lift_tb {t : TE} {da : DE} (h : ∀ σ H Q, lift K da σ H Q → t σ H Q) : ∀ σ H Q, liftT K (dTB da) σ H Q → tTest t σ H Q :=
  fun σ H Q ⟨as, H0, c, R, ok, q, k⟩ => h σ H _ ⟨as, H0, c, _, ok, q, fun as1 H1 Hn1 c1 v d l1 ok1 r1 q1 => by
    cases d with
    | bl b => cases r1; exact ⟨b, rfl, k _ _ _ _ _ l1 ok1 q1⟩
    | _ => exact q1.elim⟩
theorem pdt_cmp {op : CmpOp} {r : R2} {f : DF} (ho : OpR X (compareOp op) r) (hd : OpD X.K r f) (ha : PD X a da) (hb : PD X b db) (hm : behindInMarks op b = false) : PDT X (.Compare a [op] [b] pos) (dTB (dBin f da db)) :=
  pt_imp (pt_cmpR ho ha hb hm) (lift_tb (lift_op hd))
theorem pdt_isN {j p2} (ha : PD X a da) : PDT X (.Compare a [.Is] [.Constant .none j p2] pos) (dTB (dIsN da)) :=
  pt_imp (pt_cmpR op_isN ha pe_non (nomark _)) (lift_tb fun σ H Q ⟨as, H0, c, R, ok, q, k⟩ => ⟨as, H0, c, _, ok, q, fun as1 H1 Hn c1 v d l1 ok1 r1 q1 => ⟨rfl, by rw [isNon_rp r1]; exact k _ _ _ _ _ _ l1 ok1 (.bl _) q1⟩⟩)
theorem pdt_isnotN {j p2} (ha : PD X a da) : PDT X (.Compare a [.IsNot] [.Constant .none j p2] pos) (dTB (dIsNotN da)) :=
  pt_imp (pt_cmpR op_notN ha pe_non (nomark _)) (lift_tb fun σ H Q ⟨as, H0, c, R, ok, q, k⟩ => ⟨as, H0, c, _, ok, q, fun as1 H1 Hn c1 v d l1 ok1 r1 q1 => ⟨rfl, by rw [isNon_rp r1]; exact k _ _ _ _ _ _ l1 ok1 (.bl _) q1⟩⟩)
theorem kw_end {α : Type} {D : Addr} {t : PySem.Sem α} {r : α} (h : t = pure r) : KwChain D [] t r := h
end

/-! ### written places -/
section
variable {α : Type} {a b c d e f g h i j k l : α} {xs : List α}
theorem at_nat {n : Nat} {x : α} (h : xs[n]? = some x) : atI xs (n : Int) = some x := atI_nat h
theorem at0 : atI (a :: xs) 0 = some a := at_nat (n := 0) rfl
theorem at1 : atI (a :: b :: xs) 1 = some b := at_nat (n := 1) rfl
theorem at2 : atI (a :: b :: c :: xs) 2 = some c := at_nat (n := 2) rfl
theorem at3 : atI (a :: b :: c :: d :: xs) 3 = some d := at_nat (n := 3) rfl
theorem at4 : atI (a :: b :: c :: d :: e :: xs) 4 = some e := at_nat (n := 4) rfl
theorem at5 : atI (a :: b :: c :: d :: e :: f :: xs) 5 = some f := at_nat (n := 5) rfl
theorem ix20 : ixN 2 0 = some 0 := rfl
theorem ix21 : ixN 2 1 = some 1 := rfl
/-- a place that is not written -/
theorem at_in {n : Int} (h0 : 0 ≤ n) (h1 : n < xs.length) : ∃ x, atI xs n = some x ∧ x ∈ xs := by
  have e : n = ((n.toNat : Nat) : Int) := by omega
  have hl : n.toNat < xs.length := by omega
  have q : atI xs ((n.toNat : Nat) : Int) = some xs[n.toNat] := at_nat (List.getElem?_eq_getElem hl)
  rw [← e] at q
  exact ⟨xs[n.toNat], q, List.getElem_mem hl⟩
end

/-! ### the law's own call -/
theorem law_go {P : Program} {w : World} {K : PySem.W.Frag} {mg mb : Str → Option Value} {k : Nat} {fa a : Addr} {fd : FuncData} {x : Str} {sem : Sem} {s1 : Shared} {vs : List Value} {ns : List Int}
    (KX : K.In s1.heap) (hns : s1.heap.Ns mainGlobals mg) (hb : s1.heap.Ns builtinsNs mb) (hbb : ∀ x : Str, x ≠ "__name__" → mb x = bootBuiltins x) (hlim : s1.heap.NoLimit) (hg : s1.gens = #[])
    (ha : s1.heap.get? a = some { cls := .type "list", data := .seq vs.toArray }) (hi : PyProof.Rows.IntsAre vs ns) (hl : ns.length ≤ sizeLine) (hr : Room k callerA)
    (F : ∀ base : Heap, K.In base → base.Ns mainGlobals mg → FnG P w K mg base CX0 k fa fd [x] (FnD K sem)) (hbind : ∀ (s : Shared) (u : Value), BindsTo s fd ⟨[u], []⟩ [(x, u)])
    (hsem : ∀ R : D → Cells → Prop, (∀ cs, R (.bl true) cs) → sem [.slst (ns.map D.int)] (fun _ => none) R) :
    codeAny (model P w) callerA (.call (.ref fa) ⟨[.ref a], []⟩) (fun r s' => r = .ok (.ret (.bool true)) ∧ OldK s1.heap s'.heap ∧ s'.os = s1.os ∧ PyProof.Rows.AllBare s'.gens) s1 := by
  -- a heap in which at most the script is tracked
  have main : ∀ H : Hp, Only H → SqL K H a (ns.map V.int) → HOk P w H s1.heap → (∀ b, H b ≠ none → b = a) → (H a ≠ none → K.lookup a = none) →
      codeAny (model P w) callerA (.call (.ref fa) ⟨[.ref a], []⟩) (fun r s' => r = .ok (.ret (.bool true)) ∧ OldK s1.heap s'.heap ∧ s'.os = s1.os ∧ PyProof.Rows.AllBare s'.gens) s1 := by
    intro H only sq hok alone apart
    have nodict : ∀ {b : Addr} {o : Obj} {es : Array DictEntry} {ep : Nat}, s1.heap.get? b = some o → o.data = .dict es ep → H b = none := by
      intro b o es ep e d
      rcases Option.eq_none_or_eq_some (H b) with q | ⟨u, q⟩
      · exact q
      · have e' : b = a := alone b (by rw [q]; exact Option.some_ne_none u)
        rw [e', ha] at e
        cases e
        exact Data.noConfusion d
    have keepNs : ∀ {b : Addr} {m : Str → Option Value}, s1.heap.Ns b m → (hidT s1.heap H).Ns b m := by
      rintro b m ⟨o, es, ep, e, d, r⟩
      exact ⟨o, es, ep, hidT_get e (nodict e d), d, r⟩
    have keepK : K.In (hidT s1.heap H) := by
      intro b o e
      refine hidT_get (KX b o e) ?_
      rcases Option.eq_none_or_eq_some (H b) with q | ⟨u, q⟩
      · exact q
      · have e' : b = a := alone b (by rw [q]; exact Option.some_ne_none u)
        rw [e'] at e q
        rw [apart (by rw [q]; exact Option.some_ne_none u)] at e
        cases e
    obtain ⟨mc, lim1, lim2⟩ := hlim
    have en : Env0 P w K mg (hidT s1.heap H) callerA [] s1 H :=
      ⟨rfl, ⟨keepK, keepNs hns, ⟨mb, keepNs hb, hbb⟩, ⟨mc, keepNs lim1, lim2⟩⟩, fun b o e => of_hidT e, Nat.le_of_eq (hidT_size _ _), trivial, fun b z => (nomatch z), hok, .of_eq hg⟩
    have sp : FnD K sem [.ref a] H (fun v _ => v = .bl true) E0 :=
      ⟨fun _ => none, H, [.slst (ns.map D.int)], fun _ => none, fun d _ => d = .bl true, ⟨fun _ _ e => e, ⟨0, fun _ _ => rfl⟩, fun _ _ e => (nomatch e), fun _ _ _ e => (nomatch e)⟩, .cons (.slst sq RpA.ints) .nil, hsem _ fun _ => rfl,
        fun as' H0' H' cs' v d _ _ r e => by subst e; cases r; rfl⟩
    refine codeAny_mono ((F _ keepK (keepNs hns)).run callerA [] s1 H _ [.ref a] [.ref a] _ _ rfl hr en (hbind s1 (.ref a)) (.cons rfl .nil) sp) fun r s' h => ?_
    cases r with
    | error e => exact False.elim h
    | ok fl =>
      cases fl with
      | ret u =>
        obtain ⟨v, H', os, bare, un, hok', rv, q⟩ := h
        have q' : v = .bl true := q
        subst q'
        cases rv
        refine ⟨rfl, OldK.of_keep fun b o e => ?_, os, bare⟩
        rcases only b with q | ⟨ob, xs, q⟩
        · exact un.keep b o e q (fun z => nomatch z) (fun z => nomatch z)
        · have g1 := (hok b _ q).1
          rw [e] at g1
          cases g1
          exact (hok' b _ (un.frzs b _ _ q)).1
      | _ => exact False.elim h
  have rv := vals_ints hi
  have lenV := hi.length
  rcases Option.eq_none_or_eq_some (K.lookup a) with hk | ⟨o, hk⟩
  · -- the script stands outside the written part
    have at_ : ∀ {b : Addr} {u : HO}, (fun b : Addr => if b = a then some (HO.frz { cls := .type "list", data := .seq vs.toArray } (.lst (ns.map V.int))) else none) b = some u → b = a ∧ u = .frz { cls := .type "list", data := .seq vs.toArray } (.lst (ns.map V.int)) := by
      intro b u z
      by_cases hba : b = a
      · exact ⟨hba, (Option.some.inj ((if_pos hba).symm.trans z)).symm⟩
      · exact absurd ((if_neg hba).symm.trans z) (by simp)
    refine main (fun b => if b = a then some (.frz { cls := .type "list", data := .seq vs.toArray } (.lst (ns.map V.int))) else none) ?_ (.inl (.inr ⟨_, if_pos rfl⟩)) ?_ ?_ fun _ => hk
    · intro b
      by_cases hba : b = a
      · exact .inr ⟨_, _, if_pos hba⟩
      · exact .inl (if_neg hba)
    · intro b u z
      obtain ⟨e1, e2⟩ := at_ z
      subst e1 e2
      exact ⟨ha, by rw [List.length_map]; exact hl, vs, _, rv, ha⟩
    · intro b z
      by_cases hba : b = a
      · exact hba
      · exact absurd (if_neg hba) z
  · have e := KX a o hk
    rw [ha] at e
    cases e
    refine main (fun _ => none) (fun _ => .inl rfl) (.inr ⟨_, vs.toArray, _, hk, rfl, rfl, rfl, ?_, ?_⟩) (fun b u z => (nomatch (show (none : Option HO) = some u from z))) (fun b z => absurd rfl z) fun z => absurd rfl z
    · rw [List.size_toArray, lenV]; exact hl
    · simpa using rv
/-- the goal that k_head leaves -/
theorem walk_end {l : PySem.W.OpenLaw} {k : Nat} {q : Program} {loose : List Str} {XP : (Str → Option Value) → Heap → Prop} {YP : World → Heap → Prop} {d : DefRec} {K : Params → PySem.W.Frag} {sem : Sem} {x : Str}
    (hn : l.most = some 63) (hdf : d.params.defaults = []) (hr : Room k callerA) (hY : ∀ (w : World) (h : Heap), YP w h → (K w.params).In h)
    (F : ∀ (w : World) (mg : Str → Option Value) (fa : Addr) (h : Heap), (K w.params).In h → h.Ns mainGlobals mg → mg d.name = some (.ref fa) →
      ∃ fd : FuncData, (∀ (s : Shared) (u : Value), BindsTo s fd ⟨[u], []⟩ [(x, u)]) ∧ ∀ base : Heap, (K w.params).In base → base.Ns mainGlobals mg → FnG l.prog w (K w.params) mg base CX0 k fa fd [x] (FnD (K w.params) sem))
    (hsem : ∀ (ns : List Int) (R : D → Cells → Prop), ns.length ≤ 63 → (∀ cs, R (.bl true) cs) → sem [.slst (ns.map D.int)] (fun _ => none) R) :
    PySem.W.WalkO q loose XP YP l.row.toRowW d [] (fun f vs => PySem.call f vs) := by
  refine Att.attach_call hn hdf fun w s0 s1 mg mb fa o pm cd doc a vs ns G Y ho hd hcd hmg hobj hints hlen hg => ?_
  obtain ⟨fd, hb, hF⟩ := F w mg fa _ (hY w _ Y) G.T.g hmg
  exact law_go (hY w _ Y) G.T.g G.T.b G.T.builtins G.T.nolimit hg hobj hints (Nat.le_trans hlen (by decide)) hr hF hb fun R h => hsem ns R hlen h
end DL

/-! the readings' equations: what simp may use -/
namespace DL
open PySem L2
def onB (x : D) (t f : Prop) : Prop := match x with | .bl true => t | .bl false => f | _ => False
def onI (x : D) (k : Int → Prop) : Prop := match x with | .int i => k i | _ => False
def setC (o i v : D) (c : Z) (R : Z → Prop) : Prop := match o, i with
  | .cel k, .int j => ∃ ds n, c.cs k = some (.lst ds) ∧ ixN ds.length j = some n ∧ R { c with cs := put c.cs k (.lst (ds.set n v)) }
  | _, _ => False
section
variable {c : Z} {R : D → Z → Prop} {RT : Bool → Z → Prop} {RO : Option Int → Z → Prop} {RL : List D → Z → Prop} {da db dc : DE} {dr : DA} {ta tb : DT} {f g : DF} {i j : Int} {a b : Bool} {s t : Str} {xs ys : List D} {kvs : List (Key × D)} {k : Nat} {x y d : D} {A B : Prop}
theorem onB_t : onB (.bl true) A B = A := rfl
theorem onB_f : onB (.bl false) A B = B := rfl
theorem onB_dec {p : Prop} [Decidable p] : onB (.bl (decide p)) A B = if p then A else B := by by_cases h : p <;> simp [onB, h]
theorem onB_ndec {p : Prop} [Decidable p] : onB (.bl (!decide p)) A B = if p then B else A := by by_cases h : p <;> simp [onB, h]
theorem onB_not : onB (.bl (!a)) A B = onB (.bl a) B A := by cases a <;> rfl
theorem onI_i {kk : Int → Prop} : onI (.int i) kk = kk i := rfl
theorem e_add_ii : dAdd (.int i) (.int j) c R = R (.int (i + j)) c := rfl
theorem e_add_ib : dAdd (.int i) (.bl b) c R = R (.int (i + PyProof.Rows.b2i b)) c := rfl
theorem e_add_ss : dAdd (.str s) (.str t) c R = (s.length + t.length ≤ sizeLine ∧ R (.str (s ++ t)) c) := rfl
theorem e_add_ll : dAdd (.lst xs) (.lst ys) c R = (xs.length + ys.length ≤ sizeLine ∧ R (.lst (xs ++ ys)) c) := rfl
theorem e_add_tt : dAdd (.tup xs) (.tup ys) c R = (xs ≠ [] ∧ xs.length + ys.length ≤ sizeLine ∧ R (.tup (xs ++ ys)) c) := rfl
theorem e_int2 {C : Int → Int → Prop} {gg : Int → Int → D} : dInt2 C gg (.int i) (.int j) c R = (C i j ∧ R (gg i j) c) := rfl
theorem e_neg : dNeg da c R = da c fun x c1 => onI x fun i => R (.int (-i)) c1 := rfl
theorem e_eq_ii : dEq (.int i) (.int j) c R = R (.bl (decide (i = j))) c := rfl
theorem e_eq_bb : dEq (.bl a) (.bl b) c R = R (.bl (decide (a = b))) c := rfl
theorem e_eq_ss : dEq (.str s) (.str t) c R = R (.bl (decide (s = t))) c := rfl
theorem e_ne_ii : dNe (.int i) (.int j) c R = R (.bl (!decide (i = j))) c := rfl
theorem e_ne_bb : dNe (.bl a) (.bl b) c R = R (.bl (!decide (a = b))) c := rfl
theorem e_ne_ss : dNe (.str s) (.str t) c R = R (.bl (!decide (s = t))) c := rfl
def GenEq (x y : D) (A : Bool → Prop) : Prop := plain x = true ∧ plain y = true ∧ SeqAt.shaped (py x) = true ∧ SeqAt.shaped (py y) = true ∧ A (PyData.eqv (py x) (py y))
theorem e_eq_l : dEq (.lst xs) y c R = GenEq (.lst xs) y fun b => R (.bl b) c := by cases y <;> rfl
theorem e_eq_sl : dEq (.slst xs) y c R = GenEq (.slst xs) y fun b => R (.bl b) c := by cases y <;> rfl
theorem e_eq_t : dEq (.tup xs) y c R = GenEq (.tup xs) y fun b => R (.bl b) c := by cases y <;> rfl
theorem e_eq_n : dEq .non y c R = GenEq .non y fun b => R (.bl b) c := by cases y <;> rfl
theorem e_ne_l : dNe (.lst xs) y c R = GenEq (.lst xs) y fun b => R (.bl (!b)) c := by cases y <;> rfl
theorem e_ne_sl : dNe (.slst xs) y c R = GenEq (.slst xs) y fun b => R (.bl (!b)) c := by cases y <;> rfl
theorem e_ne_t : dNe (.tup xs) y c R = GenEq (.tup xs) y fun b => R (.bl (!b)) c := by cases y <;> rfl
theorem e_ne_n : dNe .non y c R = GenEq .non y fun b => R (.bl (!b)) c := by cases y <;> rfl
theorem e_chain : dChain f g da db dc c R = da c fun x c1 => db c1 fun y c2 => f x y c2 fun z c3 => onB z (dc c3 fun w c4 => g y w c4 R) (R (.bl false) c3) := rfl
theorem e_tru_n : truD .non = some false := rfl
theorem e_tru_b : truD (.bl b) = some b := rfl
theorem e_tru_i : truD (.int i) = some (i != 0) := rfl
theorem e_tru_l : truD (.lst xs) = some (!xs.isEmpty) := rfl
theorem e_tru_sl : truD (.slst xs) = some (!xs.isEmpty) := rfl
theorem e_tru_t : truD (.tup xs) = some (!xs.isEmpty) := rfl
theorem e_tru_d : truD (.dic kvs) = none := rfl
theorem e_tb : dTB da c RT = da c fun x c1 => onB x (RT true c1) (RT false c1) := by
  unfold dTB onB
  congr 1; funext x c1
  cases x <;> first | rfl | (rename_i b; cases b <;> rfl)
theorem e_andT : dAndT ta tb c RT = ta c fun b c1 => if b = true then tb c1 RT else RT false c1 := by
  unfold dAndT; congr 1; funext b c1; cases b <;> simp
theorem e_orT : dOrT ta tb c RT = ta c fun b c1 => if b = true then RT true c1 else tb c1 RT := by
  unfold dOrT; congr 1; funext b c1; cases b <;> simp
theorem e_andV : dAndV da db c R = da c fun x c1 => onB x (db c1 R) (R (.bl false) c1) := rfl
theorem e_orV : dOrV da db c R = da c fun x c1 => onB x (R (.bl true) c1) (db c1 R) := rfl
theorem e_ifE : dIfE ta da db c R = ta c fun b c1 => if b = true then da c1 R else db c1 R := by
  unfold dIfE; congr 1; funext b c1; cases b <;> simp
theorem e_if {s1 s2 : DS} {DD : DEnds} : sIf ta s1 s2 DD c = ta c fun b c1 => if b = true then s1 DD c1 else s2 DD c1 := by
  unfold sIf; congr 1; funext b c1; cases b <;> simp
theorem e_abs : fAbs [.int i] c R = R (.int (if i < 0 then -i else i)) c := rfl
theorem e_max : fMax [.int i, .int j] c R = R (.int (if j > i then j else i)) c := rfl
theorem e_min : fMin [.int i, .int j] c R = R (.int (if j < i then j else i)) c := rfl
theorem e_int_i : fInt [.int i] c R = R (.int i) c := rfl
theorem e_int_b : fInt [.bl b] c R = R (.int (if b then 1 else 0)) c := rfl
theorem e_len_l : fLen [.lst xs] c R = R (.int (xs.length : Int)) c := rfl
theorem e_len_sl : fLen [.slst xs] c R = R (.int (xs.length : Int)) c := rfl
theorem e_len_t : fLen [.tup xs] c R = R (.int (xs.length : Int)) c := rfl
theorem e_len_d : fLen [.dic kvs] c R = R (.int (kvs.length : Int)) c := rfl
theorem e_len_s : fLen [.str s] c R = (s.length ≤ sizeLine ∧ R (.int (s.length : Int)) c) := rfl
theorem e_len_c : fLen [.cel k] c R = ∃ xs, c.cs k = some (.lst xs) ∧ R (.int (xs.length : Int)) c := rfl
theorem e_sum {ns : List Int} (h : listD d = some (ns.map D.int)) : fSum [d] c R = R (.int ns.sum) c := by
  apply propext
  constructor
  · rintro ⟨d', zs, ms, e, h1, h2, h3⟩
    cases e
    rw [h] at h1; cases h1
    rw [intsOf_map] at h2; cases h2
    exact h3
  · intro h3
    exact ⟨d, _, ns, rfl, h, intsOf_map ns, h3⟩
theorem e_sum_l {ns : List Int} : fSum [.lst (ns.map D.int)] c R = R (.int ns.sum) c := e_sum rfl
theorem e_ix_l : dIxF (.lst xs) (.int i) c R = ∃ d, atI xs i = some d ∧ R d c := rfl
theorem e_ix_sl : dIxF (.slst xs) (.int i) c R = ∃ d, atI xs i = some d ∧ R d c := rfl
theorem e_ix_t : dIxF (.tup xs) (.int i) c R = ∃ d, atI xs i = some d ∧ R d c := rfl
theorem e_ix_c : dIxF (.cel k) (.int i) c R = ∃ ds d, c.cs k = some (.lst ds) ∧ atI ds i = some d ∧ R d c := rfl
theorem e_ix_s : dIxF (.str s) (.int i) c R = ∃ ch, s.length ≤ sizeLine ∧ atI s.cps.toList i = some ch ∧ R (.str ⟨#[ch]⟩) c := rfl
theorem e_ix_di : dIxF (.dic kvs) (.int i) c R = ∃ d, lookD kvs (.inl i) = some d ∧ R d c := rfl
theorem e_ix_ds : dIxF (.dic kvs) (.str s) c R = ∃ d, lookD kvs (.inr s) = some d ∧ R d c := rfl
theorem e_part : dPart da c RO = da c fun x c1 => onI x fun i => RO (some i) c1 := rfl
theorem e_sl_l {lo hi : Option Int} : dSlF (.lst xs) lo hi c R = R (.lst (cutD xs lo hi)) c := rfl
theorem e_sl_sl {lo hi : Option Int} : dSlF (.slst xs) lo hi c R = R (.lst (cutD xs lo hi)) c := rfl
theorem e_sl_t {lo hi : Option Int} : dSlF (.tup xs) lo hi c R = (¬ (HT.sIx xs.length 0 lo = 0 ∧ HT.sIx xs.length xs.length hi = xs.length) ∧ R (.tup (cutD xs lo hi)) c) := rfl
theorem e_sl_s {lo hi : Option Int} : dSlF (.str s) lo hi c R = (s.length ≤ sizeLine ∧ R (.str (cutS s lo hi)) c) := rfl
theorem e_rng1 : iRng1 dr c RL = dr c fun ds c1 => match ds with | [x] => onI x fun n => -(2 ^ 62) ≤ n ∧ n < 2 ^ 62 ∧ RL (rangeD 0 n.toNat) c1 | _ => False := by
  unfold iRng1 onI
  congr 1; funext ds c1
  match ds with
  | [] => rfl
  | [x] => cases x <;> rfl
  | x :: y :: r => cases x <;> rfl
theorem e_par {DD : DEnds} {n m : Nat} : sPar n m dr DD c = dr c fun ds c1 => match ds with
  | [d1, d2] => DD.nx { c1 with env := (c1.env.set n (some d1)).set m (some d2) }
  | _ => False := rfl
theorem e_set {do_ di : DE} {v : D} {RZ : Z → Prop} : gIx do_ di v c RZ = do_ c fun o c1 => di c1 fun i c2 => setC o i v c2 RZ := rfl
theorem e_setC {v : D} {RZ : Z → Prop} : setC (.cel k) (.int i) v c RZ = ∃ ds n, c.cs k = some (.lst ds) ∧ ixN ds.length i = some n ∧ RZ { c with cs := put c.cs k (.lst (ds.set n v)) } := rfl
end
end DL

namespace DL
open PySem L2

/-! ### what is walked, of any kind -/
structure ItD (K : PySem.W.Frag) (as : AsM) (H0 : Hp) (J : It) (ds : List D) : Prop where
  go : ∀ as' H0' H cs i, Le as H0 as' H0' → OkC K as' H0' H cs → i < ds.length → J.go i H
  yld : ∀ as' H0' H cs i x H' d, Le as H0 as' H0' → OkC K as' H0' H cs → ds[i]? = some d → J.yld i H x H' → ∃ H0'', Le as' H0' as' H0'' ∧ OkC K as' H0'' H' cs ∧ Rp K as' H0'' x d
  stop : ∀ as' H0' H cs, Le as H0 as' H0' → OkC K as' H0' H cs → J.stop ds.length H
structure PDI (X : Cx) (tg iter : Expr) (di : DI) : Prop where
  ex : ∃ wi, PI X tg iter wi ∧ ∀ σ H (Q : It → Hp → Prop), (∃ as H0 c R, Ok X.K as H0 H σ c ∧ di c R ∧
    ∀ as1 H01 H1 c1 ds J, Le as H0 as1 H01 → Ok X.K as1 H01 H1 σ c1 → ItD X.K as1 H01 J ds → R ds c1 → Q J H1) → wi σ H Q
section
variable {K : PySem.W.Frag} {X : Cx} {e tg : Expr} {da : DE} {dr : DA} {pos : Pos}
theorem RpA.at {as : AsM} {H : Hp} {vs : List V} {ds : List D} {i : Nat} {d : D} {x : V} (r : RpA K as H vs ds) (h : ds[i]? = some d) (h' : vs[i]? = some x) : Rp K as H x d := by
  obtain ⟨v, e1, e2⟩ := r.get h
  rw [h'] at e1; cases e1; exact e2
theorem RpA.some {as : AsM} {H : Hp} {vs : List V} {ds : List D} {i : Nat} (r : RpA K as H vs ds) (h : i < ds.length) : ∃ x, vs[i]? = some x :=
  ⟨_, List.getElem?_eq_getElem (by rw [r.length]; exact h)⟩
theorem itd_list {as : AsM} {H0 : Hp} {a : Addr} {vs : List V} {ds : List D} (q : SqL K H0 a vs) (r : RpA K as H0 vs ds) : ItD K as H0 (Itl K a) ds where
  go := fun as' H0' H cs i l ok h => let ⟨x, hx⟩ := r.some h; ⟨vs, x, seqL_mono (fun b o z => ok.ex b o (l.hp b o z)) q, hx⟩
  yld := fun as' H0' H cs i x H' d l ok h ⟨e, y⟩ => by
    subst e
    exact ⟨H0', .refl, ok, (r.mono l).at h (y vs (seqL_mono (fun b o z => ok.ex b o (l.hp b o z)) q))⟩
  stop := fun as' H0' H cs l ok => ⟨vs, seqL_mono (fun b o z => ok.ex b o (l.hp b o z)) q, Nat.le_of_eq r.length⟩
theorem itd_tup {as : AsM} {H0 : Hp} {a : Addr} {vs : List V} {ds : List D} (q : SqT K H0 a vs) (r : RpA K as H0 vs ds) : ItD K as H0 (Itt K a) ds where
  go := fun as' H0' H cs i l ok h => let ⟨x, hx⟩ := r.some h; ⟨vs, x, seqT_mono (fun b o z => ok.ex b o (l.hp b o z)) q, hx⟩
  yld := fun as' H0' H cs i x H' d l ok h ⟨e, y⟩ => by
    subst e
    exact ⟨H0', .refl, ok, (r.mono l).at h (y vs (seqT_mono (fun b o z => ok.ex b o (l.hp b o z)) q))⟩
  stop := fun as' H0' H cs l ok => ⟨vs, seqT_mono (fun b o z => ok.ex b o (l.hp b o z)) q, Nat.le_of_eq r.length⟩
theorem itd_rng {as : AsM} {H0 : Hp} {lo : Int} {n : Nat} : ItD K as H0 (Itr lo n) (rangeD lo n) where
  go := fun as' H0' H cs i l ok h => by rw [rangeD_length] at h; exact h
  yld := fun as' H0' H cs i x H' d l ok h ⟨e, y⟩ => by
    subst e y
    obtain ⟨_, rfl⟩ := rangeD_get h
    exact ⟨H0', .refl, ok, .int _⟩
  stop := fun as' H0' H cs l ok => by rw [rangeD_length]; exact Nat.le_refl _
/-- enumerate -/
def enumD (ds : List D) : List D := (List.range ds.length).zipWith (fun (i : Nat) d => D.tup [.int (i : Int), d]) ds
@[simp] theorem enumD_length {ds : List D} : (enumD ds).length = ds.length := by simp [enumD]
theorem OkC.tup {as : AsM} {H0 H : Hp} {cs : Cells} {T : Addr} {vs : List V} {ds : List D} (ok : OkC K as H0 H cs) (hT : H T = none) (r : RpA K as H0 vs ds) :
    ∃ H0'', Le as H0 as H0'' ∧ OkC K as H0'' (upd H T (.tup vs)) cs ∧ Rp K as H0'' (.ref T) (.tup ds) :=
  let ⟨l, k⟩ := ok.grow (o := .tup vs) hT
  ⟨_, l, k, .tup (SqT.of upd_same) (r.mono l)⟩
theorem pdi_list (hi : PD X e da) : PDI X tg e (iSeq da) := ⟨_, pi_list hi, fun σ H Q ⟨as, H0, c, R, ok, q, k⟩ => ⟨as, H0, c, _, ok, q, fun as1 H1 Hn1 c1 v d l1 ok1 r1 ⟨ds, e1, q1⟩ => by
  obtain ⟨a, vs, rfl, g1, g2⟩ := listD_rp (fun _ _ z => z) r1 e1
  exact ⟨a, rfl, ⟨vs, seqL_mono ok1.c.ex g1⟩, k _ _ _ _ _ _ l1 ok1 (itd_list g1 g2) q1⟩⟩⟩
theorem pdi_range1 {a : Expr} {p cpos : Pos} (hgl : Gl X "range") (hm : X.mg "range" = none) (ha : PDA X [a] dr) (hs : starEach [a] X.env = [(false, eval a X.env)] := by rfl) : PDI X tg (.Call (.Name "range" p) [a] [] cpos) (iRng1 dr) :=
  ⟨_, pi_range1 hgl hm ha hs, fun σ H Q ⟨as, H0, c, R, ok, q, k⟩ => ⟨as, H0, c, _, ok, q, fun as1 H1 Hn1 c1 vs ds l1 ok1 r1 q1 => by
    split at q1
    · obtain ⟨b1, b2, q2⟩ := q1
      obtain ⟨v, rfl, r⟩ := rpa1 r1
      cases r
      exact ⟨_, rfl, b1, b2, k _ _ _ _ _ _ l1 ok1 itd_rng q2⟩
    · exact q1.elim⟩⟩
def iEnu (da : DA) : DI := fun c R => da c fun ds c1 => ∃ d xs, ds = [d] ∧ listD d = some xs ∧ R (enumD xs) c1
/-- zip of two lists -/
def zipD (xs ys : List D) : List D := xs.zipWith (fun x y => D.tup [x, y]) ys
def iZipD (da : DA) : DI := fun c R => da c fun ds c1 => ∃ d e xs ys, ds = [d, e] ∧ listD d = some xs ∧ listD e = some ys ∧ R (zipD xs ys) c1
/-- for, over whatever is walked -/
theorem pds_for {di : DI} {g : DG} {body : List Stmt} {sb : DS} (hp : PassesOwn (model X.prog X.w) X.A X.env X.xe) (hc : X.calm = true) (hi : PDI X tg e di) (hg : PDG X tg g) (hb : PDB X body sb) (hs : ∀ x, foldedSetIterable e X.env x = pure x := by intro _; rfl) :
    PDS X (.For tg e body [] pos) (sFor di g sb) := by
  obtain ⟨wi, hw, low⟩ := hi.ex
  refine fun W tk => ps_imp (ps_for hp hc hw hg (hb W tk) hs) fun Dn σ H ⟨as, H0, c, DD, ok, q, k⟩ => low _ _ _ ⟨as, H0, c, _, ok, q, fun as1 H1 Hn1 c1 ds J l1 ok1 it ⟨I, i0, st, dn⟩ => ?_⟩
  have k1 := k.mono l1
  refine ⟨fun i m σ' H' => m = ds.length - i ∧ i ≤ ds.length ∧ lowI X.K as1 H1 (I i) σ' H', ⟨_, rfl, Nat.zero_le _, as1, H1, c1, .refl, ok1, i0⟩, ?_⟩
  rintro i m σ' H' ⟨rfl, hi, as2, H2, c2, l2, ok2, i2⟩
  by_cases hlt : i < ds.length
  · refine .inr ⟨it.go _ _ _ _ _ l2 ok2.c hlt, lowI X.K as1 H1 (I (i + 1)), fun σ3 H3 z => ⟨ds.length - (i + 1), by omega, rfl, hlt, z⟩, fun x H3 y => ?_⟩
    obtain ⟨d, hd⟩ : ∃ d, ds[i]? = some d := ⟨_, List.getElem?_eq_getElem hlt⟩
    obtain ⟨H4, l4, oc4, r4⟩ := it.yld _ _ _ _ _ _ _ _ l2 ok2.c hd y
    exact for_low (n := ds.length) k1 (fun c3 i3 => st i d c3 hd i3) ⟨as2, H4, c2, l2.trans l4, ⟨oc4, ok2.e.mono l4⟩, i2, r4⟩
  · have e : i = ds.length := by omega
    subst e
    exact .inl ⟨it.stop _ _ _ _ l2 ok2.c, k1.nx _ _ _ _ _ l2 ok2 (dn c2 i2)⟩

/-! ### list comprehensions -/
/-- targets of names alone -/
inductive TgN where | one (i : Nat) | tup (is : List Nat)
def TgN.vs : TgN → List Nat | .one i => [i] | .tup is => is
def setAll {α : Type} (env : List (Option α)) : List Nat → List α → List (Option α)
  | i :: is, d :: ds => setAll (env.set i (some d)) is ds
  | _, _ => env
def tgSet : TgN → D → List (Option D) → Option (List (Option D))
  | .one i, d, env => some (env.set i (some d))
  | .tup is, .tup ds, env => if ds.length = is.length then some (setAll env is ds) else none
  | _, _, _ => none
def tgLow (K : PySem.W.Frag) : TgN → TG
  | .one i => gName i
  | .tup is => fun v σ H Q => ∃ a xs, v = .ref a ∧ SqT K H a xs ∧ xs.length = is.length ∧ Q (setAll σ is xs) H
def gsLow (is : List Nat) : TGs := fun vs σ H Q => vs.length = is.length ∧ Q (setAll σ is vs) H
theorem pgn_nil : PGs X [] (gsLow []) := pgs_imp pgs_nil fun v σ H Q ⟨h, q⟩ => by
  have : v = [] := List.eq_nil_of_length_eq_zero h
  subst this
  exact ⟨rfl, q⟩
theorem pgn_cons {es : List Expr} {i : Nat} {is : List Nat} (h1 : PG X e (gName i)) (h2 : PGs X es (gsLow is)) (hs : (assignEach (e :: es) X.env).map (·.2) = assign e X.env :: (assignEach es X.env).map (·.2) := by rfl) : PGs X (e :: es) (gsLow (i :: is)) :=
  pgs_imp (pgs_cons h1 h2 hs) fun v σ H Q ⟨h, q⟩ => by
    match v, h, q with
    | x :: xs, h, q => exact ⟨x, xs, rfl, by simpa using h, q⟩
theorem pgn_tup {es : List Expr} {kk : Nat} {is : List Nat} (hc : X.calm = true) (h : PGs X es (gsLow is)) (hn : (assignEach es X.env).length = is.length := by rfl) (hst : (assignEach es X.env).findIdx? (·.1) = none := by rfl) : PG X (.Tuple es kk pos) (tgLow X.K (.tup is)) :=
  pg_imp (pg_tup hc h hn hst) fun v σ H Q ⟨a, xs, e1, q1, hl, q⟩ => ⟨a, xs, e1, q1, hl, hl, q⟩
theorem wipe_get {σ : L2.St} {j : Nat} : ∀ {vs : List Nat}, (wipe σ vs)[j]? = if j ∈ vs ∧ j < σ.length then some none else σ[j]?
  | [] => by simp [wipe]
  | v :: vs => by
    have ih := wipe_get (σ := σ) (j := j) (vs := vs)
    unfold wipe
    rw [List.getElem?_set]
    have hl := wipe_length σ vs
    rw [hl, ih]
    by_cases h1 : v = j
    · subst h1
      by_cases h2 : v < σ.length <;> simp [h2]
    · have h1' : ¬ j = v := fun z => h1 z.symm
      simp [h1, h1']
theorem setAll_get {α : Type} {j : Nat} : ∀ {is : List Nat} {xs : List α} {env : List (Option α)}, j ∉ is → (setAll env is xs)[j]? = env[j]?
  | [], xs, env, _ => by cases xs <;> rfl
  | i :: is, [], env, _ => rfl
  | i :: is, x :: xs, env, h => by
    have h' : j ≠ i ∧ j ∉ is := by simpa using h
    show (setAll (env.set i (some x)) is xs)[j]? = _
    rw [setAll_get h'.2, List.getElem?_set_ne (Ne.symm h'.1)]
theorem setAll_length {α : Type} : ∀ {is : List Nat} {xs : List α} {env : List (Option α)}, (setAll env is xs).length = env.length
  | [], xs, env => by cases xs <;> rfl
  | i :: is, [], env => rfl
  | i :: is, x :: xs, env => by
    show (setAll (env.set i (some x)) is xs).length = _
    rw [setAll_length, List.length_set]
theorem wipe_set {σ : L2.St} {vs : List Nat} {σ' : L2.St} (hl : σ'.length = σ.length) (h : ∀ j, j ∉ vs → σ'[j]? = σ[j]?) : wipe σ' vs = wipe σ vs := by
  apply List.ext_getElem?
  intro j
  rw [wipe_get, wipe_get, hl]
  by_cases hj : j ∈ vs
  · by_cases h2 : j < σ.length
    · simp [hj, h2]
    · simp only [hj, h2, and_false, if_false]
      rw [List.getElem?_eq_none (by omega), List.getElem?_eq_none (by omega)]
  · simp only [hj, false_and, if_false]
    exact h j hj
theorem okE_wipe {as : AsM} {H0 : Hp} {σ : L2.St} {env : List (Option D)} (h : OkE K as H0 σ env) (vs : List Nat) : OkE K as H0 (L2.wipe σ vs) (vs.foldr (fun v acc => acc.set v none) env) := by
  induction vs with
  | nil => exact h
  | cons v vs ih =>
    have w : L2.wipe σ (v :: vs) = (L2.wipe σ vs).set v none := rfl
    rw [w]
    refine ⟨by show ((vs.foldr _ env).set v none).length = _; rw [List.length_set, List.length_set]; exact ih.len, fun i d e => ?_⟩
    have e' : ((vs.foldr (fun v acc => acc.set v none) env).set v none)[i]? = some (some d) := e
    by_cases hv : v = i
    · subst hv
      rw [List.getElem?_set] at e'
      by_cases hh : v < (vs.foldr (fun v acc => acc.set v none) env).length
      · simp [hh] at e'
      · simp [hh] at e'
    · rw [List.getElem?_set_ne hv] at e'
      obtain ⟨x, a, b⟩ := ih.at_ i d e'
      exact ⟨x, by rw [List.getElem?_set_ne hv]; exact a, b⟩
theorem okE_setAll {as : AsM} {H0 : Hp} : ∀ {is : List Nat} {σ : L2.St} {env : List (Option D)} {vs : List V} {ds : List D}, OkE K as H0 σ env → RpA K as H0 vs ds → OkE K as H0 (DL.setAll σ is vs) (DL.setAll env is ds)
  | [], σ, env, vs, ds, h, r => by cases r <;> exact h
  | i :: is, σ, env, [], _, h, r => by cases r; exact h
  | i :: is, σ, env, v :: vs, d :: ds, h, r => by
    cases r with
    | cons r1 r2 =>
      show OkE K as H0 (DL.setAll (σ.set i (some v)) is vs) (DL.setAll (env.set i (some d)) is ds)
      exact okE_setAll (h.set i r1) r2
def wipeD (env : List (Option D)) (vs : List Nat) : List (Option D) := vs.foldr (fun v acc => acc.set v none) env
def dYes : DT := fun c R => R true c
def lcGo (k : Nat) (g : TgN) (tt : DT) (de : DE) (env : List (Option D)) : List D → List D → Cells → (List D → Cells → Prop) → Prop
  | [], acc, cs, R => R acc cs
  | d :: ds, acc, cs, R => ∃ env', tgSet g d env = some env' ∧ tt ⟨env', put cs k (.lst acc)⟩ fun b c2 => match b with
    | true => de c2 fun y c3 => c3.cs k = some (.lst acc) ∧ acc.length < sizeLine ∧ lcGo k g tt de env ds (acc ++ [y]) (del c3.cs k) R
    | false => c2.cs k = some (.lst acc) ∧ lcGo k g tt de env ds acc (del c2.cs k) R
def dLc (di : DI) (g : TgN) (tt : DT) (de : DE) : DE := fun c R => di c fun ds c1 => ∀ k, c1.cs k = none → lcGo k g tt de (wipeD c1.env g.vs) ds [] c1.cs fun acc cs' => R (.lst acc) { c1 with cs := cs' }
theorem put_del {cs : Cells} {k : Nat} {o : Co} (h : cs k = some o) : put (del cs k) k o = cs := by
  funext j; unfold put del; split
  · rename_i e; rw [e]; exact h.symm
  · rfl
theorem del_self {cs : Cells} {k : Nat} : del cs k k = none := if_pos rfl
/-- the reading of the low side -/
theorem lc_low {wi : TI} {di : DI} {g : TgN} {tt : DT} {de : DE} (low : ∀ σ H (Q : It → Hp → Prop), (∃ as H0 c R, Ok K as H0 H σ c ∧ di c R ∧
    ∀ as1 H01 H1 c1 ds J, Le as H0 as1 H01 → Ok K as1 H01 H1 σ c1 → ItD K as1 H01 J ds → R ds c1 → Q J H1) → wi σ H Q) :
    ∀ σ H Q, lift K (dLc di g tt de) σ H Q → tLc wi (tgLow K g) (liftT K tt) (lift K de) g.vs σ H Q := by
  intro σ H Q ⟨as, H0, c, R, ok, q, k⟩
  refine low _ _ _ ⟨as, H0, c, _, ok, q, fun as1 H1 Hn1 c1 ds J l1 ok1 it q1 => ?_⟩
  intro D hD
  obtain ⟨j, as2, hj, l2, ok2, rp⟩ := new_cell (u := .lst []) (o := .lst []) ok1 hD (.lst .nil)
  have aj : as2 j = some D := by cases rp with | cel h => exact h
  -- between two turns
  let Pv : Nat → Hp → Prop := fun i H' => ∃ as3 H3 acc cs', Le as2 H1 as3 H3 ∧ OkC K as3 H3 H' (put cs' j (.lst acc)) ∧ cs' j = none ∧
    lcGo j g tt de (wipeD c1.env g.vs) (ds.drop i) acc cs' fun acc cs' => R (.lst acc) { c1 with cs := cs' }
  have at_D : ∀ {as3 H3 H' acc cs'}, Le as2 H1 as3 H3 → OkC K as3 H3 H' cs' → cs' j = some (.lst acc) → ∃ vs, H' D = some (.lst vs) ∧ RpA K as3 H3 vs acc := by
    intro as3 H3 H' acc cs' l o e
    obtain ⟨p, u, g1, g2, g3, g4⟩ := o.cel j _ e
    rw [l.am _ _ aj] at g1; cases g1
    cases g4 with
    | lst g5 => exact ⟨_, g3, g5⟩
  refine ⟨fun i m H' => m = ds.length - i ∧ i ≤ ds.length ∧ Pv i H', ⟨_, rfl, Nat.zero_le _, as2, H1, [], c1.cs, .refl, ok2.c, hj, by rw [List.drop_zero]; exact q1 j hj⟩, ?_⟩
  rintro i m H' ⟨rfl, hi, as3, H3, acc, cs', l3, oc3, hj3, go⟩
  by_cases hlt : i < ds.length
  · refine .inr ⟨it.go _ _ _ _ _ (l2.trans l3) oc3 hlt, Pv (i + 1), fun H4 z => ⟨ds.length - (i + 1), by omega, rfl, hlt, z⟩, fun x H4 y => ?_⟩
    obtain ⟨d, hd⟩ : ∃ d, ds[i]? = some d := ⟨_, List.getElem?_eq_getElem hlt⟩
    have hdr : ds.drop i = d :: ds.drop (i + 1) := by
      rw [List.drop_eq_getElem_cons hlt]
      rw [List.getElem?_eq_getElem hlt] at hd
      cases hd; rfl
    rw [hdr] at go
    obtain ⟨env', e1, go⟩ := go
    obtain ⟨H5, l5, oc5, r5⟩ := it.yld _ _ _ _ _ _ _ _ (l2.trans l3) oc3 hd y
    have oe : OkE K as3 H5 (L2.wipe σ g.vs) (wipeD c1.env g.vs) := okE_wipe (ok1.e.mono ((l2.trans l3).trans l5)) g.vs
    -- the target
    have tg : ∀ σ2, L2.wipe σ2 g.vs = L2.wipe σ g.vs → OkE K as3 H5 σ2 env' → L2.wipe σ2 g.vs = L2.wipe σ g.vs ∧ liftT K tt σ2 H4 fun b H6 => if b = true then lift K de σ2 H6 fun y H7 => ∃ acc, H7 D = some (.lst acc) ∧ acc.length < sizeLine ∧ Pv (i + 1) (upd H7 D (.lst (acc ++ [y]))) else Pv (i + 1) H6 := by
      intro σ2 w2 oe2
      refine ⟨w2, as3, H5, ⟨env', put cs' j (.lst acc)⟩, _, ⟨oc5, oe2⟩, go, fun as6 H6 Hn6 c6 b l6 ok6 q6 => ?_⟩
      cases b with
      | true =>
        rw [if_pos rfl]
        refine ⟨as6, H6, c6, _, ok6, q6, fun as7 H7 Hn7 c7 v dv l7 ok7 r7 ⟨e7, h7, q7⟩ => ?_⟩
        have ll := ((l3.trans l5).trans l6).trans l7
        obtain ⟨vs, f1, f2⟩ := at_D ll ok7.c e7
        refine ⟨vs, f1, by rw [f2.length]; exact h7, as7, H7, _, _, ll, ?_, del_self, q7⟩
        have t := ok7.c.turn e7 (ll.am _ _ aj) (.lst (f2.append (.cons r7 .nil)))
        have ep : put (del c7.cs j) j (.lst (acc ++ [dv])) = put c7.cs j (.lst (acc ++ [dv])) := by
          funext b; unfold put del; split <;> rfl
        rw [ep]; exact t
      | false =>
        rw [if_neg Bool.false_ne_true]
        exact ⟨as6, H6, acc, _, (l3.trans l5).trans l6, by rw [put_del q6.1]; exact ok6.c, del_self, q6.2⟩
    cases g with
    | one i' =>
      cases e1
      refine tg _ (wipe_set (by rw [List.length_set, wipe_length]) fun b hb => ?_) (oe.set i' r5)
      have hb' : b ≠ i' := by simpa [TgN.vs] using hb
      rw [List.getElem?_set_ne (Ne.symm hb'), wipe_get]
      simp [TgN.vs, hb']
    | tup is =>
      cases d with
      | tup es =>
        have e1' : (if es.length = is.length then some (setAll (wipeD c1.env is) is es) else none) = some env' := e1
        split at e1'
        · rename_i hl
          cases e1'
          cases r5 with
          | tup g1 g2 =>
            refine ⟨_, _, rfl, seqT_mono oc5.ex g1, by rw [g2.length]; exact hl, ?_⟩
            refine tg _ (wipe_set (by rw [setAll_length, wipe_length]) fun b hb => ?_) (okE_setAll oe g2)
            have hb' : b ∉ is := hb
            rw [setAll_get hb', wipe_get]
            simp [TgN.vs, hb']
        · cases e1'
      | _ => cases e1
  · have e : i = ds.length := by omega
    subst e
    rw [List.drop_length] at go
    obtain ⟨vs, f1, f2⟩ := at_D l3 oc3 put_same
    obtain ⟨l4, oc4⟩ := oc3.freeze put_same (l3.am _ _ aj) f1
    rw [del_put hj3] at oc4
    have l := (l2.trans l3).trans l4
    exact .inl ⟨it.stop _ _ _ _ (l2.trans l3) oc3, k _ _ _ { c1 with cs := cs' } _ _ (l1.trans l) ⟨oc4, ok1.e.mono l⟩ (.lst upd_same (f2.mono l4)) go⟩
theorem pts_yes : PTs X [] (liftT X.K dYes) := ⟨fun pins s σ H Q I ⟨as, H0, c, R, ok, q, k⟩ => pts_nil.run pins s σ H Q I (k _ _ _ _ _ .refl ok q)⟩
theorem pd_lc {elt iter : Expr} {ifs : List Expr} {scope : Scope} {own : List (Str × Nat)} {di : DI} {g : TgN} {tt : DT} {de : DE} (hc : X.calm = true) (hN : X.N.Nodup) (hi : PDI X tg iter di) (ok : BlkOk X.N X.env.scope scope own) (ho : own.map (·.2) = g.vs)
    (hg : ∀ (s : Shared) (H : Hp) (C : Addr) (cl : List (Str × Addr)) (fp : List Addr), PG (X.blk s H scope (compEnvC scope cl C X.env) fp) tg (tgLow X.K g))
    (ht : ∀ (s : Shared) (H : Hp) (C : Addr) (cl : List (Str × Addr)) (fp : List Addr), PTs (X.blk s H scope (compEnvC scope cl C X.env) fp) ifs (liftT X.K tt))
    (he : ∀ (s : Shared) (H : Hp) (C : Addr) (cl : List (Str × Addr)) (fp : List Addr), PD (X.blk s H scope (compEnvC scope cl C X.env) fp) elt de) (hs : ∀ x, foldedSetIterable iter X.env x = pure x := by intro _; rfl) :
    PD X (.ListComp elt [⟨tg, iter, ifs, 0⟩] scope pos) (dLc di g tt de) := by
  obtain ⟨wi, hw, low⟩ := hi.ex
  have h := pe_lc (te := lift X.K de) (pos := pos) hc hN hw ok hg ht he hs
  rw [ho] at h
  exact pe_imp h (lc_low low)
end
/-! ### str of ints -/
def fStr : DFn := fun ds c R => match ds with
  | [.int i] => (-(2 ^ 200) < i ∧ i < 2 ^ 200) ∧ R (.str (toString i)) c
  | [.str s] => R (.str s) c
  | _ => False
section
variable {K : PySem.W.Frag} {X : Cx}
end

/-! ### repr, of {} too -/
section
variable {K : PySem.W.Frag} {X : Cx}
def fReprD : DFn := fun ds c R => match ds with
  | [.dic kvs] => kvs = [] ∧ R (.str (PyData.dict []).shown) c
  | ds => fRepr ds c R
end

theorem fStr_i {i : Int} {c : Z} {R : D → Z → Prop} : fStr [.int i] c R = ((-(2 ^ 200) < i ∧ i < 2 ^ 200) ∧ R (.str (toString i)) c) := rfl
theorem fReprD_d {c : Z} {R : D → Z → Prop} : fReprD [.dic []] c R = R (.str (PyData.dict []).shown) c := propext ⟨fun h => h.2, fun h => ⟨rfl, h⟩⟩
theorem e_enum {dr : DA} {c : Z} {RL : List D → Z → Prop} : iEnu dr c RL = dr c fun ds c1 => ∃ d xs, ds = [d] ∧ listD d = some xs ∧ RL (enumD xs) c1 := rfl
theorem e_zip {dr : DA} {c : Z} {RL : List D → Z → Prop} : iZipD dr c RL = dr c fun ds c1 => ∃ d e xs ys, ds = [d, e] ∧ listD d = some xs ∧ listD e = some ys ∧ RL (zipD xs ys) c1 := rfl
theorem e_gtp {gs : List DG} {ds : List D} {c : Z} {RZ : Z → Prop} : gTp gs (.tup ds) c RZ = (ds.length = gs.length ∧ gList gs ds c RZ) :=
  propext ⟨fun ⟨_, e, h, q⟩ => by cases e; exact ⟨h, q⟩, fun ⟨h, q⟩ => ⟨_, rfl, h, q⟩⟩
end DL

namespace DL
open PySem L2

/-! ### try .. except -/
section
variable {K : PySem.W.Frag} {as : AsM} {H0 : Hp}
theorem okE_none {σ : L2.St} {env : List (Option D)} (h : OkE K as H0 σ env) (i : Nat) : OkE K as H0 (σ.set i none) (env.set i none) := by
  refine ⟨by rw [List.length_set, List.length_set]; exact h.len, fun j d e => ?_⟩
  by_cases hv : i = j
  · subst hv
    rw [List.getElem?_set] at e
    by_cases hh : i < env.length
    · simp [hh] at e
    · simp [hh] at e
  · rw [List.getElem?_set_ne hv] at e
    obtain ⟨x, a, b⟩ := h.at_ j d e
    exact ⟨x, by rw [List.getElem?_set_ne hv]; exact a, b⟩
end
/-- who catches: by the raised class's name -/
def sTryAs (sub : Str → Option Bool) (i : Nat) (sb : DS) (su : Addr → DX → DS) : DS := fun DD c => sb { DD with xx := fun x c1 => ∃ b, sub x.cls = some b ∧
  (b = true → ∀ a, su a x { nx := fun c2 => DD.nx { c2 with env := c2.env.set i none }, rt := DD.rt, bk := fun c2 => DD.bk { c2 with env := c2.env.set i none }, ct := fun c2 => DD.ct { c2 with env := c2.env.set i none } } { c1 with env := c1.env.set i (some (.ref a)) }) ∧
  (b = false → DD.xx x c1) } c
section
variable {X : Cx} {x n : Str} {c : Value} {i : Nat} {body suite : List Stmt} {b₀ : Stmt} {np pos pos' : Pos} {sb : DS} {sub : Str → Option Bool}
/-- what the suite is asked, on the low side -/
def tSuite (X : Cx) (su : Addr → DX → DS) : Addr → Value → Option Addr → TS := fun a cls d Dn σ H => ∃ (y : DX) (C : Addr), cls = .ref C ∧ X.mg y.cls = some (.ref C) ∧ (y.fs = none → d = none) ∧ liftS X.K X.mg (fun _ _ _ _ => False) (su a y) Dn σ H
theorem xd_none {K : PySem.W.Frag} {as : AsM} {H0 : Hp} {y : DX} {d : Option Addr} (h : XD K as H0 y d) : y.fs = none → d = none := by
  cases h with
  | no => intro _; rfl
  | fs h1 h2 => intro z; cases z
theorem pds_tryAs {su : Addr → DX → DS} (hs : X.stack = X.env :: X.outer) (hf : X.env.frame = some X.env.locals) (hN : X.N.Nodup) (hi : X.N[i]? = some n) (hln : X.env.kindOf n = some .local) (hc : Names X x c)
    (hsub : ∀ r b C, sub r = some b → X.mg r = some (.ref C) → PySem.W.exmOne X.K (.ref C) c = some b)
    (hb : ∀ (pn : List (Addr × Obj)) (xe : Value → Shared → Prop), PassesOwn (model X.prog X.w) X.A X.env xe → PDB (X.tr pn xe) body sb)
    (hsu : ∀ (a : Addr) (oe : Obj) (C : Addr) (y : DX) (d : Option Addr) (pn : List (Addr × Obj)), Zc (.ref C) d oe → (∃ vs, oe.data = .fields vs) → X.mg y.cls = some (.ref C) → (y.fs = none → d = none) → PDB (X.suite a ((a, oe) :: pn)) (b₀ :: suite) (su a y)) :
    PDS X (.Try body [.ExceptHandler (some (.Name x np)) (some n) (b₀ :: suite) pos'] [] [] pos) (sTryAs sub i sb su) := by
  intro W tk
  refine ps_imp (ps_try_as (i := i) (tb := fun W' => liftS X.K X.mg W' sb) (ts := tSuite X su) hs hf hN hi hln hc tk (fun W' pn xe tk' po => hb pn xe po W' tk')
    (fun a oe cls d pn hz hff => ⟨fun pins s σ H D I ⟨y, C, e1, e2, e3, l⟩ => ?_⟩)) fun Dn σ H ⟨as, H0, c0, DD, ok, q, k⟩ => ⟨as, H0, c0, _, ok, q, ?_⟩
  · subst e1
    exact (hsu a oe C y d pn hz hff e2 e3 (fun _ _ _ _ => False) takes0).run pins s σ H D I l
  · refine ⟨k.nx, k.bk, k.ct, k.rt, fun as1 H1 Hn1 σ1 c1 y d C l1 ok1 xd hm ⟨b, eb, yes, no⟩ => ⟨b, hsub _ _ _ eb hm, fun hbt a ha => ?_, fun hbf => k.xx _ _ _ _ _ _ _ _ l1 ok1 xd hm (no hbf)⟩⟩
    have ok2 : Ok X.K as1 H1 Hn1 (σ1.set i (some (.ref a))) { c1 with env := c1.env.set i (some (.ref a)) } := ⟨ok1.c, ok1.e.set i (.ref a)⟩
    refine ⟨y, C, rfl, hm, xd_none xd, as1, H1, _, _, ok2, yes hbt a, ?_⟩
    have nn : ∀ {as' H0' H' σ' c'}, Ok X.K as' H0' H' σ' c' → Ok X.K as' H0' H' (σ'.set i none) { c' with env := c'.env.set i none } := fun o => ⟨o.c, okE_none o.e i⟩
    exact ⟨fun _ _ _ _ _ l2 o q => k.nx _ _ _ _ _ (l1.trans l2) (nn o) q, fun _ _ _ _ _ l2 o q => k.bk _ _ _ _ _ (l1.trans l2) (nn o) q, fun _ _ _ _ _ l2 o q => k.ct _ _ _ _ _ (l1.trans l2) (nn o) q,
      fun _ _ _ _ _ _ l2 o r q => k.rt _ _ _ _ _ _ (l1.trans l2) o r q, fun _ _ _ _ _ _ _ _ _ _ _ _ z => z.elim⟩
end

/-! ### isinstance of the caught one -/
/-- a name of a class, as a value -/
structure ClsN (X : Cx) (e : Expr) (cv : Value) : Prop where
  ex : ∃ v, PE X e (tC v) ∧ ClsV v cv
section
variable {X : Cx} {x : Str} {pos p p2 : Pos} {i : Nat}
theorem clsN_own {C : Addr} (hg : Gl X x) (hm : X.mg x = some (.ref C)) (hd : (x == ("__debug__" : Str)) = false := by decide) : ClsN X (.Name x pos) (.ref C) := ⟨.ref C, pe_glob hg hm rfl hd, .own C⟩
theorem clsN_ty {n : String} (hg : Gl X x) (hm : X.mg x = none) (hv : bootBuiltins x = some (.type n)) (hn : x ≠ "__name__" := by decide) (hd : (x == ("__debug__" : Str)) = false := by decide) : ClsN X (.Name x pos) (.type n) := ⟨.ty n, pe_bltn (v := .ty n) hg hm hv rfl hn hd, .ty n⟩
variable {a D : Addr} {oe : Obj} {d : Option Addr} {pn : List (Addr × Obj)} {e : Expr} {ob : Option Bool} {cv cv2 : Value}
end

/-! ### append -/
section
variable {X : Cx} {o e : Expr} {do_ da : DE} {apos cpos : Pos}
def dApp (do_ da : DE) : DE := fun c R => do_ c fun o c1 => match o with
  | .cel k => (∃ ds0, c1.cs k = some (.lst ds0)) ∧ da c1 fun v c2 => ∃ ds, c2.cs k = some (.lst ds) ∧ ds.length < sizeLine ∧ R .non { c2 with cs := put c2.cs k (.lst (ds ++ [v])) }
  | _ => False
theorem pd_append (ho : PD X o do_) (he : PD X e da)
    (hbase : attributeBase o "append" X.env (eval o X.env) = eval o X.env := by rfl)
    (hfew : ((backTo cpos (starEach [e] X.env)).all (fun x => !x.1) && (backToKw cpos (keywordEach [] X.env)).all (fun x => x.1.isSome)
      && decide (([e] : List Expr).length + ([] : List Keyword).length + (if ([] : List Keyword).isEmpty then 0 else 1) < 30)) = true := by rfl)
    (hline : (apos.endLine == cpos.line) = true := by rfl) (hs : starEach [e] X.env = (false, eval e X.env) :: starEach [] X.env := by rfl) :
    PD X (.Call (.Attribute o "append" apos) [e] [] cpos) (dApp do_ da) := by
  refine ⟨fun pins s σ H Q I ⟨as, H0, c, R, ok, q, k⟩ => ?_⟩
  refine (pe_bm (cpos := cpos) PySem.F.plainAttrs_list PySem.F.slot_list_append PySem.F.type_list_append mt_append ho (pda_cons he pda_nil hs) hbase hfew hline hs rfl).run pins s σ H Q I
    ⟨as, H0, c, _, ok, q, fun as1 H1 Hn1 c1 v d l1 ok1 r1 q1 => ?_⟩
  cases d with
  | cel j =>
    obtain ⟨⟨ds0, e0⟩, q1⟩ := q1
    obtain ⟨p, us, rfl, ap, g3, g4⟩ := cell_lst ok1 r1 e0
    refine ⟨.inl ⟨rfl, us, SqL.of g3⟩, as1, H1, c1, _, ok1, (show dCons da dNil c1 (fun ds c2 => match ds with | [v] => ∃ ds, c2.cs j = some (.lst ds) ∧ ds.length < sizeLine ∧ R .non { c2 with cs := put c2.cs j (.lst (ds ++ [v])) } | _ => False) from q1), fun as2 H2 Hn2 c2 vs ds l2 ok2 rd h => ?_⟩
    match ds, h with
    | [v], ⟨ds1, h1, h2, h3⟩ =>
    obtain ⟨u, rfl, ru⟩ := rpa1 rd
    obtain ⟨p', us', e3, ap', g5, g6⟩ := cell_lst ok2 (.cel (l2.am _ _ ap)) h1
    cases e3
    refine ⟨p, us', u, rfl, rfl, g5, by rw [g6.length]; exact h2, ?_⟩
    exact k _ _ _ _ _ _ (l1.trans l2) (cell_set ok2 h1 ap' (.lst (g6.append (.cons ru .nil)))) .non h3
  | _ => exact q1.elim
end
end DL

/-! word in row of words: the word may be any thing -/
namespace PySem.SeqAt
open AutoSeq1 (wpAny_loadPart')
open MeetsSeq
section
variable {P : Program} {w : World} {A : Around} {E : Value → Shared → Prop} {s : Shared}
end
end PySem.SeqAt
namespace DL
open L2 PySem PyProof.Rows
section
variable {X : Cx} {K : PySem.W.Frag}
end
end DL
namespace DL
end DL

/-! ### three names at once -/
namespace DL
open L2 PySem PyProof.Rows
section
variable {X : Cx}
def sPar3 (i j l : Nat) (da : DA) : DS := fun DD c => da c fun ds c1 => match ds with
  | [d1, d2, d3] => DD.nx { c1 with env := ((c1.env.set i (some d1)).set j (some d2)).set l (some d3) }
  | _ => False
theorem e_par3 {i j l : Nat} {da : DA} {DD : DEnds} {c : Z} : sPar3 i j l da DD c = da c fun ds c1 => match ds with
  | [d1, d2, d3] => DD.nx { c1 with env := ((c1.env.set i (some d1)).set j (some d2)).set l (some d3) }
  | _ => False := rfl
end
end DL

namespace DL
open L2 PySem PyProof.Rows
/-! ### a key in a dict -/
section
variable {X : Cx} {K : PySem.W.Frag}
theorem look_some {as : AsM} {H : Hp} {k : Key} : ∀ {ds : List (Key × D)} {vs : List (Key × V)}, RpK K as H vs ds → (valV vs k).isSome = (lookD ds k).isSome
  | [], _, h => by cases h; rfl
  | (j, x) :: ds, _, h => by
    cases h with
    | cons h1 h2 =>
      have ih := look_some (k := k) h2
      by_cases q : j = k
      · simp [valV, lookD, q]
      · simp [valV, lookD, q] at ih ⊢
        exact ih
end
/-! ### how many of a list -/
section
variable {X : Cx} {K : PySem.W.Frag} {o e : Expr} {do_ da : DE} {apos cpos : Pos}
end
end DL

namespace DL
open L2 PySem PyProof.Rows
def onCel (o : D) (f : Nat → Prop) : Prop := match o with | .cel k => f k | _ => False
theorem onCel_c {k : Nat} {f : Nat → Prop} : onCel (.cel k) f = f k := rfl
theorem onCel_of {o : D} {f : Nat → Prop} (h : onCel o f) : ∃ k, o = .cel k ∧ f k := by
  cases o <;> first | exact ⟨_, rfl, h⟩ | exact h.elim
def onDic (o : D) (f : List (Key × D) → Prop) : Prop := match o with | .dic k => f k | _ => False
theorem onDic_d {k : List (Key × D)} {f : List (Key × D) → Prop} : onDic (.dic k) f = f k := rfl
theorem onDic_of {o : D} {f : List (Key × D) → Prop} (h : onDic o f) : ∃ k, o = .dic k ∧ f k := by
  cases o <;> first | exact ⟨_, rfl, h⟩ | exact h.elim
def onKey (o : D) (f : Key → Prop) : Prop := match o with | .int i => f (.inl i) | .str s => f (.inr s) | _ => False
theorem onKey_i {i : Int} {f : Key → Prop} : onKey (.int i) f = f (.inl i) := rfl
theorem onKey_s {i : Str} {f : Key → Prop} : onKey (.str i) f = f (.inr i) := rfl
theorem onKey_of {o : D} {f : Key → Prop} (h : onKey o f) : ∃ k, keyD o = some k ∧ f k := by
  cases o <;> first | exact ⟨_, rfl, h⟩ | exact h.elim
/-! ### a changing thing's last reading -/
section
variable {X : Cx} {K : PySem.W.Frag} {e a b : Expr} {da db : DE} {pos : Pos}
def dFrz (da : DE) : DE := fun c R => da c fun d c1 => onCel d fun k => ∃ ds, c1.cs k = some (.lst ds) ∧ R (.lst ds) { c1 with cs := del c1.cs k }
theorem pd_frz (ha : PD X e da) : PD X e (dFrz da) := pe_imp ha fun σ H Q ⟨as, H0, c, R, ok, q, k⟩ => ⟨as, H0, c, _, ok, q, fun as1 H1 Hn1 c1 v d l1 ok1 r1 q0 => by
  obtain ⟨j, e1, ds, e2, q1⟩ := onCel_of q0
  subst e1
  cases r1 with
  | cel ej =>
    rename_i p
    obtain ⟨p', u, g1, g2, g3, g4⟩ := ok1.c.cel j _ e2
    rw [ej] at g1; cases g1
    cases g4 with
    | lst g5 =>
      obtain ⟨l, oc⟩ := ok1.c.freeze e2 ej g3
      exact k _ _ _ { c1 with cs := del c1.cs j } _ _ (l1.trans l) ⟨oc, ok1.e.mono l⟩ (.lst upd_same (g5.mono l)) q1⟩
def dFrzD (da : DE) : DE := fun c R => da c fun d c1 => onCel d fun k => ∃ ds, c1.cs k = some (.dic ds) ∧ R (.dic ds) { c1 with cs := del c1.cs k }
/-! ### dicts that change -/
def cellD : Option Co → Option (List (Key × D)) | some (.dic kvs) => some kvs | some (.fdic _ _ kvs) => some kvs | _ => none
theorem cellD_dic {k : List (Key × D)} : cellD (some (.dic k)) = some k := rfl
theorem cellD_fdic {od : Obj} {vs : List (Key × V)} {k : List (Key × D)} : cellD (some (.fdic od vs k)) = some k := rfl
theorem key_rp {as : AsM} {H : Hp} {v : V} {d : D} {k : Key} (r : Rp K as H v d) (h : keyD d = some k) : v = kV k := by
  cases r <;> first | (cases h; rfl) | cases h
/-- {} that will change -/
def dDNewC : DE := fun c R => ∀ k, c.cs k = none → R (.cel k) { c with cs := put c.cs k (.dic []) }
theorem pd_dnewC : PD X (.Dict [] [] pos) dDNewC := pe_imp pe_dnewK fun σ H Q ⟨as, H0, c, R, ok, q, k⟩ => fun p hp => by
  obtain ⟨j, as1, hj, l1, ok1, rp⟩ := new_cell (u := .dK []) (o := .dic []) ok hp (.dic .nil)
  exact k _ _ _ _ _ _ l1 ok1 rp (q j hj)
def dIxC : DF := fun x y c R => onCel x fun k => onKey y fun key => ∃ kvs, cellD (c.cs k) = some kvs ∧ ∃ d, lookD kvs key = some d ∧ R d c
def rInR (neg : Bool) : R2 := fun x y H Q => ∃ p kvs k, y = .ref p ∧ x = kV k ∧ Rd H p (.dK kvs) ∧ Q (.bl (if neg then !(valV kvs k).isSome else (valV kvs k).isSome)) H
theorem op_inR (hu : X.A.units + 64 < cLine) : OpR X (compareOp .In) (rInR false) := by
  intro pins s σ H x y v u Q I rx ry h
  obtain ⟨p, kvs, k, rfl, rfl, e, q⟩ := h
  cases ry
  exact d_in (by omega) I (.inl ⟨kvs, k, e, rfl, rfl⟩) rx fun s3 I3 => ⟨.bl _, H, I3, rfl, q⟩
def dInCN (neg : Bool) : DF := fun x y c R => onCel y fun j => onKey x fun k => ∃ kvs, cellD (c.cs j) = some kvs ∧ R (.bl (if neg then !(lookD kvs k).isSome else (lookD kvs k).isSome)) c
def dInC : DF := dInCN false
def dNotInC : DF := dInCN true
def dUpd (do_ da : DE) : DE := fun c R => do_ c fun o c1 => onCel o fun k => (∃ kvs, c1.cs k = some (.dic kvs)) ∧ da c1 fun v c2 => onDic v fun more => ∃ kvs, c2.cs k = some (.dic kvs) ∧ kvs.length + more.length ≤ sizeLine ∧ R .non { c2 with cs := put c2.cs k (.dic (mergeD kvs more)) }
variable {o : Expr} {do_ : DE} {apos cpos : Pos}
end
/-! ### a walk over a dict -/
section
variable {X : Cx} {K : PySem.W.Frag} {tg : Expr} {body : List Stmt} {pos p : Pos} {sb : DS} {g : DG} {x : Str}
end
end DL

namespace DL
open L2 PySem PyProof.Rows
theorem OkC.sub {K : PySem.W.Frag} {as : AsM} {H0 H : Hp} {cs cs' : Cells} (h : OkC K as H0 H cs) (hs : ∀ k o, cs' k = some o → cs k = some o) : OkC K as H0 H cs' := by
  have low : ∀ k, cs' k ≠ none → cs k ≠ none := fun k z => by
    cases q : cs' k with
    | none => exact absurd q z
    | some o => rw [hs k o q]; exact Option.some_ne_none o
  exact ⟨h.ex, h.fin, fun k o e => h.cel k o (hs k o e), fun k k' p e1 e2 c1 c2 => h.inj k k' p e1 e2 (low k c1) (low k' c2)⟩
section
variable {X : Cx} {K : PySem.W.Frag} {e a b : Expr} {da db : DE} {pos : Pos}
/-! ### is, of truths -/
def dIsB : DF := fun x y c R => match x, y with | .bl a, .bl b => R (.bl (decide (a = b))) c | _, _ => False
theorem e_isB {x y : Bool} {c : Z} {R : D → Z → Prop} : dIsB (.bl x) (.bl y) c R = R (.bl (decide (x = y))) c := rfl
/-! ### a list to names -/
/-! ### tuple of a list -/
/-! ### sorted, of ints -/
/-! ### bits of an int -/
def dBits (da : DE) : DE := fun c R => da c fun x c1 => match x with | .int i => R (.int (Builtin.Int.intBits i : Nat)) c1 | _ => False
/-! ### where in a list -/
end
end DL

namespace DL
open L2 PySem PyProof.Rows
section
variable {X : Cx} {K : PySem.W.Frag} {k n : Nat} {f : Addr} {fd : FuncData} {ps ks : List Str} {sem : Sem} {gD : List D → List D → List D} {x : Str} {p pos : Pos} {kws : List Keyword} {dk : DA}
/-! ### a call by keywords alone -/
/-! ### max and min of a list of ints -/
end
end DL

/-! an exception that is kept behind its suite, isinstance of such -/
namespace DL
open L2 PySem PySem.Spec PyProof.Rows
section
variable {X : Cx} {pins : List (Addr × Obj)} {σ : L2.St} {H : Hp} {s : Shared}
/-- an object that stands, and is new since the entry, is tracked from here on -/
theorem Inv.track {a : Addr} {o : HO} (I : L2.Inv X pins σ H s) (na : H a = none) (n0 : X.s_0.heap.get? a = none) (nL : a ≠ X.env.locals) (nC : ∀ x c, X.env.cells.lookup x = some c → c ≠ a) (nP : ∀ p ∈ X.pn ++ pins, p.1 ≠ a)
    (new : ObjOk X.prog X.w (upd H a o) s.heap a o) : L2.Inv X pins σ (upd H a o) s := by
  have ne0 : ∀ b u, X.s_0.heap.get? b = some u → b ≠ a := fun b u e z => by rw [z, n0] at e; cases e
  have neH : ∀ b u, H b = some u → b ≠ a := fun b u e z => by rw [z, na] at e; cases e
  refine ⟨I.ok, I.os, I.bare, ⟨I.base.keep, I.base.slot, fun b u e n hq => ?_, I.base.there, fun b xs e => ?_, fun b ob u e => ?_, fun b ps e => ?_⟩, I.loc, I.cell, ?_, fun x c e => ?_, fun p hp => ?_, fun b u e => ?_, I.len⟩
  · rw [upd_ne (ne0 b u e)]; exact I.base.free b u e n hq
  · have q := I.base.tups b xs e
    rw [upd_ne (neH b _ q)]; exact q
  · have q := I.base.frzs b ob u e
    rw [upd_ne (neH b _ q)]; exact q
  · obtain ⟨m, q⟩ := I.base.tbls b ps e
    exact ⟨m, by rw [upd_ne (neH b _ q)]; exact q⟩
  · rw [upd_ne (Ne.symm nL)]; exact I.free
  · rw [upd_ne (nC x c e)]; exact I.freeC x c e
  · obtain ⟨e, n, ne, nf, d⟩ := I.pin p hp
    exact ⟨e, by rw [upd_ne (nP p hp)]; exact n, ne, nf, d⟩
  · by_cases hb : b = a
    · subst hb; rw [upd_same] at e; cases e; exact new
    · rw [upd_ne hb] at e
      exact (I.hok b u e).stay (fun c v _ q => q) (fun c q => by rw [upd_ne (neH c _ q)]; exact q) fun c xs q => by rw [upd_ne (neH c _ q)]; exact q
theorem Inv.suite0 (I : L2.Inv X pins σ H s) (a : Addr) : L2.Inv (X.suite a (X.pn ++ pins)) [] σ H s :=
  ⟨I.ok.suite _ _, I.os, I.bare, I.base, I.loc, I.cell, I.free, I.freeC, fun p hp => I.pin p (by rw [List.append_nil] at hp; exact hp), I.hok, I.len⟩
theorem Inv.unsuite0 {a : Addr} {pn' : List (Addr × Obj)} (I : L2.Inv (X.suite a (X.pn ++ pins)) pn' σ H s) (ok : X.Ok) : L2.Inv X pins σ H s :=
  ⟨ok, I.os, I.bare, I.base, I.loc, I.cell, I.free, I.freeC, fun p hp => I.pin p (List.mem_append_left _ hp), I.hok, I.len⟩
theorem exH_ok {P : Program} {w : World} {h : Heap} {a : Addr} {cls : Value} {d : Option Addr} {oe : Obj} {vs : Array Value} (e : h.get? a = some oe) (z : Zc cls d oe) (q : oe.data = .fields vs) : ObjOk P w H h a (ExH cls d a) :=
  ⟨⟨oe, e, z, vs, q⟩, ⟨oe, e⟩, fun _ _ ⟨o, q, r⟩ k => ⟨o, k o q, r⟩⟩
end
/-- what the clause wishes: the exception is tracked from then on -/
def wKp (K : PySem.W.Frag) (c : Value) (i : Nat) (ts : Value → Option Addr → TS) (Wout : WX) (D : Ends) : WX := fun cls d σ H =>
  ∃ b, PySem.W.exmOne K cls c = some b ∧ (b = true → ∀ a, H a = none → ts cls d { nx := fun σ' H' => D.nx (σ'.set i none) H', rt := D.rt, bk := fun σ' H' => D.bk (σ'.set i none) H', ct := fun σ' H' => D.ct (σ'.set i none) H' } (σ.set i (some (.ref a))) (upd H a (ExH cls d a))) ∧
    (b = false → Wout cls d σ H)
section
variable {X : Cx} {x n : Str} {c : Value} {i : Nat} {body suite : List Stmt} {b₀ : Stmt} {np pos pos' : Pos} {tb : WX → TS} {ts : Value → Option Addr → TS} {Wout : WX}
theorem ps_try_keep (hs : X.stack = X.env :: X.outer) (hf : X.env.frame = some X.env.locals) (hex : X.ex = []) (hN : X.N.Nodup) (hi : X.N[i]? = some n) (hln : X.env.kindOf n = some .local) (hc : Names X x c) (tk : Takes X Wout)
    (hb : ∀ (W : WX) (pn : List (Addr × Obj)) (xe : Value → Shared → Prop), Takes (X.tr pn xe) W → PassesOwn (model X.prog X.w) X.A X.env xe → PSs (X.tr pn xe) body (tb W))
    (hsu : ∀ (a : Addr) (cls : Value) (d : Option Addr) (pn : List (Addr × Obj)), PSs (X.suite a pn) (b₀ :: suite) (ts cls d)) :
    PS X (.Try body [.ExceptHandler (some (.Name x np)) (some n) (b₀ :: suite) pos'] [] [] pos) (fun D σ H => tb (wKp X.K c i ts Wout D) D σ H) := by
  refine ⟨fun pins s σ H D I h => ?_⟩
  have ok := I.ok
  have hfr : X.A.frames = some (X.env :: X.outer) := by rw [ok.frames, hs]
  have hloc : Loc X.env.scope n := .inl hln
  refine wpAny_Try_except ?_
  refine wpAny_mono ((hb (wKp X.K c i ts Wout D) (X.pn ++ pins) (fun e s₁ => wpAny (model X.prog X.w) X.A (noteFrame e X.env) (fun _ s₂ => wpAny (model X.prog X.w) X.A (setFlight e none) (fun _ s₃ =>
    wpAny (model X.prog X.w) X.A (handleBy e X.env [.ExceptHandler (some (.Name x np)) (some n) (b₀ :: suite) pos']) (SP X pins D) X.xe s₃) X.xe s₂) X.xe s₁) (fun u s' xx => ?_) PassesOwn.looking).run [] s σ H D (I.toTry _) h) (fun f s1 hsp => ?_) (fun e s1 he => he)
  · obtain ⟨a, B, sI, pins', σ', H', cls, d, rfl, J', nb, up, sky, na, os, ag, b, hb1, hyes, hno⟩ := xx
    have J : L2.Inv X pins σ' H' sI := J'.ofTry ok
    have sky' : Sky B (X.env :: X.outer) a (Zc cls d) X.env.locals s'.heap := by rw [← hs]; exact sky
    show wpAny (model X.prog X.w) X.A (noteFrame (.ref a) X.env) _ _ _
    refine Sky.land Zc.steady hfr hf sky' fun h3 fl3 up3 => ?_
    have J3 : L2.Inv X pins σ' H' { s' with heap := h3 } := J.landed nb fl3.1 (up.trans up3) os ag
    obtain ⟨oe3, vs3, he3, hz3, hd3⟩ := fl3.there
    have notFr : ∀ {h : Heap} {o : Obj} {vs : Array Value}, h.FunFrames B (X.env :: X.outer) → h.get? a = some o → o.data = .fields vs → a ∉ frs (X.env :: X.outer) := fun {h o vs} ff e dd hm => by
      obtain ⟨_, o', e', hnf⟩ := ff.mem hm
      rw [e] at e'; cases e'
      exact hnf _ dd
    have nfr := notFr fl3.2.2.1 he3 hd3
    have nL : a ≠ X.env.locals := fun z => nfr (List.mem_filterMap.mpr ⟨X.env, List.mem_cons_self, by rw [hf, z]⟩)
    have nF : a ∉ X.fs := fun hm => by
      obtain ⟨e, he, q⟩ := List.mem_filterMap.mp hm
      exact nfr (List.mem_filterMap.mpr ⟨e, List.mem_cons_of_mem _ he, q⟩)
    -- it was not there before
    have nI : sI.heap.get? a = none := by
      cases q : sI.heap.get? a with
      | none => rfl
      | some o =>
        have z := nb a o q (by rw [hs]; exact nfr)
        rw [fl3.2.1] at z; cases z
    have n0 : X.s_0.heap.get? a = none := by
      cases q : X.s_0.heap.get? a with
      | none => rfl
      | some o =>
        obtain ⟨o', z⟩ := J.base.there a o q (by rw [hex]; exact List.not_mem_nil)
        rw [nI] at z; cases z
    have nC : ∀ y cc, X.env.cells.lookup y = some cc → cc ≠ a := fun y cc e z => by
      obtain ⟨v, o, ho, _⟩ := J.cell y cc e
      rw [z, nI] at ho; cases ho
    have nP : ∀ p ∈ X.pn ++ pins, p.1 ≠ a := fun p hp z => by
      have e := (J.pin p hp).1
      rw [z, nI] at e; cases e
    have S3 := J3.suite he3 hd3 na nL nF
    refine wpAny_handleBy_cons (codeAny_handlers_test ?_) (by intro q; cases q)
    have LT : PySem.W.Looks (model X.prog X.w) h3 (typeOf (.ref a)) cls := fun A Q E s k q => wpAny_typeOf_ref (k _ _ he3) (by rw [hz3.1]; exact q)
    have LM := PySem.W.exm_one (M := model X.prog X.w) (J3.kIn) LT hb1
    have test : ∀ {Q : Value → Shared → Prop} {E : Value → Shared → Prop}, Q c { s' with heap := h3 } → wpAny (model X.prog X.w) (X.A.mark (some (.ref a))) (eval (.Name x np) X.env) Q E { s' with heap := h3 } := fun {Q E} q => by
      obtain ⟨hg, hdbg, hm | ⟨hm, hv, hnn⟩⟩ := hc
      · exact ld_glob (X := X.suite a ((a, oe3) :: (X.pn ++ pins))) S3 hg hm q hdbg
      · exact ld_blt (X := X.suite a ((a, oe3) :: (X.pn ++ pins))) S3 hg hm hv q hnn hdbg
    refine test (LM.here ?_)
    cases b with
    | true =>
      refine codeAny_handlers_suite_as ?_
      refine HandSPX.lands_againZ fl3 fun h4 fl4 up4 => ?_
      have J4 : L2.Inv X pins σ' H' { s' with heap := h4 } := J.landed nb fl4.1 ((up.trans up3).trans up4) os ag
      obtain ⟨oe4, vs4, he4, hz4, hd4⟩ := fl4.there
      have S4 := Inv.suite0 (Inv.track (o := ExH cls d a) J4 na n0 nL nC nP (exH_ok he4 hz4 hd4)) a
      refine store_ok (X := X.suite a (X.pn ++ pins)) (v := .ref a) S4 hN hi hloc rfl (fun s5 S5 => ?_) (.inr hln)
      refine wpAny_mono ((hsu a cls d (X.pn ++ pins)).run [] s5 _ _ _ S5 (hyes rfl a na)) (fun f s6 hsp => ?_) (fun _ _ z => False.elim z)
      have end_ : ∀ {σ6 : L2.St} {H6 : Hp} {Q : Shared → Prop}, L2.Inv (X.suite a (X.pn ++ pins)) [] σ6 H6 s6 → (∀ s7, L2.Inv X pins (σ6.set i none) H6 s7 → Q s7) →
          wpAny (model X.prog X.w) X.A (do bindName X.env n .none; unbindBehindTheSuite X.env n pos') (fun _ s7 => Q s7) X.xe s6 := fun {σ6 H6 Q} S6 hq => gone_ok (Inv.unsuite0 S6 ok) hN hi hln hq
      cases f with
      | next =>
        obtain ⟨σ6, H6, S6, q6⟩ := hsp
        exact end_ S6 fun s7 J7 => ⟨_, _, J7, q6⟩
      | brk =>
        obtain ⟨σ6, H6, S6, q6⟩ := hsp
        exact end_ S6 fun s7 J7 => ⟨_, _, J7, q6⟩
      | cont =>
        obtain ⟨σ6, H6, S6, q6⟩ := hsp
        exact end_ S6 fun s7 J7 => ⟨_, _, J7, q6⟩
      | ret u =>
        obtain ⟨v6, σ6, H6, S6, r6, q6⟩ := hsp
        exact end_ S6 fun s7 J7 => ⟨_, _, _, J7, r6, q6⟩
    | false =>
      show wpAny _ X.A (handleBy (.ref a) X.env []) _ _ _
      refine wpAny_handleBy_nil ?_
      obtain ⟨k1, k2, k3, oe, vs, T, oT, ts', he, hz, hd, h1, hr⟩ := id fl3
      unfold PySem.passOn
      refine wpAny_bind (wpAny_field he hd h1 ?_)
      rw [if_neg (show ¬ ((Value.ref T == Value.none) = true) from by simp)]
      have fin : wpAny (model X.prog X.w) X.A (setFlight (.ref a) X.env.frame) (fun _ s4 => wpAny (model X.prog X.w) X.A (throw (.ref a) : PySem.Sem Flow) (SP X pins D) X.xe s4) X.xe { s' with heap := h3 } := by
        rw [hf]
        refine HandSPX.setFlight_upZ fl3 fun h4 hh4 up4 => wpAny_throw (tk _ _ ?_)
        exact ⟨a, B, sI, pins, σ', H', cls, d, rfl, J, nb, (up.trans up3).trans up4, .inr (.inr (by rw [hs]; exact hh4)), na, os, ag, hno rfl⟩
      first
        | exact wpAny_bind (wpAny_pure (wpAny_bind fin))
        | exact wpAny_bind fin
  · cases f with
    | next =>
      obtain ⟨σ', H', J', q⟩ := hsp
      exact wpAny_execs_nil ⟨σ', H', J'.ofTry ok, q⟩
    | brk =>
      obtain ⟨σ', H', J', q⟩ := hsp
      exact ⟨σ', H', J'.ofTry ok, q⟩
    | cont =>
      obtain ⟨σ', H', J', q⟩ := hsp
      exact ⟨σ', H', J'.ofTry ok, q⟩
    | ret u =>
      obtain ⟨v, σ', H', J', r, q⟩ := hsp
      exact ⟨v, σ', H', J'.ofTry ok, r, q⟩
end
/-! #### by data -/
def sTryKeep (sub : Str → Option Bool) (i : Nat) (sb su : DS) : DS := fun DD c => sb { DD with xx := fun x c1 => ∃ b, sub x.cls = some b ∧
  (b = true → ∀ k, c1.cs k = none → su { nx := fun c2 => DD.nx { c2 with env := c2.env.set i none }, rt := DD.rt, bk := fun c2 => DD.bk { c2 with env := c2.env.set i none }, ct := fun c2 => DD.ct { c2 with env := c2.env.set i none } } ⟨c1.env.set i (some (.cel k)), put c1.cs k (.exc x)⟩) ∧
  (b = false → DD.xx x c1) } c
section
variable {X : Cx} {x n : Str} {c : Value} {i : Nat} {body suite : List Stmt} {b₀ : Stmt} {np pos pos' : Pos} {sb su : DS} {sub : Str → Option Bool}
theorem pds_tryKeep (hs : X.stack = X.env :: X.outer) (hf : X.env.frame = some X.env.locals) (hex : X.ex = []) (hN : X.N.Nodup) (hi : X.N[i]? = some n) (hln : X.env.kindOf n = some .local) (hc : Names X x c)
    (hsub : ∀ r b C, sub r = some b → X.mg r = some (.ref C) → PySem.W.exmOne X.K (.ref C) c = some b) (hcl : ∀ r b C, sub r = some b → X.mg r = some (.ref C) → ClsK X.K r C)
    (hb : ∀ (pn : List (Addr × Obj)) (xe : Value → Shared → Prop), PassesOwn (model X.prog X.w) X.A X.env xe → PDB (X.tr pn xe) body sb)
    (hsu : ∀ (a : Addr) (pn : List (Addr × Obj)), PDB (X.suite a pn) (b₀ :: suite) su) :
    PDS X (.Try body [.ExceptHandler (some (.Name x np)) (some n) (b₀ :: suite) pos'] [] [] pos) (sTryKeep sub i sb su) := by
  intro W tk
  refine ps_imp (ps_try_keep (i := i) (tb := fun W' => liftS X.K X.mg W' sb) (ts := fun _ _ => liftS X.K X.mg (fun _ _ _ _ => False) su) hs hf hex hN hi hln hc tk (fun W' pn xe tk' po => hb pn xe po W' tk')
    (fun a cls d pn => hsu a pn (fun _ _ _ _ => False) takes0)) fun Dn σ H ⟨as, H0, c0, DD, ok, q, k⟩ => ⟨as, H0, c0, _, ok, q, ?_⟩
  refine ⟨k.nx, k.bk, k.ct, k.rt, fun as1 H1 Hn1 σ1 c1 y d C l1 ok1 xd hm ⟨b, eb, yes, no⟩ => ⟨b, hsub _ _ _ eb hm, fun hbt a ha => ?_, fun hbf => k.xx _ _ _ _ _ _ _ _ l1 ok1 xd hm (no hbf)⟩⟩
  obtain ⟨j, as2, hj, l2, oc2, aj⟩ := ok1.c.cell ha (.exc xd (hcl _ _ _ eb hm))
  have ok2 : Ok X.K as2 H1 (upd Hn1 a (ExH (.ref C) d a)) (σ1.set i (some (.ref a))) ⟨c1.env.set i (some (.cel j)), put c1.cs j (.exc y)⟩ := ⟨oc2, (ok1.e.mono l2).set i (.cel aj)⟩
  refine ⟨as2, H1, _, _, ok2, yes hbt j hj, ?_⟩
  have nn : ∀ {as' H0' H' σ' c'}, Ok X.K as' H0' H' σ' c' → Ok X.K as' H0' H' (σ'.set i none) { c' with env := c'.env.set i none } := fun o => ⟨o.c, okE_none o.e i⟩
  have l := l1.trans l2
  exact ⟨fun _ _ _ _ _ l2 o q => k.nx _ _ _ _ _ (l.trans l2) (nn o) q, fun _ _ _ _ _ l2 o q => k.bk _ _ _ _ _ (l.trans l2) (nn o) q, fun _ _ _ _ _ l2 o q => k.ct _ _ _ _ _ (l.trans l2) (nn o) q,
    fun _ _ _ _ _ _ l2 o r q => k.rt _ _ _ _ _ _ (l.trans l2) o r q, fun _ _ _ _ _ _ _ _ _ _ _ _ z => z.elim⟩
end
/-! ### isinstance of a kept one -/
section
variable {X : Cx} {K : PySem.W.Frag}
theorem inst_exH {P : Program} {w : World} {H : Hp} {h : Heap} {a C : Addr} {d : Option Addr} (hok : HOk P w H h) (e : H a = some (ExH (.ref C) d a)) (hd : ∀ dd, d = some dd → ∃ fs, H dd = some (.xd fs)) : ∃ oe od, PySem.W.InstAt h a oe C od := by
  obtain ⟨⟨oe, ho, hz, vs, hv⟩, _⟩ := hok a _ e
  cases d with
  | none => exact ⟨oe, none, ho, hz.1, by unfold PySem.W.notCls; rw [hv] <;> rfl, by rw [hz.2]; trivial⟩
  | some dd =>
    obtain ⟨fs, hx⟩ := hd dd rfl
    obtain ⟨mA, hns, _⟩ := hok dd _ hx
    obtain ⟨od, hod, _⟩ := lookIn_ns hns
    exact ⟨oe, some od, ho, hz.1, by unfold PySem.W.notCls; rw [hv] <;> rfl, by rw [hz.2]; exact hod⟩
/-- what flies, as it lies in the heap -/
def ExAt (K : PySem.W.Frag) (H : Hp) (a C : Addr) : Prop := ∃ d, H a = some (ExH (.ref C) d a) ∧ ∀ dd, d = some dd → ∃ fs, H dd = some (.xd fs)
def rIsX (K : PySem.W.Frag) : List V → Hp → VK → Prop := fun xs H Q => ∃ (a C : Addr) (v : V) (cv : Value) (b : Bool), xs = [.ref a, v] ∧ ClsV v cv ∧ ExAt K H a C ∧ ExcC K C ∧ PySem.W.kitOne K (.ref C) cv = some b ∧ Q (.bl b) H
theorem call_isX : CallR X (.builtin "isinstance") (rIsX X.K) := by
  intro pins s σ H xs us Q I r ⟨a, C, v, cv, b, e0, hc, ⟨d, ha, hd⟩, EC, kt, q⟩
  subst e0
  obtain ⟨wa, wb, rfl, ra, rb⟩ := vals2 r
  cases (show wa = Value.ref a from ra)
  have e3 := hc.eq rb
  subst e3
  obtain ⟨oe, od, J⟩ := inst_exH I.hok ha hd
  have hcl : (PySem.W.clsIn X.K C).isSome = true := by obtain ⟨cd, hc, _⟩ := PySem.W.any_some EC.hd; rw [hc]; rfl
  exact PySem.W.kia_one (PySem.W.kitx_exc hcl EC.hg EC.hk EC.hs EC.ha EC.hn EC.ht EC.hm) I.kIn J kt (fun z => nomatch z) fun tk => ⟨.bl b, H, I.kept (t' := tk) fun _ _ z => z, rfl, q⟩
def dIsX (ob : Str → Option Bool) (da : DE) : DE := fun c R => da c fun d c1 => onCel d fun k => ∃ x b, c1.cs k = some (.exc x) ∧ ob x.cls = some b ∧ R (.bl b) c1
theorem cell_exc {as : AsM} {H0 H : Hp} {cs : Cells} {k : Nat} {x : DX} {v : V} (ok : OkC K as H0 H cs) (r : Rp K as H0 v (.cel k)) (h : cs k = some (.exc x)) : ∃ p C d, v = .ref p ∧ as k = some p ∧ H p = some (ExH (.ref C) d p) ∧ XD K as H0 x d ∧ ClsK K x.cls C := by
  cases r with
  | cel e =>
    obtain ⟨p', u, h1, h2, h3, h4⟩ := ok.cel k _ h
    rw [e] at h1; cases h1
    cases h4 with
    | exc h5 h6 => exact ⟨_, _, _, rfl, e, h3, h5, h6⟩
theorem exAt_of {as : AsM} {H0 H : Hp} {a C : Addr} {d : Option Addr} {x : DX} (ex : ∀ a o, H0 a = some o → H a = some o) (e : H a = some (ExH (.ref C) d a)) (h : XD K as H0 x d) : ExAt K H a C := by
  cases h with
  | no => exact ⟨none, e, fun _ z => nomatch z⟩
  | fs h1 h2 => exact ⟨_, e, fun dd z => by cases z; exact ⟨_, ex _ _ h1⟩⟩
variable {ob : Str → Option Bool} {e e2 : Expr} {da : DE} {pos p : Pos} {cv : Value}
theorem pd_isX (hI : Gl X "isinstance") (hIm : X.mg "isinstance" = none) (ha : PD X e da) (hc : ClsN X e2 cv) (h : ∀ r b C, ob r = some b → ClsK X.K r C → ExcC X.K C ∧ PySem.W.kitOne X.K (.ref C) cv = some b)
    (he0 : starEach [e, e2] X.env = (false, eval e X.env) :: starEach [e2] X.env := by rfl) (he1 : starEach [e2] X.env = [(false, eval e2 X.env)] := by rfl) :
    PD X (.Call (.Name "isinstance" p) [e, e2] [] pos) (dIsX ob da) := by
  obtain ⟨v, hpe, hcv⟩ := hc.ex
  have pe := pe_callB (pos := pos) (p := p) (call_isX (X := X)) hI hIm (by decide +kernel) (pa_cons ha (pa_cons hpe pa_nil he1) he0) (he := he0) (hpl := by
    show ((backTo pos (starEach [e2] X.env)).any (·.1)) = false
    rw [he1]; rfl)
  refine pe_imp pe fun σ H Q ⟨as, H0, c, R, ok, q, k⟩ => ⟨as, H0, c, _, ok, q, fun as1 H1 Hn1 c1 u d l1 ok1 r1 q0 => ?_⟩
  obtain ⟨j, e1, x, b, e3, e4, q1⟩ := onCel_of q0
  subst e1
  obtain ⟨a, C, dd, rfl, ap, hH, xd, cl⟩ := cell_exc ok1.c r1 e3
  obtain ⟨EC, kt⟩ := h _ _ _ e4 cl
  exact ⟨a, C, v, cv, b, rfl, hcv, exAt_of ok1.c.ex hH xd, EC, kt, k _ _ _ _ _ _ l1 ok1 (.bl b) q1⟩
end
end DL
namespace DL
open L2 PySem PyProof.Rows
section
variable {X : Cx} {K : PySem.W.Frag} {a b : Expr} {rest : List Expr} {da db : DE} {pos : Pos}
/-! ### x or y, of things of any kind -/
end
end DL
namespace DL
open L2 PySem PyProof.Rows
section
variable {X : Cx} {K : PySem.W.Frag} {a b e : Expr} {da db : DE} {pos p : Pos} {x : Str}
/-! ### what is not reached -/
/-! ### a dict of the module, of texts -/
end
/-! ### some of the keyword-only parameters are written -/
section
variable {K : PySem.W.Frag} {f : Addr} {fd : FuncData} {ps ks : List Str} {x qual : Str} {params : Arguments} {body : List Stmt} {scope : Scope} {kws : List (Str × V)}
end
end DL

/-! t[::-1] of a tuple -/
namespace HT
open PySem PyProof.Rows
section
variable {prog : Program} {w : World} {A : Around} {E : Value → Shared → Prop} {s : Shared}
end
end HT
namespace L2
open PySem PySem.Spec PyProof.Rows
section
variable {X : Cx}
end
end L2
namespace DL
open L2 PySem PySem.Spec PyProof.Rows
section
variable {X : Cx} {a : Expr} {da : DE}
/-- t[::-1] -/
def dRevT (da : DE) : DE := fun c R => da c fun d c1 => ∃ ds, d = .tup ds ∧ R (.tup ds.reverse) c1
end
end DL

/-! d[k] = v of a dict that changes -/
namespace DL
open L2 PySem PyProof.Rows
section
variable {X : Cx} {K : PySem.W.Frag} {e a b o i : Expr} {da db do_ di : DE} {pos : Pos}
def gIxC (do_ di : DE) : DG := fun v c R => do_ c fun o c1 => di c1 fun i c2 => onCel o fun k => onKey i fun key => ∃ kvs, c2.cs k = some (.dic kvs) ∧ kvs.length < sizeLine ∧ R { c2 with cs := put c2.cs k (.dic (putD kvs key v)) }
theorem pdg_ixC (hu : X.A.units + 1 < cLine) (ho : PD X o do_) (hi : PD X i di)
    (ha : ∀ v, assign (.Subscript o i pos) X.env v = (do
      let ov ← holding [v] (eval o X.env)
      let iv ← holding [v, ov] (eval i X.env)
      standAt pos
      holding [v, ov, iv] (setItem ov iv v)
      release [v, ov, iv] []) := by intro _; rfl) : PDG X (.Subscript o i pos) (gIxC do_ di) :=
  pg_imp (pg_sub ho hi (set_dict hu) ha) fun v σ H Q ⟨as, H0, c, d, R, ok, r, q, k⟩ => ⟨as, H0, c, _, ok, q, fun as1 H1 Hn1 c1 v1 d1 l1 ok1 r1 q1 => ⟨as1, H1, c1, _, ok1, q1, fun as2 H2 Hn2 c2 v2 d2 l2 ok2 r2 q2 => by
    obtain ⟨j, e1, q0⟩ := onCel_of q2
    obtain ⟨key, e3, kvs, e2, e4, q⟩ := onKey_of q0
    subst e1
    have e := key_rp r2 e3
    subst e
    have r1' := r1.mono l2
    cases r1' with
    | cel ej =>
      obtain ⟨p', u, g1, g2, g3, g4⟩ := ok2.c.cel j _ e2
      rw [ej] at g1; cases g1
      cases g4 with
      | dic g5 =>
        have hl : kvs.length = _ := g5.length.symm
        exact ⟨_, _, rfl, .k g3 (by rw [← hl]; exact e4), k _ _ _ _ _ (l1.trans l2) (cell_set ok2 e2 ej (.dic (g5.put (r.mono (l1.trans l2))))) q⟩⟩⟩
end
end DL

/-! a walk along two lists that change, but not in the meanwhile -/
namespace DL
open L2 PySem PyProof.Rows
section
variable {X : Cx} {K : PySem.W.Frag} {dr : DA} {pos : Pos}
end
end DL

/-! a < b < c < d -/
namespace L2
open PySem PySem.Spec PyProof.Rows
section
variable {X : Cx} {ta tb tc td : TE} {a b c d : Expr} {pos : Pos}
end
end L2
namespace DL
open L2 PySem PySem.Spec PyProof.Rows
section
variable {X : Cx} {da db dc dd : DE} {a b c d : Expr} {pos : Pos}
def onBl (z : D) (A B : Prop) : Prop := match z with | .bl true => A | .bl false => B | _ => False
theorem onBl_b {k : Bool} {A B : Prop} : onBl (.bl k) A B = if k = true then A else B := by cases k <;> rfl
def dChain3 (f g h : DF) (da db dc dd : DE) : DE := fun c R => da c fun x c1 => db c1 fun y c2 => f x y c2 fun z c3 => onBl z (dc c3 fun w c4 => g y w c4 fun z2 c5 => onBl z2 (dd c5 fun w2 c6 => h w w2 c6 R) (R (.bl false) c5)) (R (.bl false) c3)
end
end DL

/-! list(a sequence), list(range(n)) -/
namespace DL
open L2 PySem PyProof.Rows
section
variable {X : Cx} {K : PySem.W.Frag} {a : Expr} {da : DE}
def fLstOf : DFn := fun ds c R => match ds with
  | [.lst xs] => R (.lst xs) c | [.slst xs] => R (.lst xs) c | [.tup xs] => R (.lst xs) c | _ => False
theorem callD_lstOf : CallD K (fun xs H Q => ∃ p ys, xs = [V.ref p] ∧ (SqL K H p ys ∨ SqT K H p ys) ∧ ∀ l, H l = none → Q (.ref l) (upd H l (.lst ys))) fLstOf := by
  intro as H0 H σ c vs ds R Q ok r h k
  unfold fLstOf at h
  split at h
  · obtain ⟨v, rfl, r1⟩ := rpa1 r
    cases r1 with
    | lst g1 g2 =>
      refine ⟨_, _, rfl, .inl (SqL.of (ok.c.ex _ _ g1)), fun l hl => ?_⟩
      obtain ⟨l', ok'⟩ := new_known (o := .lst _) ok hl
      exact k _ _ _ _ _ _ l' ok' (rp_lst l' g2) h
  · obtain ⟨v, rfl, r1⟩ := rpa1 r
    cases r1 with
    | slst g1 g2 =>
      refine ⟨_, _, rfl, .inl (seqL_mono ok.c.ex g1), fun l hl => ?_⟩
      obtain ⟨l', ok'⟩ := new_known (o := .lst _) ok hl
      exact k _ _ _ _ _ _ l' ok' (rp_lst l' g2) h
  · obtain ⟨v, rfl, r1⟩ := rpa1 r
    cases r1 with
    | tup g1 g2 =>
      refine ⟨_, _, rfl, .inr (seqT_mono ok.c.ex g1), fun l hl => ?_⟩
      obtain ⟨l', ok'⟩ := new_known (o := .lst _) ok hl
      exact k _ _ _ _ _ _ l' ok' (rp_lst l' g2) h
  · exact h.elim
def onInt (x : D) (f : Int → Prop) : Prop := match x with | .int i => f i | _ => False
theorem onInt_i {i : Int} {f : Int → Prop} : onInt (.int i) f = f i := rfl
def dLstRg (da : DE) : DE := fun c R => da c fun x c1 => onInt x fun n => (0 ≤ n ∧ n ≤ 16777216) ∧ R (.lst (rangeD 0 n.toNat)) c1
end
end DL

/-! tuples: + and slices of any kind -/
namespace DL
open L2 PySem PyProof.Rows
section
variable {X : Cx} {K : PySem.W.Frag} {a b : Expr} {da db : DE} {pos : Pos}
def dAddA : DF := fun x y c R => match x, y with
  | .tup xs, .tup ys => xs.length + ys.length ≤ sizeLine ∧ R (.tup (xs ++ ys)) c
  | x, y => dAdd x y c R
theorem e_adda {xs ys : List D} {c : Z} {R : D → Z → Prop} : dAddA (.tup xs) (.tup ys) c R = (xs.length + ys.length ≤ sizeLine ∧ R (.tup (xs ++ ys)) c) := rfl
theorem e_adda_ii {i j : Int} {c : Z} {R : D → Z → Prop} : dAddA (.int i) (.int j) c R = R (.int (i + j)) c := rfl
theorem opD_addA : OpD K (fun x y H Q => rAdd5 K x y H Q ∨ rCatA K x y H Q) dAddA := by
  intro as H0 H σ c v1 v2 d1 d2 R Q ok r1 r2 h k
  have old : dAdd d1 d2 c R → rAdd5 K v1 v2 H Q ∨ rCatA K v1 v2 H Q := fun h => .inl (opD_add as H0 H σ c v1 v2 d1 d2 R Q ok r1 r2 h k)
  cases d1 with
  | tup xs =>
    cases d2 with
    | tup ys =>
      cases r1 with
      | tup g1 g2 =>
        cases r2 with
        | tup g3 g4 =>
          obtain ⟨hl, q⟩ := h
          have n1 := g2.length
          have n2 := g4.length
          refine .inr ⟨_, _, _, _, rfl, rfl, seqT_mono ok.c.ex g1, seqT_mono ok.c.ex g3, by rw [n1, n2]; exact hl, fun e => ?_, fun _ e => ?_, fun _ _ p hp => ?_⟩
          · subst e
            have : xs = [] := List.eq_nil_of_length_eq_zero n1.symm
            subst this
            exact k _ _ _ _ _ _ .refl ok (.tup g3 g4) q
          · subst e
            have : ys = [] := List.eq_nil_of_length_eq_zero n2.symm
            subst this
            rw [List.append_nil] at q
            exact k _ _ _ _ _ _ .refl ok (.tup g1 g2) q
          · obtain ⟨l', ok'⟩ := new_known (o := .tup _) ok hp
            exact k _ _ _ _ _ _ l' ok' (rp_tup l' (g2.append g4)) q
    | _ => exact old h
  | _ => exact old h
theorem pd_addA (ha : PD X a da) (hb : PD X b db) : PD X (.BinOp a .Add b pos) (dBin dAddA da db) := pd_bin (opR_or op_add5 op_catA) opD_addA ha hb
def dSlTF : D → Option Int → Option Int → Z → (D → Z → Prop) → Prop := fun x lo hi c R => match x with
  | .tup ds => R (.tup (cutD ds lo hi)) c
  | _ => False
def dSlT (da : DE) (dl dh : DO) : DE := fun c R => da c fun x c1 => dl c1 fun lo c2 => dh c2 fun hi c3 => dSlTF x lo hi c3 R
theorem e_slt {xs : List D} {lo hi : Option Int} {c : Z} {R : D → Z → Prop} : dSlTF (.tup xs) lo hi c R = R (.tup (cutD xs lo hi)) c := rfl
theorem e_lstof_t {xs : List D} {c : Z} {R : D → Z → Prop} : fLstOf [.tup xs] c R = R (.lst xs) c := rfl
theorem e_lstof_l {xs : List D} {c : Z} {R : D → Z → Prop} : fLstOf [.lst xs] c R = R (.lst xs) c := rfl
end
end DL

/-! [e for x in xs for y in ys] -/
namespace DL
open L2 PySem PyProof.Rows
section
variable {X : Cx} {K : PySem.W.Frag}
end
end DL
namespace DL
open L2 PySem PyProof.Rows
section
variable {X : Cx} {tg tg1 : Expr} {pos : Pos}
/-- the scope of a comprehension that is written so -/
def lcSc : Expr → Scope | .ListComp _ _ s _ => s | .Call _ (e :: _) _ _ => lcSc e | .Subscript e _ _ => lcSc e | _ => defScope (.Pass ⟨0, 0, 0, 0⟩)
def stE : Stmt → Expr | .Assign _ e _ => e | .Return (some e) _ => e | _ => .Constant .none 0 ⟨0, 0, 0, 0⟩
end
end DL

/-! enumerate(t), t a tuple -/
namespace DL
open L2 PySem PyProof.Rows
section
variable {pr : Program} {wd : World} {Ar : Around} {Er : Value → Shared → Prop} {st : Shared}
end
section
variable {pr : Program} {wd : World} {Ar : Around} {Er : Value → Shared → Prop} {st : Shared}
end
section
variable {X : Cx} {dr : DA}
end
end DL

/-! sorted(set(l)), l a list of ints -/
namespace DL
open L2 PySem PyProof.Rows
section
variable {pr : Program} {wd : World} {Ar : Around} {Er : Value → Shared → Prop} {st : Shared}
end
section
variable {X : Cx}
/-- the scope of a comprehension, as it stands within one of scope o -/
def relSc (sc o : Scope) : Scope := { sc with names := sc.names.map fun (n, k) => if (k == .free && o.kind == .function && o.names.lookup n == some .cell) then (n, .cell) else (n, k) }
end
end DL

/-! list(zip(a, b)), a and b tuples -/
namespace DL
open L2 PySem PyProof.Rows
section
variable {pr : Program} {wd : World} {Ar : Around} {Er : Value → Shared → Prop} {st : Shared} {z TI TO T i1 i2 l1 l2 : Addr} {fl : Bool} {oT : Obj} {k1 k2 : Nat} {xs ys : Array Value} {x y : Value}
end
/-- zip(a, b) behind i draws; S: the list that takes the pairs -/
structure Zst (h : Heap) (z TI TO i1 i2 l1 l2 S : Addr) (xs ys : Array Value) (i : Nat) : Prop where
  ti : IsPair h TI (.ref i1) (.ref i2)
  w1 : h.IsTupleIter i1 l1 i
  w2 : h.IsTupleIter i2 l2 i
  t1 : h.IsTuple l1 xs
  t2 : h.IsTuple l2 ys
  zo : (IsZip h z TI TO .none ∧ ∃ a b, IsPair h TO a b) ∨ ∃ T f oT, IsZipHeld h z TI TO T f ∧ h.get? T = some oT ∧ T ≠ z ∧ T ≠ i1 ∧ T ≠ i2 ∧ T ≠ S
section
variable {pr : Program} {wd : World} {Ar : Around} {Er : Value → Shared → Prop} {st : Shared} {z TI TO i1 i2 l1 l2 S : Addr} {i : Nat} {xs ys : Array Value} {x y : Value}
theorem Zst.keep {h h' : Heap} (q : Zst h z TI TO i1 i2 l1 l2 S xs ys i) (low : ∀ b ∈ [z, TI, TO, i1, i2, l1, l2], b < S) (k : ∀ b o, b ≠ S → h.get? b = some o → h'.get? b = some o) : Zst h' z TI TO i1 i2 l1 l2 S xs ys i := by
  have ne : ∀ b ∈ [z, TI, TO, i1, i2, l1, l2], b ≠ S := fun b hb => Nat.ne_of_lt (low b hb)
  simp only [List.forall_mem_cons, List.not_mem_nil, false_imp_iff, implies_true, and_true] at ne
  obtain ⟨n1, n2, n3, n4, n5, n6, n7⟩ := ne
  refine ⟨k _ _ n2 q.ti, q.w1.at fun o => k _ o n4, q.w2.at fun o => k _ o n5, q.t1.at fun o => k _ o n6, q.t2.at fun o => k _ o n7, ?_⟩
  rcases q.zo with ⟨e, a, b, f⟩ | ⟨T, f, oT, e, g, r1, r2, r3, r4⟩
  · exact .inl ⟨k _ _ n1 e, a, b, k _ _ n3 f⟩
  · exact .inr ⟨T, f, oT, k _ _ n1 e, k _ _ r4 g, r1, r2, r3, r4⟩
theorem Zst.type {s : Shared} (q : Zst s.heap z TI TO i1 i2 l1 l2 S xs ys i) : s.TypeIs (.ref z) "zip" := by
  rcases q.zo with ⟨e, _⟩ | ⟨T, f, oT, e, _⟩
  · exact ⟨_, e, rfl⟩
  · exact ⟨_, e, rfl⟩
/-- the pairs that stand -/
structure Zgot (xs ys : Array Value) (S : Addr) (h : Heap) (as : List Addr) : Prop where
  rise : as.Pairwise (· < ·)
  above : ∀ a ∈ as, S < a
  pairs : ∀ (j : Nat) (a : Addr), as[j]? = some a → ∃ x y, xs[j]? = some x ∧ ys[j]? = some y ∧ IsPair h a x y
theorem Zgot.there {h : Heap} {as : List Addr} (g : Zgot xs ys S h as) {a : Addr} (ha : a ∈ as) : a < h.objs.size := by
  obtain ⟨j, hj⟩ := List.mem_iff_getElem?.mp ha
  obtain ⟨_, _, _, _, e⟩ := g.pairs j a hj
  exact Heap.lt_size e
end
/-! #### what is tracked then -/
section
variable {X : Cx} {pins : List (Addr × Obj)} {σ : L2.St} {H : Hp} {s : Shared}
end
end DL

/-! a list that changes no more, under its name -/
namespace DL
open L2 PySem PyProof.Rows
theorem OkE.turnTo {K : PySem.W.Frag} {as : AsM} {H : Hp} {σ : L2.St} {env : List (Option D)} {i : Nat} {v : V} {d : D} (h : OkE K as H σ env) (e : σ[i]? = some (some v)) (r : Rp K as H v d) : OkE K as H σ (env.set i (some d)) := by
  refine ⟨by rw [List.length_set]; exact h.len, fun j x hj => ?_⟩
  by_cases q : i = j
  · subst q
    have lt : i < env.length := by rw [h.len]; exact (List.getElem?_eq_some_iff.mp e).1
    rw [List.getElem?_set_self lt] at hj
    cases hj
    exact ⟨v, e, r⟩
  · rw [List.getElem?_set_ne q] at hj
    exact h.at_ j x hj
end DL

/-! all(l), any(l), l a list of bools -/
namespace DL
open L2 PySem PyProof.Rows
section
variable {K : PySem.W.Frag}
theorem boolsOf_rp {as : AsM} {H : Hp} : ∀ {bs : List Bool} {vs : List V}, RpA K as H vs (bs.map D.bl) → vs = bs.map V.bl
  | [], _, h => by cases h; rfl
  | b :: bs, _, h => by
    cases h with
    | cons h1 h2 =>
      cases h1
      rw [boolsOf_rp h2]; rfl
def fAll : DFn := fun ds c R => ∃ d, ∃ bs : List Bool, ds = [d] ∧ listD d = some (bs.map .bl) ∧ R (.bl (bs.all id)) c
theorem callD_all : CallD K (rAll K) fAll := by
  intro as H0 H σ c vs ds R Q ok r ⟨d, bs, e, h1, h3⟩ k
  subst e
  obtain ⟨v, rfl, r1⟩ := rpa1 r
  obtain ⟨a, us, rfl, g1, g2⟩ := listD_rp ok.c.ex r1 h1
  have e := boolsOf_rp g2
  subst e
  exact ⟨a, bs, rfl, g1, k _ _ _ _ _ _ .refl ok (.bl _) h3⟩
end
end DL

/-! sets of texts: what stands in one, a text put in -/
namespace DL
open L2 PySem PyProof.Rows
/-- the text of a row -/
def rowT (x : Int × Value) : Str := match x.2 with | .str y _ => y | _ => Str.ofString ""
def TxRow (wd : World) (x : Int × Value) : Prop := ∃ y u, x.2 = Value.str y u ∧ x.1 = hashStr wd y
/-- the rows es hold the texts M, each once -/
structure Rows (wd : World) (es : Array (Int × Value)) (t : SetTable) (M : Str → Bool) : Prop where
  rows : ∀ x ∈ es.toList, TxRow wd x
  once : (es.toList.map rowT).Nodup
  mem : ∀ y, M y = true ↔ y ∈ es.toList.map rowT
  few : es.size < scanBound
  fit : t.fits es.size = true
  ris : Ris t.place.toList
  led : wd.params.followText "set-order" = true ∨ t.led = true
def SetS (wd : World) (h : Heap) (a : Addr) (M : Str → Bool) (n : Nat) : Prop :=
  ∃ o es ep t, h.get? a = some o ∧ o.ExactSet ∧ o.data = .set es ep t ∧ Rows wd es t M ∧ es.size = n
section
variable {pr : Program} {wd : World} {Ar : Around} {Er : Value → Shared → Prop} {st : Shared} {a : Addr} {M : Str → Bool} {n : Nat}
theorem SetS.keep {h h' : Heap} (z : SetS wd h a M n) (k : ∀ o, h.get? a = some o → h'.get? a = some o) : SetS wd h' a M n := by
  rcases z with ⟨o, es, ep, t, g, z⟩
  exact ⟨o, es, ep, t, k o g, z⟩
theorem SetS.same {h : Heap} {M' : Str → Bool} (z : SetS wd h a M n) (e : ∀ y, M' y = M y) : SetS wd h a M' n := by
  rw [show M' = M from funext e]; exact z
end
end DL

/-! sorted(set(l)), l a list of texts -/
namespace DL
open L2 PySem PyProof.Rows
section
variable {pr : Program} {wd : World} {Ar : Around} {Er : Value → Shared → Prop} {st : Shared}
end
end DL

/-! sorted(set(l)), l a list of texts: the reading -/
namespace DL
open L2 PySem PyProof.Rows
section
variable {pr : Program} {wd : World} {Ar : Around} {Er : Value → Shared → Prop} {st : Shared} {a : Addr} {M : Str → Bool} {n : Nat}
end
section
variable {X : Cx}
end
end DL

/-! sorted(set(l)) as a list that may change; l may be one too -/
namespace DL
open L2 PySem PyProof.Rows
section
variable {X : Cx}
end
end DL

/-! texts in order, each once: by their members alone -/
namespace DL
open L2 PySem PySem.Spec PyProof.Rows
end DL

/-! a != b, a and b lists of which some elements are changing lists -/
namespace DL
open L2 PySem PyProof.Rows
section
variable {K : PySem.W.Frag}
end
section
variable {X : Cx} {a b : Expr} {da db : DE} {pos : Pos}
end
end DL

/-! l[::-1] of a list; x in l, things of any depth; a list that may change + a list; data that are one -/
namespace DL
open L2 PySem PySem.Spec PyProof.Rows
section
variable {X : Cx} {K : PySem.W.Frag} {a b : Expr} {da db : DE}
/-- l + [..], l a list that may change: a new one that may change -/
def dAddCel : DF := fun x y c R => onCel x fun k => ∃ xs ys, c.cs k = some (.lst xs) ∧ y = .lst ys ∧ xs.length + ys.length ≤ sizeLine ∧ ∀ j, c.cs j = none → R (.cel j) { c with cs := put c.cs j (.lst (xs ++ ys)) }
theorem opD_addCel : OpD K rCat dAddCel := by
  intro as H0 H σ c v1 v2 d1 d2 R Q ok r1 r2 h k
  obtain ⟨i, rfl, xs, ys, e1, e2, few, q⟩ := onCel_of h
  obtain ⟨p, us, rfl, _, g3, g4⟩ := cell_lst ok r1 e1
  subst e2
  cases r2 with
  | lst g5 g6 =>
    refine ⟨_, _, _, _, rfl, rfl, g3, ok.c.ex _ _ g5, by rw [g4.length, g6.length]; exact few, fun p hp => ?_⟩
    obtain ⟨j, as3, free, l3, ok3, r3⟩ := new_cell ok hp (.lst (g4.append g6))
    exact k _ _ _ _ _ _ l3 ok3 r3 (q j free)
theorem pd_addCel {pos : Pos} (ha : PD X a da) (hb : PD X b db) : PD X (.BinOp a .Add b pos) (dBin dAddCel da db) := pd_bin op_cat opD_addCel ha hb
end
/-! ### data of which those alike are one -/
end DL

/-! a dict from a comprehension -/
namespace L2
open PySem PySem.Spec PyProof.Rows
section
variable {X : Cx}
end
end L2
namespace DL
open L2 PySem PySem.Spec PyProof.Rows
def dcGo (k : Nat) (g : TgN) (tt : DT) (dk dv : DE) (env : List (Option D)) : List D → List (Key × D) → Cells → (List (Key × D) → Cells → Prop) → Prop
  | [], acc, cs, R => R acc cs
  | d :: ds, acc, cs, R => ∃ env', tgSet g d env = some env' ∧ tt ⟨env', put cs k (.dic acc)⟩ fun b c2 => match b with
    | true => dk c2 fun y c3 => dv c3 fun z c4 => ∃ key, keyD y = some key ∧ c4.cs k = some (.dic acc) ∧ acc.length < sizeLine ∧ dcGo k g tt dk dv env ds (putD acc key z) (del c4.cs k) R
    | false => c2.cs k = some (.dic acc) ∧ dcGo k g tt dk dv env ds acc (del c2.cs k) R
def dDc (di : DI) (g : TgN) (tt : DT) (dk dv : DE) : DE := fun c R => di c fun ds c1 => ∀ k, c1.cs k = none → dcGo k g tt dk dv (wipeD c1.env g.vs) ds [] c1.cs fun acc cs' => R (.dic acc) { c1 with cs := cs' }
section
variable {K : PySem.W.Frag} {X : Cx}
theorem keyV_rp {as : AsM} {H : Hp} {v : V} {d : D} {k : Key} (r : Rp K as H v d) (h : keyD d = some k) : v = kV k := by
  cases r <;> first | (cases h; rfl) | cases h
theorem dc_low {wi : TI} {di : DI} {g : TgN} {tt : DT} {dk dv : DE} (low : ∀ σ H (Q : It → Hp → Prop), (∃ as H0 c R, Ok K as H0 H σ c ∧ di c R ∧
    ∀ as1 H01 H1 c1 ds J, Le as H0 as1 H01 → Ok K as1 H01 H1 σ c1 → ItD K as1 H01 J ds → R ds c1 → Q J H1) → wi σ H Q) :
    ∀ σ H Q (Q2 : VK), (∀ v H1, (∃ d u, v = .ref d ∧ H1 d = some u ∧ Mut (some u) ∧ ∀ od, Q v (upd H1 d (.frz od u))) → Q2 v H1) → lift K (dDc di g tt dk dv) σ H Q → tDc wi (tgLow K g) (liftT K tt) (lift K dk) (lift K dv) g.vs σ H Q2 := by
  intro σ H Q Q2 hq ⟨as, H0, c, R, ok, q, k⟩
  refine low _ _ _ ⟨as, H0, c, _, ok, q, fun as1 H1 Hn1 c1 ds J l1 ok1 it q1 => ?_⟩
  intro D hD
  obtain ⟨j, as2, hj, l2, ok2, rp⟩ := new_cell (u := .dK []) (o := .dic []) ok1 hD (.dic .nil)
  have aj : as2 j = some D := by cases rp with | cel h => exact h
  let Pv : Nat → Hp → Prop := fun i H' => ∃ as3 H3 acc cs', Le as2 H1 as3 H3 ∧ OkC K as3 H3 H' (put cs' j (.dic acc)) ∧ cs' j = none ∧
    dcGo j g tt dk dv (wipeD c1.env g.vs) (ds.drop i) acc cs' fun acc cs' => R (.dic acc) { c1 with cs := cs' }
  have at_D : ∀ {as3 H3 H' acc cs'}, Le as2 H1 as3 H3 → OkC K as3 H3 H' cs' → cs' j = some (.dic acc) → ∃ vs, H' D = some (.dK vs) ∧ RpK K as3 H3 vs acc := by
    intro as3 H3 H' acc cs' l o e
    obtain ⟨p, u, g1, g2, g3, g4⟩ := o.cel j _ e
    rw [l.am _ _ aj] at g1; cases g1
    cases g4 with
    | dic g5 => exact ⟨_, g3, g5⟩
  refine ⟨fun i m H' => m = ds.length - i ∧ i ≤ ds.length ∧ Pv i H', ⟨_, rfl, Nat.zero_le _, as2, H1, [], c1.cs, .refl, ok2.c, hj, by rw [List.drop_zero]; exact q1 j hj⟩, ?_⟩
  rintro i m H' ⟨rfl, hi, as3, H3, acc, cs', l3, oc3, hj3, go⟩
  by_cases hlt : i < ds.length
  · refine .inr ⟨it.go _ _ _ _ _ (l2.trans l3) oc3 hlt, Pv (i + 1), fun H4 z => ⟨ds.length - (i + 1), by omega, rfl, hlt, z⟩, fun x H4 y => ?_⟩
    obtain ⟨d, hd⟩ : ∃ d, ds[i]? = some d := ⟨_, List.getElem?_eq_getElem hlt⟩
    have hdr : ds.drop i = d :: ds.drop (i + 1) := by
      rw [List.drop_eq_getElem_cons hlt]
      rw [List.getElem?_eq_getElem hlt] at hd
      cases hd; rfl
    rw [hdr] at go
    obtain ⟨env', e1, go⟩ := go
    obtain ⟨H5, l5, oc5, r5⟩ := it.yld _ _ _ _ _ _ _ _ (l2.trans l3) oc3 hd y
    have oe : OkE K as3 H5 (L2.wipe σ g.vs) (wipeD c1.env g.vs) := okE_wipe (ok1.e.mono ((l2.trans l3).trans l5)) g.vs
    have tg : ∀ σ2, L2.wipe σ2 g.vs = L2.wipe σ g.vs → OkE K as3 H5 σ2 env' → L2.wipe σ2 g.vs = L2.wipe σ g.vs ∧ liftT K tt σ2 H4 fun b H6 => if b = true then lift K dk σ2 H6 fun y H7 => lift K dv σ2 H7 fun z H8 => ∃ kvs k, y = kV k ∧ H8 D = some (.dK kvs) ∧ kvs.length < sizeLine ∧ Pv (i + 1) (upd H8 D (.dK (putK kvs k z))) else Pv (i + 1) H6 := by
      intro σ2 w2 oe2
      refine ⟨w2, as3, H5, ⟨env', put cs' j (.dic acc)⟩, _, ⟨oc5, oe2⟩, go, fun as6 H6 Hn6 c6 b l6 ok6 q6 => ?_⟩
      cases b with
      | true =>
        rw [if_pos rfl]
        refine ⟨as6, H6, c6, _, ok6, q6, fun as7 H7 Hn7 c7 v7 d7 l7 ok7 r7 q7 => ⟨as7, H7, c7, _, ok7, q7, fun as8 H8 Hn8 c8 v8 d8 l8 ok8 r8 ⟨key, ek, e8, h8, q8⟩ => ?_⟩⟩
        have ll := (((l3.trans l5).trans l6).trans l7).trans l8
        obtain ⟨vs, f1, f2⟩ := at_D ll ok8.c e8
        refine ⟨vs, key, keyV_rp r7 ek, f1, by rw [f2.length]; exact h8, as8, H8, _, _, ll, ?_, del_self, q8⟩
        have t := ok8.c.turn e8 (ll.am _ _ aj) (.dic (f2.put (k := key) r8))
        have ep : put (del c8.cs j) j (.dic (putD acc key d8)) = put c8.cs j (.dic (putD acc key d8)) := by
          funext b; unfold put del; split <;> rfl
        rw [ep]; exact t
      | false =>
        rw [if_neg Bool.false_ne_true]
        exact ⟨as6, H6, acc, _, (l3.trans l5).trans l6, by rw [put_del q6.1]; exact ok6.c, del_self, q6.2⟩
    cases g with
    | one i' =>
      cases e1
      refine tg _ (wipe_set (by rw [List.length_set, wipe_length]) fun b hb => ?_) (oe.set i' r5)
      have hb' : b ≠ i' := by simpa [TgN.vs] using hb
      rw [List.getElem?_set_ne (Ne.symm hb'), wipe_get]
      simp [TgN.vs, hb']
    | tup is =>
      cases d with
      | tup es =>
        have e1' : (if es.length = is.length then some (setAll (wipeD c1.env is) is es) else none) = some env' := e1
        split at e1'
        · rename_i hl
          cases e1'
          cases r5 with
          | tup g1 g2 =>
            refine ⟨_, _, rfl, seqT_mono oc5.ex g1, by rw [g2.length]; exact hl, ?_⟩
            refine tg _ (wipe_set (by rw [setAll_length, wipe_length]) fun b hb => ?_) (okE_setAll oe g2)
            have hb' : b ∉ is := hb
            rw [setAll_get hb', wipe_get]
            simp [TgN.vs, hb']
        · cases e1'
      | _ => cases e1
  · have e : i = ds.length := by omega
    subst e
    rw [List.drop_length] at go
    obtain ⟨vs, f1, f2⟩ := at_D l3 oc3 put_same
    refine .inl ⟨it.stop _ _ _ _ (l2.trans l3) oc3, hq _ _ ⟨D, _, rfl, f1, True.intro, fun od => ?_⟩⟩
    obtain ⟨l4, oc4⟩ := oc3.freezeZ (u := .frz od (.dK vs)) put_same (l3.am _ _ aj)
    rw [del_put hj3] at oc4
    have l := (l2.trans l3).trans l4
    exact k _ _ _ { c1 with cs := cs' } _ _ (l1.trans l) ⟨oc4, ok1.e.mono l⟩ (.dic upd_same (f2.mono l4)) go
end
end DL

/-! repr of data in which empty dicts stand -/
namespace DL
open L2 PySem PySem.Spec PyProof.Rows
mutual
def pyE : D → PyData
  | .non => .none | .bl b => .bool b | .int i => .int i | .str s => .str s
  | .lst ds => .list (pyEA ds) | .slst ds => .list (pyEA ds) | .tup ds => .tuple (pyEA ds)
  | .dic _ => .dict [] | .ref _ => .none | .ty _ => .none | .cel _ => .none | .fn _ => .none | .dicB _ _ => .none
def pyEA : List D → List PyData
  | [] => []
  | d :: ds => pyE d :: pyEA ds
end
mutual
def smallE : D → Prop
  | .int i => -(2 ^ 200) < i ∧ i < 2 ^ 200
  | .str s => ∀ c ∈ s.cps.toList, c < 16 ^ 8
  | .lst ds => smallEA ds | .slst ds => smallEA ds | .tup ds => smallEA ds
  | .non => True | .bl _ => True | .dic ks => ks = [] | .ref _ => False | .ty _ => False | .cel _ => False | .fn _ => False | .dicB _ _ => False
def smallEA : List D → Prop
  | [] => True
  | d :: ds => smallE d ∧ smallEA ds
end
section
variable {K : PySem.W.Frag} {as : AsM} {H0 H : Hp}
end
/-- read, and each dict of it no table of modules: it shows -/
def ShE (prog : Program) (w : World) (h : Heap) (u : Value) (d : PyData) : Prop := (∃ as, Reads h u d as) ∧ ∃ bs, ReadAtMost h d.depth bs ∧ ReprK prog w bs h d.depth u d.shown
def ShEA (prog : Program) (w : World) (h : Heap) (us : List Value) (ds : List PyData) : Prop := (∃ as, ReadsAll h us ds as) ∧ ∃ bs, ReadAtMost h (PyData.depthAll ds) bs ∧ ReprAllK prog w bs h (PyData.depthAll ds) us (PyData.shownAll ds)
section
variable {X : Cx} {pins : List (Addr × Obj)} {σ : L2.St} {H : Hp} {s : Shared}
end
end DL

/-! == and != with an empty list or tuple; a list so many times; in a dict that changes no more -/
namespace DL
open L2 PySem PySem.Spec PyProof.Rows
section
variable {X : Cx} {K : PySem.W.Frag} {a b : Expr} {da db : DE} {pos : Pos}
/-- [..] * n -/
def dRepL : DF := fun x y c R => match x, y with
  | .lst xs, .int n => (-(2 ^ 63) ≤ n ∧ n < 2 ^ 63) ∧ xs.length * n.toNat ≤ sizeLine ∧ R (.lst (List.replicate n.toNat xs).flatten) c
  | _, _ => False
theorem rpa_rep {as : AsM} {H : Hp} {vs : List V} {ds : List D} (r : RpA K as H vs ds) : ∀ n : Nat, RpA K as H (List.replicate n vs).flatten (List.replicate n ds).flatten
  | 0 => .nil
  | n + 1 => by
    rw [List.replicate_succ, List.replicate_succ, List.flatten_cons, List.flatten_cons]
    exact r.append (rpa_rep r n)
theorem opD_rep : OpD K rRep dRepL := by
  intro as H0 H σ c v1 v2 d1 d2 R Q ok r1 r2 h k
  unfold dRepL at h
  split at h
  · cases r1 with
    | lst g1 g2 =>
      cases r2
      obtain ⟨h1, h2, h3⟩ := h
      refine ⟨_, _, _, rfl, rfl, ok.c.ex _ _ g1, h1.1, h1.2, by rw [g2.length]; exact h2, fun p hp => ?_⟩
      obtain ⟨l, ok'⟩ := new_known (o := .lst _) ok hp
      exact k _ _ _ _ _ _ l ok' (rp_lst l (rpa_rep g2 _)) h3
  · exact h.elim
theorem pd_rep (ha : PD X a da) (hb : PD X b db) : PD X (.BinOp a .Mult b pos) (dBin dRepL da db) := pd_bin op_rep opD_rep ha hb
/-- x in d, d a dict that changes no more -/
def dInFN (neg : Bool) : DF := fun x y c R => onDic y fun kvs => onKey x fun k => R (.bl (if neg then !(lookD kvs k).isSome else (lookD kvs k).isSome)) c
def dInF : DF := dInFN false
theorem opD_inF {neg : Bool} : OpD K (rInR neg) (dInFN neg) := by
  intro as H0 H σ c v1 v2 d1 d2 R Q ok r1 r2 q0 kk
  obtain ⟨kvs, h1, q0⟩ := onDic_of q0
  obtain ⟨k, h3, h4⟩ := onKey_of q0
  subst h1
  cases r2 with
  | dic g1 g2 =>
    refine ⟨_, _, k, rfl, key_rp r1 h3, .inr ⟨_, ok.c.ex _ _ g1⟩, ?_⟩
    rw [look_some g2]
    exact kk _ _ _ _ _ _ .refl ok (.bl _) h4
end
end DL

/-! max and min of a tuple of ints -/
namespace DL
open L2 PySem PySem.Spec PyProof.Rows
section
variable {X : Cx} {K : PySem.W.Frag}
end
end DL

/-! a dict comprehension as a value; a <= b <= c < d as a test -/
namespace L2
open PySem PySem.Spec PyProof.Rows
section
variable {X : Cx} {ta tb tc td : TE} {a b c d : Expr} {pos : Pos}
end
end L2
namespace DL
open L2 PySem PySem.Spec PyProof.Rows
section
variable {X : Cx} {da db dc dd : DE} {a b c d : Expr} {pos : Pos} {K : PySem.W.Frag}
theorem pd_dc {kx vx tg iter : Expr} {ifs : List Expr} {scope : Scope} {own : List (Str × Nat)} {di : DI} {g : TgN} {tt : DT} {dk dv : DE} (hc : X.calm = true) (hN : X.N.Nodup) (hi : PDI X tg iter di) (ok : BlkOk X.N X.env.scope scope own) (ho : own.map (·.2) = g.vs)
    (hg : ∀ (s : Shared) (H : Hp) (C : Addr) (cl : List (Str × Addr)) (fp : List Addr), PG (X.blk s H scope (compEnvC scope cl C X.env) fp) tg (tgLow X.K g))
    (ht : ∀ (s : Shared) (H : Hp) (C : Addr) (cl : List (Str × Addr)) (fp : List Addr), PTs (X.blk s H scope (compEnvC scope cl C X.env) fp) ifs (liftT X.K tt))
    (hk : ∀ (s : Shared) (H : Hp) (C : Addr) (cl : List (Str × Addr)) (fp : List Addr), PD (X.blk s H scope (compEnvC scope cl C X.env) fp) kx dk)
    (he : ∀ (s : Shared) (H : Hp) (C : Addr) (cl : List (Str × Addr)) (fp : List Addr), PD (X.blk s H scope (compEnvC scope cl C X.env) fp) vx dv) (hs : ∀ x, foldedSetIterable iter X.env x = pure x := by intro _; rfl) :
    PD X (.DictComp kx vx [⟨tg, iter, ifs, 0⟩] scope pos) (dDc di g tt dk dv) := by
  obtain ⟨wi, hw, low⟩ := hi.ex
  have h := pe_dc (tk := lift X.K dk) (tv := lift X.K dv) (pos := pos) hc hN hw ok hg ht hk he hs
  rw [ho] at h
  exact pe_imp (pe_frz h) fun σ H Q q => dc_low low σ H Q _ (fun v H1 z => z) q
end
end DL

/-! a, b, *rest = t -/
namespace L2
open PySem PySem.Spec PySem.Calls PyProof.Rows
section
variable {prog : Program} {w : World} {A : Around} {E : Value → Shared → Prop} {s : Shared}
theorem starT {l : Addr} {items : Array Value} {n : Nat} {Q : List Value → Shared → Prop} (hl : IsTup s.heap l items) (hh : A.handled = none) (hn : n ≤ items.size) (hz : items.size ≤ 16384)
    (h : ∀ D h' tk, (∀ b o, s.heap.get? b = some o → h'.get? b = some o) → s.heap.get? D = none → h'.get? D = some (seqObj "list" (items.toList.drop n).toArray 0) → Q (items.toList.take n ++ [.ref D]) { s with heap := h', toks := tk }) :
    wpAny (model prog w) A (unpackItems (.ref l) (n + 1) (some n)) Q E s := by
  have hlt : l ≠ s.heap.objs.size := by obtain ⟨o, ho, _⟩ := hl; exact Nat.ne_of_lt (Heap.lt_size ho)
  unfold unpackItems
  refine wpAny_bind ?_
  unfold notIterableAtAll
  refine wpAny_bind (wpAny_specialOf hl.typeIs slot_tuple_iter.lookup ?_)
  refine wpAny_pure ?_
  simp only [Bool.false_eq_true, if_false]
  refine wpAny_bind (wpAny_holding (iter_tuple hl ?_))
  refine wpAny_bind (wpAny_holding (draw_tuple hlt n 0 _ _ ⟨_, Heap.get?_push_size _ rfl, rfl, rfl⟩ (hl.push _) (by omega) fun h₁ hit₁ hs₁ => ?_))
  have hl₁ : IsTup h₁ l items := (hl.push _).extBut hs₁.extBut hlt
  rw [Nat.zero_add] at hit₁
  obtain ⟨oi, hoi, _⟩ := id hit₁
  obtain ⟨ol, hol, _⟩ := id hl₁
  rw [List.drop_zero]
  have hfl : (items.toList.take n).length = n := by rw [List.length_take, Array.length_toList]; omega
  rw [if_neg (show ¬ ((items.toList.take n).length < n) by rw [hfl]; omega)]
  refine wpAny_bind (wpAny_holding (PySem.W.kun_collect (s := { s with heap := h₁ }) (T := "tuple_iterator") (.inr (.inr (.inr rfl))) (Walks.tuple (A := A.in1) hh s.heap.objs.size l hlt items) (fun j u st => st.1.typeIs) (k := n) (by omega) ⟨hit₁, hl₁⟩ (Heap.lt_size hoi) (Heap.lt_size hol) (fun h₂ tk hk => ?_) (by rw [sizeLine_eq]; omega)))
  have hmid : (items.toList.drop n).length - (n + 1 - 1 - n) = (items.toList.drop n).length := by omega
  show wpAny _ _ (if (items.toList.drop n).length < n + 1 - 1 - n then _ else _) _ _ _
  rw [if_neg (by omega)]
  show wpAny _ _ (newList ((items.toList.drop n).take ((items.toList.drop n).length - (n + 1 - 1 - n))) >>= fun d => pure (items.toList.take n ++ [d] ++ (items.toList.drop n).drop ((items.toList.drop n).length - (n + 1 - 1 - n)))) _ _ _
  rw [hmid, List.take_length, List.drop_length]
  have he : ∀ b o, s.heap.get? b = some o → h₂.get? b = some o := fun b o e => hk b o (Nat.ne_of_lt (Heap.lt_size e)) (hs₁.extBut b o (Nat.ne_of_lt (Heap.lt_size e)) (Heap.get?_push_of_some _ e))
  refine wpAny_bind (wpAny_newList ?_ (by rw [List.length_drop, Array.length_toList, sizeLine_eq]; omega))
  refine wpAny_pure ?_
  rw [List.append_nil]
  refine h h₂.objs.size _ _ (fun b o e => Heap.get?_push_of_some _ (he b o e)) ?_ (Heap.get?_push_size _ rfl)
  cases q : s.heap.get? h₂.objs.size with
  | none => rfl
  | some o => exact absurd (Heap.lt_size (he _ _ q)) (Nat.lt_irrefl _)
end
section
variable {P : Program} {w : World} {H : Hp} {h : Heap} {a : Addr}
theorem there_of : ∀ {o : HO}, ObjOk P w H h a o → ∃ ob, h.get? a = some ob
  | .lst xs, x => by obtain ⟨_, _, _, _, e⟩ := x; exact ⟨_, e⟩
  | .tup xs, x => by obtain ⟨_, _, _, ob, e, _⟩ := x; exact ⟨ob, e⟩
  | .dK kvs, x => by obtain ⟨_, _, _, _, o, _, _, e, _⟩ := x; exact ⟨o, e⟩
  | .dT kvs, x => by obtain ⟨_, _, _, _, o, _, _, e, _⟩ := x; exact ⟨o, e⟩
  | .set S n, x => by obtain ⟨o, _, _, _, e, _⟩ := x; exact ⟨o, e⟩
  | .ins C dx fs, x => by obtain ⟨_, _, _, e, _⟩ := x; exact ⟨_, e⟩
  | .own _, x => x
  | .xd fs, x => by obtain ⟨mA, ⟨o, _, _, e, _⟩, _⟩ := x; exact ⟨o, e⟩
  | .rng lo hi, x => by obtain ⟨_, _, _, e⟩ := x; exact ⟨_, e⟩
  | .frz o u, x => ⟨o, x.1⟩
  | .tbl ps, x => ⟨_, x⟩
  | .met f y, x => ⟨_, x⟩
  | .ext φ, x => x.2.1
end
section
variable {X : Cx} {pos : Pos}
theorem pgs_star {t : Expr} {p : Pos} {u : TGs} (h : PGs X [t] u) (hs : (assignEach [Expr.Starred t p] X.env).map (·.2) = (assignEach [t] X.env).map (·.2) := by rfl) : PGs X [.Starred t p] u :=
  ⟨fun pins s σ H vs us Q I r q => by rw [hs]; exact h.run pins s σ H vs us Q I r q⟩
/-- n names ahead, the rest a new list -/
def gStar (K : PySem.W.Frag) (n : Nat) (t : TGs) : TG := fun v σ H Q => ∃ a xs, v = .ref a ∧ SqT K H a xs ∧ n ≤ xs.length ∧ xs.length ≤ 16384 ∧ ∀ D, H D = none → t (xs.take n ++ [.ref D]) σ (upd H D (.lst (xs.drop n))) Q
theorem pg_star {es : List Expr} {k : Nat} {t : TGs} {n : Nat} (hc : X.calm = true) (h : PGs X es t)
    (hn : (assignEach es X.env).length = n + 1 := by rfl) (hst : (assignEach es X.env).findIdx? (·.1) = some n := by rfl) : PG X (.Tuple es k pos) (gStar X.K n t) := by
  refine ⟨fun pins s σ H v u Q I r hw => ?_⟩
  obtain ⟨a, xs, e1, hq, hl, hz, hw⟩ := hw
  subst e1
  cases r
  obtain ⟨its, rv, ht, _⟩ := I.tuple hq
  have el := rv.length
  rw [assign_Tuple]
  refine wpAny_bind (wpAny_standAt ?_)
  unfold unpack
  rw [hn, hst]
  refine wpAny_bind (wpAny_holding (starT ht (I.ok.hd hc) (by rw [List.size_toArray, ← el]; exact hl) (by rw [List.size_toArray, ← el]; exact hz) fun D h' tk keep fresh hD => ?_))
  have fH : H D = none := by
    cases q : H D with
    | none => rfl
    | some o =>
      obtain ⟨ob, hb⟩ := there_of (I.hok D o q)
      rw [fresh] at hb; cases hb
  have short : (xs.drop n).length ≤ sizeLine := by rw [List.length_drop, sizeLine_eq]; omega
  have vals : Vals (xs.drop n) (its.drop n) := rv.drop n
  have I1 : Inv X pins σ (upd H D (.lst (xs.drop n))) { s with heap := h', toks := tk } := I.laidN keep fresh fH ⟨short, its.drop n, 0, vals, by rw [hD]⟩
  have e2 : its.toArray.toList = its := rfl
  refine h.run pins _ σ _ (xs.take n ++ [.ref D]) _ Q I1 ?_ (hw D fH)
  exact (rv.take n).append (.cons rfl .nil)
end
end L2
namespace DL
open L2 PySem PySem.Spec PyProof.Rows
section
variable {X : Cx} {pos : Pos}
theorem pdgs_star {t : Expr} {p : Pos} {gs : List DG} (h : PGs X [t] (liftGs X.K gs)) (hs : (assignEach [Expr.Starred t p] X.env).map (·.2) = (assignEach [t] X.env).map (·.2) := by rfl) : PGs X [.Starred t p] (liftGs X.K gs) := pgs_star h hs
def gStarD (n : Nat) (gs : List DG) : DG := fun d c R => ∃ ds, d = .tup ds ∧ (n ≤ ds.length ∧ ds.length ≤ 16384) ∧ gList gs (ds.take n ++ [.lst (ds.drop n)]) c R
theorem pdg_star {es : List Expr} {kk n : Nat} {gs : List DG} (hc : X.calm = true) (h : PGs X es (liftGs X.K gs)) (hn : (assignEach es X.env).length = n + 1 := by rfl) (hst : (assignEach es X.env).findIdx? (·.1) = some n := by rfl) : PDG X (.Tuple es kk pos) (gStarD n gs) :=
  pg_imp (pg_star hc h hn hst) fun v σ H Q ⟨as, H0, c, d, R, ok, r, ⟨ds, e, ⟨h1, h2⟩, q⟩, k⟩ => by
    subst e
    cases r with
    | tup g1 g2 =>
      refine ⟨_, _, rfl, seqT_mono ok.c.ex g1, by rw [g2.length]; exact h1, by rw [g2.length]; exact h2, fun D hD => ?_⟩
      obtain ⟨l', ok'⟩ := new_known (o := .lst _) ok hD
      exact ⟨as, _, c, _, R, ok', ((g2.take n).mono l').append (.cons (rp_lst l' (g2.drop n)) .nil), q, fun _ _ _ _ _ l2 ok2 q2 => k _ _ _ _ _ (l'.trans l2) ok2 q2⟩
end
end DL

/-! text.split(sep), sep.join(texts) -/
namespace DL
open L2 PySem PySem.Spec PyProof.Rows
section
variable {X : Cx} {o e : Expr} {do_ de : DE} {apos pos : Pos}
end
end DL

/-! raise of an own exception class over ValueError with its own __init__, that keeps fields -/
namespace DL
open L2 PySem PySem.Spec PyProof.Rows
/-- the i-th statement of a class's body -/
def clsKid (st : Stmt) (i : Nat) : Stmt := match st with | .ClassDef _ _ _ b _ _ _ _ _ _ _ => b.getD i (.Pass ⟨0, 0, 0, 0⟩) | _ => .Pass ⟨0, 0, 0, 0⟩
/-- what the base class G, own, without its own __init__, must be for G.__init__(self, ..) -/
structure ClsI (K : PySem.W.Frag) (G : Addr) : Prop where
  r : PySem.W.readsIn K G (.type "type") = true
  s : PySem.W.specialIn K (.ref G) "__getattribute__" = some (some (.builtin "type.__getattribute__"))
  f : PySem.W.findCls K (.ref G) (.type "type") "__init__" = some (.val (.builtin "ValueError.__init__"))
section
variable {X : Cx} {e : Expr} {es : List Expr} {ta : TA} {p1 p2 pos : Pos} {B : Str} {G : Addr}
theorem pe_gateinit (T : ClsI X.K G) (hg : Gl X B) (hm : X.mg B = some (.ref G)) (ha : PA X (e :: es) ta)
    (hdb : (B == ("__debug__" : Str)) = false := by decide)
    (hbase : attributeBase (.Name B p1) "__init__" X.env (eval (.Name B p1) X.env) = eval (.Name B p1) X.env := by rfl)
    (hfew : ((backTo pos (starEach (e :: es) X.env)).all (fun x => !x.1) && (backToKw pos (keywordEach [] X.env)).all (fun x => x.1.isSome)
      && decide ((e :: es).length + ([] : List Keyword).length + (if ([] : List Keyword).isEmpty then 0 else 1) < 30)) = true := by rfl)
    (hline : (p2.endLine == pos.line) = true := by rfl)
    (he : starEach (e :: es) X.env = (false, eval e X.env) :: starEach es X.env := by rfl) (hpl : (backTo pos (starEach es X.env)).any (·.1) = false := by rfl) :
    PE X (.Call (.Attribute (.Name B p1) "__init__" p2) (e :: es) [] pos) (tVeI X.K ta) := by
  refine ⟨fun pins s σ H Q I h => ?_⟩
  rw [arm_eval_Call, hbase]
  refine wpAny_bind (ld_glob I hg hm ?_ hdb)
  refine wpAny_bind (wpAny_standAt ?_)
  have hform : methodCallForm ((e :: es).length + ([] : List Keyword).length) (backTo pos (starEach (e :: es) X.env)) (backToKw pos (keywordEach [] X.env)) = true := hfew
  have hpos : methodCallPos true (.Name B p1) X.env p2 pos = pure pos := by unfold methodCallPos; simp [hline]
  unfold methodCall
  rw [hform]
  refine wpAny_bind (wpAny_holding (PySem.W.method_cls I.kIn T.s (PySem.W.cls_value I.kIn T.r T.f (by decide +kernel) ?_)))
  refine wpAny_bind (wpAny_of_eq hpos ?_)
  show wpAny _ _ (callWith pos (Value.builtin "ValueError.__init__") [] (backTo pos (starEach (e :: es) X.env)) []) _ _ _
  refine PyProof.Rows.callWith_method1 (thn (ha.run pos pins _ σ H _ (I.tok _) h) fun us s1 ⟨vs, H1, I1, r1, a, C, ws, ev, hl, T, ea, q⟩ => ?_) he hpl
  subst ev
  cases r1 with
  | @cons _ u0 _ ur ra rw' =>
    obtain rfl : u0 = Value.ref a := ra
    have hlen : ur.length ≤ sizeLine := by
      rw [← Paired.length rw', sizeLine_eq]
      omega
    exact oinit_ok T I1 ea hlen fun s' J => ⟨.non, H1, J, rfl, q⟩
end
/-! ### what such an __init__ does -/
def spI (C : Addr) (fs : List Str) : Sp := fun vs H Q _ => ∃ (a : Addr) (ys : List V), vs = .ref a :: ys ∧ ys.length = fs.length ∧ H a = some (exo a C none) ∧
  ∀ dx, H dx = none → dx ≠ a → Q .non (upd (upd H dx (exd dx (fs.zip ys).reverse)) a (exo a C (some dx)))
section
variable {P : Program} {w : World} {K : PySem.W.Frag} {mg : Str → Option Value} {base : Heap} {qual B m f1 f2 : Str} {params : Arguments} {body : List Stmt} {scope : Scope} {f C G : Addr} {fd : FuncData} {j : Nat} {p1 p2 p3 p4 p5 p6 p7 p8 p9 p10 q7 q8 q9 q10 : Pos}
theorem init1 (F : FunD K "__init__" qual params body scope [] [] f fd) (S : FnScope ["self", f1] ["self", f1] scope)
    (hbd : body = [.Expr (.Call (.Attribute (.Name B p1) "__init__" p2) [.Name "self" p3, .Constant (.str m) j p4] [] p5) p6, .Assign [.Attribute (.Name "self" p7) f1 p8] (.Name f1 p9) p10])
    (hG : scope.names.lookup B = some .globalImplicit) (hS : scope.names.lookup ("self" : Str) = some NameKind.local) (h1 : scope.names.lookup f1 = some .local)
    (hB : (B == ("__debug__" : Str)) = false) (hd1 : (f1 == ("__debug__" : Str)) = false) (hc1 : (f1 == ("__classdict__" : Str)) = false)
    (hl : (p2.endLine == p5.line) = true) (hm : mg B = some (.ref G)) (T : ClsI K G) (TO : OexC K C) (n1 : PySem.W.findIn K (.ref C) f1 = some none) : FnOk P w K mg base CX0 1 f fd ["self", f1] (spI C [f1]) := by
  obtain ⟨oc, od, dV, kV, doc, pm, an, cdv, ct, osl, rfl, lk, hcd, _, _⟩ := F.ex
  subst hbd
  refine fn_of lk hcd S (fun vs H Q E ⟨a, ys, e, l, _⟩ => by rw [e]; simp [l]) fun A outer s H vs Q E hr ⟨a, ys, ev, l, ha, q⟩ => ?_
  match ys, l with
  | [y], _ =>
  subst ev
  refine ⟨_, pss_cons (ps_expr (pe_gateinit T (show Gl _ _ from hG) hm (pa_cons (pe_var (i := 0) rfl (.inl hS) (by decide) (by decide)) (pa_cons pe_str pa_nil)) hB (hline := hl))) (pss_one (ps_ost (pe_var (i := 0) rfl (.inl hS) (by decide) (by decide)) (pe_var (i := 1) rfl (.inl h1) hd1 hc1))), ?_⟩
  refine ⟨_, rfl, a, C, [.str m], rfl, by show 1 ≤ 1000; decide, TO, ha, ?_⟩
  refine ⟨_, rfl, _, rfl, a, C, rfl, TO, n1, .inl ⟨ha, fun dx hdx hne => ?_⟩⟩
  exact q dx hdx hne
end
/-! ### raise C(e, ..) -/
/-- what the text's own exception class C, with its own __init__ that keeps the fields fs, must be -/
structure ExF (P : Program) (w : World) (K : PySem.W.Frag) (mg : Str → Option Value) (base : Heap) (x : Str) (C : Addr) (fs : List Str) : Prop where
  T : OexC K C
  g : mg x = some (.ref C)
  ex : ∃ (fI : Addr) (fd : FuncData), PySem.W.findIn K (.ref C) "__init__" = some (some (.ref fI)) ∧ PySem.W.typeIn K (.ref fI) = some (.type "function") ∧ FnOk P w K mg base CX0 1 fI fd ("self" :: fs) (spI C fs) ∧ Binds K fd ("self" :: fs) []
def sRaiseF (x : Str) (fs : List Str) (da : DA) : DS := fun DD c => da c fun ds c1 => ds.length = fs.length ∧ ds.length ≤ 1000 ∧ DD.xx ⟨x, some (fs.zip ds).reverse⟩ c1
theorem upd_del {H : Hp} {a d : Addr} {o u u2 z : HO} (ha : H a = none) (hne : d ≠ a) : upd (L2.del (upd (upd (upd H a u2) d o) a u) a) d z = upd H d z := by
  funext b
  by_cases h1 : b = d
  · subst h1; rw [upd_same, upd_same]
  · rw [upd_ne h1, upd_ne h1]
    by_cases h2 : b = a
    · subst h2; rw [L2.del_same]; exact ha.symm
    · rw [L2.del_ne h2, upd_ne h2, upd_ne h1, upd_ne h2]
theorem paired_zip {K : PySem.W.Frag} {as : AsM} {H : Hp} : ∀ {fs : List Str} {vs : List V} {ds : List D}, RpA K as H vs ds → Paired (fun (p : Str × V) (q : Str × D) => p.1 = q.1 ∧ Rp K as H p.2 q.2) (fs.zip vs) (fs.zip ds)
  | [], _, _, _ => by simp only [List.zip_nil_left]; exact .nil
  | f :: fs, [], [], _ => .nil
  | f :: fs, _, d :: ds, h => by cases h with | cons h1 h2 => exact .cons ⟨rfl, h1⟩ (paired_zip h2)
  | f :: fs, _, [], h => by cases h; exact .nil
theorem paired_app {α β : Type} {R : α → β → Prop} : ∀ {a a' : List α} {b b' : List β}, Paired R a b → Paired R a' b' → Paired R (a ++ a') (b ++ b')
  | _, _, _, _, .nil, h => h
  | _, _, _, _, .cons h1 h2, h => .cons h1 (paired_app h2 h)
theorem paired_rev {α β : Type} {R : α → β → Prop} : ∀ {a : List α} {b : List β}, Paired R a b → Paired R a.reverse b.reverse
  | _, _, .nil => .nil
  | _, _, .cons h1 h2 => by rw [List.reverse_cons, List.reverse_cons]; exact paired_app (paired_rev h2) (.cons h1 .nil)
section
variable {X : Cx} {x : Str} {C : Addr} {fs : List Str} {p cp pos : Pos} {e : Expr} {es : List Expr} {da : DA} {n : Nat}
theorem pds_raiseF (hc : X.calm = true) (T : ExF X.prog X.w X.K X.mg X.base x C fs) (hr : Room 2 X.A) (hg : Gl X x) (ha : PDA X (e :: es) da) (hdb : (x == ("__debug__" : Str)) = false := by decide)
    (he : starEach (e :: es) X.env = (false, eval e X.env) :: starEach es X.env := by rfl) (hpl : (backTo cp (starEach es X.env)).any (·.1) = false := by rfl) :
    PDS X (.Raise (some (.Call (.Name x p) (e :: es) [] cp)) none pos) (sRaiseF x fs da) := by
  intro W tk
  obtain ⟨fI, fd, iC, tI, F1, hb⟩ := T.ex
  refine ps_imp (ps_raise hc tk (pmk_oex (dvs := []) (ds := []) T.T iC tI F1 hr hb .nil pass0 hg T.g ha hdb he hpl)) fun Dn σ H ⟨as, H0, c, DD, ok, q, k⟩ => ⟨as, H0, c, _, ok, q, fun as1 H1 Hn1 c1 vs ds l1 ok1 r1 ⟨z1, z2, q1⟩ => ?_⟩
  refine ⟨by rw [r1.length]; exact z2, fun a ha1 => ⟨a, vs, by rw [List.append_nil], by rw [r1.length]; exact z1, upd_same, fun dx hdx hne => ⟨rfl, dx, _, upd_same, by rw [upd_ne hne, upd_same], ?_, ?_⟩⟩⟩
  · rw [upd_ne hne] at hdx; exact hdx
  · rw [upd_ne hne] at hdx
    rw [upd_del ha1 hne]
    obtain ⟨l, ok2⟩ := new_known (o := .xd (fs.zip vs).reverse) ok1 hdx
    exact k.xx _ _ _ _ _ _ _ _ (l1.trans l) ok2 (.fs upd_same (paired_rev (paired_zip (r1.mono l)))) T.g q1
end
end DL

/-! sets of texts: set.add, a set comprehension of texts, sorted of it -/
namespace DL
open L2 PySem PySem.Spec PyProof.Rows PpSet
section
variable {X : Cx}
end
/-! #### by data -/
section
variable {K : PySem.W.Frag} {X : Cx}
end
end DL

/-! a kept exception's field; isinstance of a kept one and a tuple of classes; d.get(x), d a dict of the module of whole numbers -/
namespace DL
open L2 PySem PySem.Spec PyProof.Rows
section
variable {X : Cx}
/-! ### the field of a kept exception -/
def dXF (okx : Str → Bool) (f : Str) (da : DE) : DE := fun c R => da c fun d c1 => onCel d fun k => ∃ x fs v, c1.cs k = some (.exc x) ∧ okx x.cls = true ∧ x.fs = some fs ∧ fs.lookup f = some v ∧ R v c1
theorem paired_lookup {K : PySem.W.Frag} {as : AsM} {H : Hp} {f : Str} : ∀ {vs : List (Str × V)} {ds : List (Str × D)} {d : D}, Paired (fun (p : Str × V) (q : Str × D) => p.1 = q.1 ∧ Rp K as H p.2 q.2) vs ds → ds.lookup f = some d → ∃ v, vs.lookup f = some v ∧ Rp K as H v d
  | _, _, _, .nil, h => by cases h
  | _, _, d, .cons (a := p) (b := q) h1 h2, h => by
    obtain ⟨p1, p2⟩ := p
    obtain ⟨q1, q2⟩ := q
    obtain ⟨e, r⟩ := h1
    dsimp only at e
    subst e
    rw [lookup_put]
    have h' : ((p1, q2) :: _).lookup f = some d := h
    by_cases z : f = p1
    · rw [if_pos z]
      subst z
      simp [List.lookup] at h'
      subst h'
      exact ⟨_, rfl, r⟩
    · rw [if_neg z]
      have e : (f == p1) = false := by simpa using z
      simp [List.lookup, e] at h'
      exact paired_lookup h2 h'
variable {e : Expr} {da : DE} {pos p : Pos} {f : Str} {okx : Str → Bool}
theorem pd_xF (ha : PD X e da) (h : ∀ r C, okx r = true → ClsK X.K r C → XfC X.K C ∧ PySem.W.findIn X.K (.ref C) f = some none) (hb : attributeBase e f X.env (eval e X.env) = eval e X.env := by rfl) : PD X (.Attribute e f pos) (dXF okx f da) := by
  refine ⟨fun pins s σ H Q I ⟨as, H0, c, R, ok, q, k⟩ => ?_⟩
  refine attr_of hb (thn (ha.run pins s σ H _ I ⟨as, H0, c, _, ok, q, fun as1 H1 Hn1 c1 v d l1 ok1 r1 q1 => (⟨as1, H1, c1, d, l1, ok1, r1, q1⟩ : ∃ as1 H1 c1 d, Le as H0 as1 H1 ∧ Ok X.K as1 H1 Hn1 σ c1 ∧ Rp X.K as1 H1 v d ∧ onCel d fun k => ∃ x fs v, c1.cs k = some (.exc x) ∧ okx x.cls = true ∧ x.fs = some fs ∧ fs.lookup f = some v ∧ R v c1)⟩) fun u s1 hh => ?_)
  obtain ⟨v, Hn1, I1, rx, as1, H1, c1, d, l1, ok1, r1, q1⟩ := hh
  obtain ⟨j, e1, x, fs, vd, e3, e4, e5, e6, q2⟩ := onCel_of q1
  subst e1
  obtain ⟨a, C, dd, rfl, ap, hH, xd, cl⟩ := cell_exc ok1.c r1 e3
  obtain ⟨T, hno⟩ := h _ _ e4 cl
  cases xd with
  | no => cases e5
  | @fs C' dx vs ds g1 g2 =>
    cases e5
    obtain ⟨vv, g3, g4⟩ := paired_lookup g2 e6
    obtain rfl : u = Value.ref a := rx
    obtain ⟨⟨oe, ho, hz, fvs, hv⟩, _⟩ := I1.hok a _ hH
    obtain ⟨mA, hns, hr⟩ := (show ObjOk X.prog X.w Hn1 s1.heap dx (.xd vs) from I1.hok dx _ (ok1.c.ex _ _ g1))
    obtain ⟨od, hod, hl⟩ := lookIn_ns hns
    obtain ⟨u, hu, ru⟩ := RelO.some_of (v := vv) (o := mA f) (by rw [← g3]; exact hr f)
    have J : PySem.W.InstAt s1.heap a oe C (some od) := ⟨ho, hz.1, by unfold PySem.W.notCls; rw [hv] <;> rfl, by rw [hz.2]; exact hod⟩
    exact HandSPX.exc_get I1.kIn J T.ga T.gg T.exC (PySem.W.findObj_own T.hdC hno rfl (by rw [hl, hu])) (handed_of ru) ⟨vv, Hn1, I1.tok _, ru, k _ _ _ _ _ _ l1 ok1 g4 q2⟩
/-! ### isinstance(x, (A, B, ..)), x kept -/
structure ClsNs (X : Cx) (es : List Expr) (us : List Value) : Prop where
  ex : ∃ vs, PA X es (fun σ H Q => Q vs H) ∧ Paired ClsV vs us ∧ vs.length = es.length
theorem clsNs_nil : ClsNs X [] [] := ⟨[], pa_imp pa_nil fun _ _ _ h => h, .nil, rfl⟩
theorem clsNs_cons {e : Expr} {es : List Expr} {u : Value} {us : List Value} (h : ClsN X e u) (r : ClsNs X es us) (hs : starEach (e :: es) X.env = (false, eval e X.env) :: starEach es X.env := by rfl) : ClsNs X (e :: es) (u :: us) := by
  obtain ⟨v, hp, hc⟩ := h.ex
  obtain ⟨vs, hps, hcs, hl⟩ := r.ex
  exact ⟨v :: vs, pa_imp (pa_cons hp hps hs) fun _ _ _ h => h, .cons hc hcs, by rw [List.length_cons, List.length_cons, hl]⟩
def rIsXn (K : PySem.W.Frag) : List V → Hp → VK → Prop := fun xs H Q => ∃ (a C tp : Addr) (vs : List V) (us : List Value) (b : Bool), xs = [.ref a, .ref tp] ∧ H tp = some (.tup vs) ∧ Paired ClsV vs us ∧ ExAt K H a C ∧ ExcC K C ∧ PySem.W.kitAny K (.ref C) us = some b ∧ Q (.bl b) H
theorem call_isXn : CallR X (.builtin "isinstance") (rIsXn X.K) := by
  intro pins s σ H xs us Q I r ⟨a, C, tp, vs, us', b, e0, hT, k, ⟨d, ha, hd⟩, EC, kt, q⟩
  subst e0
  obtain ⟨wa, wb, rfl, ra, rb⟩ := vals2 r
  cases (show wa = Value.ref a from ra)
  cases (show wb = Value.ref tp from rb)
  obtain ⟨_, its, rv, o, h1, h2, n, h3⟩ := (show ObjOk X.prog X.w H s.heap tp (.tup vs) from I.hok tp _ hT)
  have e3 := ClsV.all k rv
  subst e3
  obtain ⟨oc, od, odt, osl⟩ := o
  dsimp only at h2 h3
  subst h2 h3
  obtain ⟨oe, od', J⟩ := inst_exH I.hok ha hd
  have hcl : (PySem.W.clsIn X.K C).isSome = true := by obtain ⟨cd, hc, _⟩ := PySem.W.any_some EC.hd; rw [hc]; rfl
  exact PySem.W.kia_tup (PySem.W.kitx_exc hcl EC.hg EC.hk EC.hs EC.ha EC.hn EC.ht EC.hm) I.kIn J h1 kt (fun z => nomatch z) fun tk => ⟨.bl b, H, I.kept (t' := tk) fun _ _ z => z, rfl, q⟩
variable {ob : Str → Option Bool} {es : List Expr} {cvs : List Value}
theorem pd_isXn {tk : Nat} {tpos : Pos} (hI : Gl X "isinstance") (hIm : X.mg "isinstance" = none) (ha : PD X e da) (hc : ClsNs X es cvs) (h : ∀ r b C, ob r = some b → ClsK X.K r C → ExcC X.K C ∧ PySem.W.kitAny X.K (.ref C) cvs = some b) (few : es.length ≤ 64 := by decide)
    (he0 : starEach [e, .Tuple es tk tpos] X.env = (false, eval e X.env) :: starEach [.Tuple es tk tpos] X.env := by rfl) (he1 : starEach [.Tuple es tk tpos] X.env = [(false, eval (.Tuple es tk tpos) X.env)] := by rfl) :
    PD X (.Call (.Name "isinstance" p) [e, .Tuple es tk tpos] [] pos) (dIsX ob da) := by
  obtain ⟨vs, hps, hcs, hl⟩ := hc.ex
  have pe := pe_callB (pos := pos) (p := p) (call_isXn (X := X)) hI hIm (by decide +kernel) (pa_cons ha (pa_cons (pe_tup hps) pa_nil he1) he0) (he := he0) (hpl := by
    show ((backTo pos (starEach [.Tuple es tk tpos] X.env)).any (·.1)) = false
    rw [he1]; rfl)
  refine pe_imp pe fun σ H Q ⟨as, H0, c, R, ok, q, k⟩ => ⟨as, H0, c, _, ok, q, fun as1 H1 Hn1 c1 u d l1 ok1 r1 q0 => ?_⟩
  obtain ⟨j, e1, x, b, e3, e4, q1⟩ := onCel_of q0
  subst e1
  refine ⟨by rw [hl, sizeLine_eq]; omega, fun tp htp => ?_⟩
  obtain ⟨l2, ok2⟩ := new_known (o := .tup vs) ok1 htp
  obtain ⟨a, C, dd, rfl, ap, hH, xd, cl⟩ := cell_exc ok2.c (r1.mono l2) e3
  obtain ⟨EC, kt⟩ := h _ _ _ e4 cl
  exact ⟨a, C, tp, vs, cvs, b, rfl, upd_same, hcs, exAt_of ok2.c.ex hH xd, EC, kt, k _ _ _ _ _ _ (l1.trans l2) ok2 (.bl b) q1⟩
/-! ### d.get(x), d a dict of the module, texts to whole numbers -/
end
end DL

/-! zip of a list and a tuple, walked -/
namespace DL
open L2 PySem PySem.Spec PyProof.Rows
section
variable {prog : Program} {w : World} {A : Around} {E : Value → Shared → Prop} {s : Shared}
end
end DL

/-! a text, walked sign by sign; texts compared -/
namespace DL
open L2 PySem PySem.Spec PyProof.Rows
end DL

/-! isinstance(x, list), x a list that may change -/
namespace DL
open L2 PySem PySem.Spec PyProof.Rows
end DL

/-! f-strings; s.startswith(t); c in "..", c a sign; int(text); defs as data: tables of them, calls by a local name -/
namespace DL
open L2 PySem PySem.Spec PyProof.Rows
section
variable {X : Cx} {K : PySem.W.Frag}
/-! ### f-strings -/
/-! ### s.startswith(t) -/
/-! ### a sign in a text -/
/-! ### int(text) -/
/-! ### defs as data -/
end
end DL

/-! a comprehension whose list may change later; enumerate of a list that may change, but not in the meanwhile -/
namespace DL
open L2 PySem PyProof.Rows
section
variable {X : Cx} {K : PySem.W.Frag} {tg : Expr} {pos : Pos}
def dLcC (di : DI) (g : TgN) (tt : DT) (de : DE) : DE := fun c R => di c fun ds c1 => ∀ k, c1.cs k = none → lcGo k g tt de (wipeD c1.env g.vs) ds [] c1.cs fun acc cs' => R (.cel k) { c1 with cs := put cs' k (.lst acc) }
/-! ### for .. in enumerate(a list that may change) -/
variable {dr : DA}
end
end DL

/-! repr of a list that may change -/
namespace DL
open L2 PySem PyProof.Rows
end DL

/-! a, b, *rest = a list -/
namespace L2
open PySem PySem.Spec PySem.Calls PyProof.Rows
section
variable {prog : Program} {w : World} {A : Around} {E : Value → Shared → Prop} {s : Shared}
end
section
variable {X : Cx} {pos : Pos}
end
end L2
namespace DL
open L2 PySem PySem.Spec PyProof.Rows
section
variable {X : Cx} {pos : Pos}
end
end DL

/-! zip of a tuple and a list, walked -/
namespace DL
open L2 PySem PySem.Spec PyProof.Rows
section
variable {prog : Program} {w : World} {A : Around} {E : Value → Shared → Prop} {s : Shared}
end
end DL

/-! a tuple of whole numbers, a constant of the module -/
namespace DL
open L2 PySem PyProof.Rows
section
variable {X : Cx} {x : Str} {pos : Pos}
end
end DL

/-! x in t, t a tuple of data of any depth -/
namespace DL
open L2 PySem PyProof.Rows
section
variable {K : PySem.W.Frag}
end
end DL

/-! a list within a list that changes no more -/
namespace DL
open L2 PySem PyProof.Rows
section
variable {K : PySem.W.Frag} {as : AsM} {H : Hp}
end
end DL

/-! (..) * n -/
namespace DL
open L2 PySem PyProof.Rows
section
variable {X : Cx} {K : PySem.W.Frag} {a b : Expr} {da db : DE} {pos : Pos}
def dRepT : DF := fun x y c R => match x, y with
  | .tup xs, .int n => xs ≠ [] ∧ 2 ≤ n ∧ n ≤ 1000 ∧ xs.length ≤ 1000 ∧ R (.tup (List.replicate n.toNat xs).flatten) c
  | _, _ => False
theorem opD_repT : OpD K (rRepT K) dRepT := by
  intro as H0 H σ c v1 v2 d1 d2 R Q ok r1 r2 h k
  unfold dRepT at h
  split at h
  · cases r1 with
    | tup g1 g2 =>
      cases r2
      obtain ⟨h1, h2, h3, h4, h5⟩ := h
      refine ⟨_, _, _, rfl, rfl, seqT_mono ok.c.ex g1, (fun z => h1 (by
        have := g2.length
        rw [z] at this
        exact List.eq_nil_of_length_eq_zero this.symm)), h2, h3, by rw [g2.length]; exact h4, fun p hp => ?_⟩
      obtain ⟨l, ok'⟩ := new_known (o := .tup _) ok hp
      exact k _ _ _ _ _ _ l ok' (rp_tup l (rpa_rep g2 _)) h5
  · exact h.elim
end
end DL

/-! an own class over KeyError: its making (LookupError's new), its own __init__ -/
namespace DL
open L2 PySem PySem.Calls PyProof.Rows
section
variable {M : Model} {A : Around} {E : Value → Shared → Prop} {hp : Heap} {gs : Array GenState} {dr : Drawn} {tk : Nat} {os : OsState}
variable {cn qn : Str} {C ns : Addr} {bs bm : List Value} {hd : Bool} {sn : List Str} {sub : List Value} {ab : Bool} {col : Option Bool} {dd : Option Addr} {k0 k1 k2 k3 k5 : Option Value}
end
section
variable {prog : Program} {w : World} {A : Around} {E : Value → Shared → Prop} {R : Result → Shared → Prop} {hp : Heap} {gs : Array GenState} {dr : Drawn} {tk : Nat} {os : OsState}
variable {cn qn : Str} {C ns : Addr} {bs bm : List Value} {hd : Bool} {sn : List Str} {sub : List Value} {ab : Bool} {col : Option Bool} {dd : Option Addr} {k0 k1 k2 k3 k5 : Option Value}
end
end DL

/-! an own class over KeyError: its first field -/
namespace DL
open L2 PySem PySem.Calls PyProof.Rows
section
open Builtin Builtin.ObjectAttr
variable {prog : Program} {w : World} {A : Around} {R : Result → Shared → Prop} {hp : Heap} {gs : Array GenState} {dr : Drawn} {tc : Nat} {os : OsState}
end
end DL

/-! raise of an own class over KeyError, with its own __init__ that keeps a field -/
namespace DL
open L2 PySem PySem.Spec PyProof.Rows
section
variable {X : Cx} {pins : List (Addr × Obj)} {σ : L2.St} {H : Hp} {s : Shared} {a C : Addr} {f : Str} {y : V} {u : Value} {Q : Unit → Shared → Prop} {E : Value → Shared → Prop} {A : Around}
end
/-! ### readings and rules -/
section
variable {X : Cx} {o e : Expr} {es : List Expr} {to te : TE} {ta : TA} {f : Str} {p p' p1 p2 pos : Pos}
end
end DL

/-! raise of such a class, as data -/
namespace DL
open L2 PySem PySem.Spec PyProof.Rows
section
variable {X : Cx} {e : Expr} {es : List Expr} {ta : TA} {p1 p2 pos : Pos}
end
section
variable {P : Program} {w : World} {K : PySem.W.Frag} {mg : Str → Option Value} {base : Heap} {qual m f1 : Str} {params : Arguments} {body : List Stmt} {scope : Scope} {f C : Addr} {fd : FuncData} {j : Nat} {p1 p2 p3 p4 p5 p6 p7 p8 p9 p10 : Pos}
end
section
variable {X : Cx} {x : Str} {C : Addr} {fs : List Str} {p cp pos : Pos} {e : Expr} {es : List Expr} {da : DA} {n : Nat}
end
end DL

/-! dict(list of pairs) -/
namespace DL
open L2 PySem PyProof.Rows
def kD : Key → D | .inl i => .int i | .inr s => .str s
theorem keyD_kD {k : Key} : keyD (kD k) = some k := by cases k <;> rfl
def pairD (p : Key × D) : D := .tup [kD p.1, p.2]
def fDictP : DFn := fun ds c R => ∃ d, ∃ ps : List (Key × D), ds = [d] ∧ listD d = some (ps.map pairD) ∧ R (.dic (mergeD [] ps)) c
section
variable {K : PySem.W.Frag} {X : Cx}
theorem pairs_rp {as : AsM} {H : Hp} : ∀ {ps : List (Key × D)} {us : List V}, RpA K as H us (ps.map pairD) → ∃ (as' : List Addr) (kvs : List (Key × V)), us = as'.map V.ref ∧ RpK K as H kvs ps ∧ Paired (fun p kv => SqT K H p [kV kv.1, kv.2]) as' kvs
  | [], us, h => by cases h; exact ⟨[], [], rfl, .nil, .nil⟩
  | p :: ps, us, h => by
    rw [List.map_cons] at h
    cases h with
    | cons h1 h2 =>
      obtain ⟨as', kvs, e, r, q⟩ := pairs_rp h2
      subst e
      have h1' : Rp K as H _ (.tup [kD p.1, p.2]) := h1
      cases h1' with
      | tup sq r2 =>
        cases r2 with
        | cons a1 a2 =>
          cases a2 with
          | cons b1 b2 =>
            cases b2
            have e1 := key_rp a1 keyD_kD
            subst e1
            exact ⟨_ :: as', (p.1, _) :: kvs, rfl, .cons b1 r, .cons sq q⟩
def rDictP (K : PySem.W.Frag) : List V → Hp → VK → Prop := fun xs H Q => ∃ (a : Addr) (ps : List Addr) (kvs : List (Key × V)), xs = [.ref a] ∧ SqL K H a (ps.map V.ref) ∧ Paired (fun p kv => SqT K H p [kV kv.1, kv.2]) ps kvs ∧
  ∀ p, H p = none → ∀ od, Q (.ref p) (upd H p (.frz od (.dK (mergeK [] kvs))))
theorem sqt_pairs {H H' : Hp} (l : ∀ a o, H a = some o → H' a = some o) : ∀ {as' : List Addr} {kvs : List (Key × V)}, Paired (fun p kv => SqT K H p [kV kv.1, kv.2]) as' kvs → Paired (fun p kv => SqT K H' p [kV kv.1, kv.2]) as' kvs
  | _, _, .nil => .nil
  | _, _, .cons h1 h2 => .cons (seqT_mono l h1) (sqt_pairs l h2)
theorem callD_dictP : CallD K (rDictP K) fDictP := by
  intro as H0 H σ c vs ds R Q ok r ⟨d, ps, e, h1, h2⟩ k
  subst e
  obtain ⟨v, rfl, r1⟩ := rpa1 r
  obtain ⟨a, us, rfl, g1, g2⟩ := listD_rp ok.c.ex r1 h1
  obtain ⟨as', kvs, e, r3, q3⟩ := pairs_rp g2
  subst e
  refine ⟨a, as', kvs, rfl, g1, sqt_pairs ok.c.ex q3, fun p hp od => ?_⟩
  obtain ⟨l, ok2⟩ := new_known (o := .frz od (.dK (mergeK [] kvs))) ok hp
  exact k _ _ _ _ _ _ l ok2 (.dic upd_same ((r3.merge .nil).mono l)) h2
theorem callR_frz {f : Value} {r : List V → Hp → VK → Prop} (h : CallR X f r) : CallR X f (fun xs H Q => r xs H fun v H1 => ∃ d u, v = .ref d ∧ H1 d = some u ∧ Mut (some u) ∧ ∀ od, Q v (upd H1 d (.frz od u))) := by
  intro pins s σ H xs us Q I rv q
  refine thn (h pins s σ H xs us _ I rv q) fun v s1 ⟨x, H1, I1, r1, d, u, ev, hd, mu, q1⟩ => ?_
  obtain ⟨od, I2⟩ := I1.lock hd mu
  exact ⟨x, _, I2, r1, q1 od⟩
theorem cr_dictP (hc : X.calm = true) : CallR X (.type "dict") (rDictP X.K) := by
  intro pins s σ H xs us Q I rv ⟨a, ps, kvs, e, h1, h2, h3⟩
  exact callR_frz (call_dictP hc) pins s σ H xs us Q I rv ⟨a, ps, kvs, e, h1, h2, fun p hp => ⟨p, _, rfl, upd_same, True.intro, fun od => by rw [upd_upd]; exact h3 p hp od⟩⟩
end
end DL

/-! target = f(..), f raising -/
namespace DL
open L2 PySem PyProof.Rows
end DL

/-! list(..) as a list that changes -/
namespace DL
open L2 PySem PyProof.Rows
def partsD : D → Option (List D) | .lst xs => some xs | .slst xs => some xs | .tup xs => some xs | _ => none
def fLstOfC : DFn := fun ds c R => ∃ d xs, ds = [d] ∧ partsD d = some xs ∧ ∀ k, c.cs k = none → R (.cel k) { c with cs := put c.cs k (.lst xs) }
theorem callD_lstOfC {K : PySem.W.Frag} : CallD K (fun xs H Q => ∃ p ys, xs = [V.ref p] ∧ (SqL K H p ys ∨ SqT K H p ys) ∧ ∀ l, H l = none → Q (.ref l) (upd H l (.lst ys))) fLstOfC := by
  intro as H0 H σ c vs ds R Q ok r ⟨d, xs, e, h1, h2⟩ k
  subst e
  obtain ⟨v, rfl, r1⟩ := rpa1 r
  have fin : ∀ ys, RpA K as H0 ys xs → ∀ l, H l = none → Q (.ref l) (upd H l (.lst ys)) := fun ys ry l hl => by
    obtain ⟨j, as', n, le, ok', rj⟩ := new_cell ok hl (.lst ry)
    exact k _ _ _ _ _ _ le ok' rj (h2 j n)
  cases r1 with
  | lst g1 g2 => cases h1; exact ⟨_, _, rfl, .inl (SqL.of (ok.c.ex _ _ g1)), fin _ g2⟩
  | slst g1 g2 => cases h1; exact ⟨_, _, rfl, .inl (seqL_mono ok.c.ex g1), fin _ g2⟩
  | tup g1 g2 => cases h1; exact ⟨_, _, rfl, .inr (seqT_mono ok.c.ex g1), fin _ g2⟩
  | _ => cases h1
end DL

/-! where a statement stands within another one -/
namespace DL
open L2 PySem PyProof.Rows
end DL

/-! sorted of a tuple of tuples whose heads are whole numbers, no two alike -/
namespace SrtH
open PySem PySem.Calls PyProof.Rows Srt SrtO
section
variable {pr : Program} {wd : World} {Ar : Around} {sh : Shared}
end
end SrtH
namespace DL
open L2 PySem PySem.Spec PyProof.Rows
/-- each item a tuple with such a head -/
inductive HdA (K : PySem.W.Frag) (H : Hp) : List V → List Int → Prop
  | nil : HdA K H [] []
  | cons {t : Addr} {m : Int} {rs vs : List V} {ms : List Int} : SqT K H t (.int m :: rs) → HdA K H vs ms → HdA K H (.ref t :: vs) (m :: ms)
section
variable {X : Cx} {K : PySem.W.Frag}
theorem HdA.len {H : Hp} {vs : List V} {ms : List Int} (h : HdA K H vs ms) : vs.length = ms.length := by
  induction h with
  | nil => rfl
  | cons _ _ ih => rw [List.length_cons, List.length_cons, ih]
end
end DL

/-! things of a class of the program's own, their fields -/
namespace DL
open L2 PySem PySem.Spec PyProof.Rows
section
variable {X : Cx} {K : PySem.W.Frag}
/-- the field is no name of the class -/
def FldK (K : PySem.W.Frag) (n f : Str) : Prop := ∀ C, ClsK K n C → Cls K C ∧ NoAttr K C f
theorem cell_ins {as : AsM} {H0 H : Hp} {σ : L2.St} {c : Z} {k : Nat} {n : Str} {ds : List (Str × D)} {v : V} (ok : Ok K as H0 H σ c) (r : Rp K as H0 v (.cel k)) (h : c.cs k = some (.ins n ds)) :
    ∃ p C dx vs, v = .ref p ∧ as k = some p ∧ H p = some (.ins C dx vs) ∧ ClsK K n C ∧ Paired (fun (p : Str × V) (q : Str × D) => p.1 = q.1 ∧ Rp K as H0 p.2 q.2) vs ds := by
  cases r with
  | cel h1 =>
    obtain ⟨p, u, h2, _, h4, h5⟩ := ok.c.cel k _ h
    rw [h1] at h2
    cases h2
    cases h5 with
    | ins hc hp => exact ⟨_, _, _, _, rfl, h1, h4, hc, hp⟩
theorem ins_lookup {as : AsM} {H0 : Hp} {f : Str} {d : D} : ∀ {vs : List (Str × V)} {ds : List (Str × D)}, Paired (fun (p : Str × V) (q : Str × D) => p.1 = q.1 ∧ Rp K as H0 p.2 q.2) vs ds → ds.lookup f = some d → ∃ v, vs.lookup f = some v ∧ Rp K as H0 v d
  | [], [], _, e => by cases e
  | (a, v) :: vs, (b, w) :: ds, h, e => by
    cases h with
    | cons h1 h2 =>
      obtain ⟨rfl, hr⟩ := h1
      rw [List.lookup_cons] at e ⊢
      cases hb : f == a with
      | true => rw [hb] at e; cases e; exact ⟨v, rfl, hr⟩
      | false => rw [hb] at e; exact ins_lookup h2 e
def dFld (n : Str) (da : DE) (f : Str) : DE := fun c R => da c fun x c1 => onCel x fun k => ∃ fs d, c1.cs k = some (.ins n fs) ∧ fs.lookup f = some d ∧ R d c1
theorem pd_fld {e : Expr} {da : DE} {n f : Str} {pos : Pos} (he : PD X e da) (hk : FldK X.K n f) (hb : attributeBase e f X.env (eval e X.env) = eval e X.env) : PD X (.Attribute e f pos) (dFld n da f) :=
  pe_imp (pe_fld he hb) fun σ H Q ⟨as, H0, c, R, ok, q, k⟩ => ⟨as, H0, c, _, ok, q, fun as1 H1 Hn1 c1 v d l1 ok1 r1 q1 => by
    obtain ⟨j, rfl, fs, d2, h1, h2, h3⟩ := onCel_of q1
    obtain ⟨p, C, dx, vs, rfl, ha, hp, hc, pr⟩ := cell_ins ok1 r1 h1
    obtain ⟨v2, e2, r2⟩ := ins_lookup pr h2
    obtain ⟨k1, k2⟩ := hk C hc
    exact ⟨p, C, dx, vs, v2, rfl, hp, k1, k2, e2, k _ _ _ _ _ _ l1 ok1 r2 h3⟩⟩
/-! x.f = e -/
def putFD (f : Str) (d : D) : List (Str × D) → List (Str × D)
  | [] => [(f, d)]
  | (g, x) :: r => if g = f then (g, d) :: r else (g, x) :: putFD f d r
theorem ins_put {as : AsM} {H0 : Hp} {f : Str} {v : V} {d : D} (hr : Rp K as H0 v d) : ∀ {vs : List (Str × V)} {ds : List (Str × D)}, Paired (fun (p : Str × V) (q : Str × D) => p.1 = q.1 ∧ Rp K as H0 p.2 q.2) vs ds → Paired (fun (p : Str × V) (q : Str × D) => p.1 = q.1 ∧ Rp K as H0 p.2 q.2) (putF f v vs) (putFD f d ds)
  | [], [], _ => .cons ⟨rfl, hr⟩ .nil
  | (a, x) :: vs, (b, w) :: ds, h => by
    cases h with
    | cons h1 h2 =>
      obtain ⟨h0, hr2⟩ := h1
      cases h0
      show Paired _ (if a = f then (a, v) :: vs else (a, x) :: putF f v vs) (if a = f then (a, d) :: ds else (a, w) :: putFD f d ds)
      by_cases e : a = f
      · rw [if_pos e, if_pos e]; exact .cons ⟨rfl, hr⟩ h2
      · rw [if_neg e, if_neg e]; exact .cons ⟨rfl, hr2⟩ (ins_put hr h2)
theorem ins_len {as : AsM} {H0 : Hp} : ∀ {vs : List (Str × V)} {ds : List (Str × D)}, Paired (fun (p : Str × V) (q : Str × D) => p.1 = q.1 ∧ Rp K as H0 p.2 q.2) vs ds → vs.length = ds.length
  | [], [], _ => rfl
  | _ :: _, _ :: _, h => by cases h with | cons _ h2 => rw [List.length_cons, List.length_cons, ins_len h2]
def sFldD (n : Str) (da dv : DE) (f : Str) : DS := fun DD c => dv c fun y c1 => da c1 fun x c2 => onCel x fun k => ∃ fs, c2.cs k = some (.ins n fs) ∧ fs.length < 1000 ∧ DD.nx { c2 with cs := put c2.cs k (.ins n (putFD f y fs)) }
theorem pds_fld {o value : Expr} {da dv : DE} {n f : Str} {pos pos' : Pos} (ha : PD X o da) (hv : PD X value dv) (hk : FldK X.K n f) (hs : swapsWith value (some (.Attribute o f pos')) pos.line X.env = pure false) : PDS X (.Assign [.Attribute o f pos'] value pos) (sFldD n da dv f) :=
  fun W tk => ps_imp (ps_fld ha hv hs) fun Dn σ H ⟨as, H0, c, DD, ok, q, k⟩ => ⟨as, H0, c, _, ok, q, fun as1 H1 Hn1 c1 y d l1 ok1 r1 q1 => ⟨as1, H1, c1, _, ok1, q1, fun as2 H2 Hn2 c2 v d2 l2 ok2 r2 q2 => by
    obtain ⟨j, rfl, fs, h1, h2, h3⟩ := onCel_of q2
    obtain ⟨p, C, dx, vs, rfl, hp1, hp, hc, pr⟩ := cell_ins ok2 r2 h1
    obtain ⟨k1, k2⟩ := hk C hc
    have pr' := ins_put (f := f) (r1.mono l2) pr
    exact ⟨p, C, dx, vs, rfl, hp, k1, k2, by rw [ins_len pr]; exact h2, k.nx _ _ _ _ _ (l1.trans l2) (cell_set ok2 h1 hp1 (.ins hc pr')) h3⟩⟩⟩
end
end DL

/-! methods of a class of the program's own -/
namespace DL
open L2 PySem PySem.Spec PyProof.Rows
theorem ins_none {K : PySem.W.Frag} {as : AsM} {H0 : Hp} {f : Str} : ∀ {vs : List (Str × V)} {ds : List (Str × D)}, Paired (fun (p : Str × V) (q : Str × D) => p.1 = q.1 ∧ Rp K as H0 p.2 q.2) vs ds → ds.lookup f = none → vs.lookup f = none
  | [], [], _, _ => rfl
  | (a, v) :: vs, (b, w) :: ds, h, e => by
    cases h with
    | cons h1 h2 =>
      obtain ⟨h0, hr⟩ := h1
      cases h0
      rw [List.lookup_cons] at e ⊢
      cases hb : f == a with
      | true => rw [hb] at e; cases e
      | false => rw [hb] at e; exact ins_none h2 e
def MethK (K : PySem.W.Frag) (n m : Str) (f : Addr) : Prop := ∀ C, ClsK K n C → Cls K C ∧ Meth K C m f
def dMeth (cls m : Str) (N : Nat) (sem : Sem) (gD : List D → List D → List D) (da : DE) (dr : DA) : DE := fun c R => da c fun x c1 => onCel x fun k => ∃ fs, c1.cs k = some (.ins cls fs) ∧ fs.lookup m = none ∧
  dr c1 fun ds c2 => (D.cel k :: ds).length = N ∧ sem (gD (D.cel k :: ds) []) c2.cs fun d cs' => R d { c2 with cs := cs' }
section
variable {X : Cx} {k N : Nat} {f : Addr} {fd : FuncData} {ps : List Str} {sem : Sem} {gD : List D → List D → List D} {n m : Str} {p pos apos : Pos} {o e : Expr} {es : List Expr} {da : DE} {dr : DA}
theorem pd_meth {pl : PySem.Sem Bool} (he : PD X o da) (hk : MethK X.K n m f) (F : FnG X.prog X.w X.K X.mg X.base CX0 k f fd ps (FnD X.K sem)) (hgd : X.A.guards = some []) (hr : Room k X.A) (hb : Bnd X.K fd ps N [] gD) (ha : PDA X (e :: es) dr)
    (hst : starEach (e :: es) X.env = (false, eval e X.env) :: starEach es X.env := by rfl) (hpl : (backTo pos (starEach es X.env)).any (·.1) = false := by rfl)
    (ht : eval (.Call (.Attribute o m apos) (e :: es) [] pos) X.env = (do
      let ov ← eval o X.env
      standAt apos.atName
      let (f, first) ← holding [ov] (getMethod ov m pl)
      callWith pos f first (backTo pos (starEach (e :: es) X.env)) (backToKw pos (keywordEach [] X.env))) := by rfl) :
    PD X (.Call (.Attribute o m apos) (e :: es) [] pos) (dMeth n m N sem gD da dr) := by
  refine ⟨fun pins s σ H Q I ⟨as, H0, c, R, ok, q, kk⟩ => ?_⟩
  have arg : lift X.K da σ H fun x H1 => ∃ as1 H01 c1 d, Le as H0 as1 H01 ∧ Ok X.K as1 H01 H1 σ c1 ∧ Rp X.K as1 H01 x d ∧ onCel d fun k => ∃ fs, c1.cs k = some (.ins n fs) ∧ fs.lookup m = none ∧
      dr c1 fun ds c2 => (D.cel k :: ds).length = N ∧ sem (gD (D.cel k :: ds) []) c2.cs fun d cs' => R d { c2 with cs := cs' } :=
    ⟨as, H0, c, _, ok, q, fun as1 H1 Hn c1 v d l1 ok1 r1 q1 => ⟨as1, H1, c1, d, l1, ok1, r1, q1⟩⟩
  refine PySem.W.methodCall_KW (pl := pl) (thn (he.run pins s σ H _ I arg) fun u s1 ⟨x, H1, I1, rx, as1, H01, c1, d, l1, ok1, r1, q1⟩ => ?_) ht
  obtain ⟨j, rfl, fs, h1, h2, h3⟩ := onCel_of q1
  obtain ⟨a, C, dx, vs, rfl, ha1, hp, hc, pr⟩ := cell_ins ok1 r1 h1
  obtain rfl : u = Value.ref a := rx
  obtain ⟨k1, k2⟩ := hk C hc
  refine getmeth_ok I1 hp k1 k2 (ins_none pr h2) ?_
  have arg2 : liftA X.K dr σ H1 fun vs2 H2 => ∃ as2 H02 c2 ds, Le as1 H01 as2 H02 ∧ Ok X.K as2 H02 H2 σ c2 ∧ RpA X.K as2 H02 vs2 ds ∧ (D.cel j :: ds).length = N ∧ sem (gD (D.cel j :: ds) []) c2.cs fun d cs' => R d { c2 with cs := cs' } :=
    ⟨as1, H01, c1, _, ok1, h3, fun as2 H2 Hn c2 vs2 ds l2 ok2 r2 ⟨z1, z2⟩ => ⟨as2, H2, c2, ds, l2, ok2, r2, z1, z2⟩⟩
  refine PySem.W.callWith_K (first := [.ref a]) (h₀ := X.base) I.ok.mod.kin k2.kp (thn (ha.run pos pins s1 σ H1 _ I1 arg2) fun us s2 ⟨vs2, H2, I2, r, as2, H02, c2, ds, l2, ok2, rd, z1, z2⟩ => ⟨I2.kIn, ?_⟩) hst hpl
  exact run_fnD (ws := []) (us := .ref a :: us) (vs := .ref a :: vs2) F hgd hr hb I2 (.cons rfl r) .nil ok2 (.cons (r1.mono l2) rd) .nil z1 rfl z2 fun _ _ _ _ _ _ l ok' rp hq => kk _ _ _ _ _ _ ((l1.trans l2).trans l) ok' rp hq
theorem pd_meth0 {pl : PySem.Sem Bool} (he : PD X o da) (hk : MethK X.K n m f) (F : FnG X.prog X.w X.K X.mg X.base CX0 k f fd ps (FnD X.K sem)) (hgd : X.A.guards = some []) (hr : Room k X.A) (hb : Bnd X.K fd ps N [] gD)
    (ht : eval (.Call (.Attribute o m apos) [] [] pos) X.env = (do
      let ov ← eval o X.env
      standAt apos.atName
      let (f, first) ← holding [ov] (getMethod ov m pl)
      callWith pos f first (backTo pos (starEach [] X.env)) (backToKw pos (keywordEach [] X.env))) := by rfl) :
    PD X (.Call (.Attribute o m apos) [] [] pos) (dMeth n m N sem gD da dNil) := by
  refine ⟨fun pins s σ H Q I ⟨as, H0, c, R, ok, q, kk⟩ => ?_⟩
  have arg : lift X.K da σ H fun x H1 => ∃ as1 H01 c1 d, Le as H0 as1 H01 ∧ Ok X.K as1 H01 H1 σ c1 ∧ Rp X.K as1 H01 x d ∧ onCel d fun k => ∃ fs, c1.cs k = some (.ins n fs) ∧ fs.lookup m = none ∧
      dNil c1 fun ds c2 => (D.cel k :: ds).length = N ∧ sem (gD (D.cel k :: ds) []) c2.cs fun d cs' => R d { c2 with cs := cs' } :=
    ⟨as, H0, c, _, ok, q, fun as1 H1 Hn c1 v d l1 ok1 r1 q1 => ⟨as1, H1, c1, d, l1, ok1, r1, q1⟩⟩
  refine PySem.W.methodCall_KW (pl := pl) (thn (he.run pins s σ H _ I arg) fun u s1 ⟨x, H1, I1, rx, as1, H01, c1, d, l1, ok1, r1, q1⟩ => ?_) ht
  obtain ⟨j, rfl, fs, h1, h2, z1, z2⟩ := onCel_of q1
  obtain ⟨a, C, dx, vs, rfl, ha1, hp, hc, pr⟩ := cell_ins ok1 r1 h1
  obtain rfl : u = Value.ref a := rx
  obtain ⟨k1, k2⟩ := hk C hc
  refine getmeth_ok I1 hp k1 k2 (ins_none pr h2) ?_
  exact PySem.W.callWith_K0 (first := [.ref a]) I1.kIn k2.kp (run_fnD (ws := []) (us := [.ref a]) (vs := [.ref a]) F hgd hr hb I1 (.cons rfl .nil) .nil ok1 (.cons r1 .nil) .nil z1 rfl z2 fun _ _ _ _ _ _ l ok' rp hq => kk _ _ _ _ _ _ (l1.trans l) ok' rp hq)
end
end DL

/-! a thing of a class of the program's own is made -/
namespace DL
open L2 PySem PySem.Spec PyProof.Rows
def MkK (K : PySem.W.Frag) (n : Str) (C f : Addr) : Prop := ClsK K n C ∧ Mk K C f
def dMake (cls : Str) (N : Nat) (sem : Sem) (gD : List D → List D → List D) (dr : DA) : DE := fun c R => dr c fun ds c1 => ∀ k, c1.cs k = none →
  (D.cel k :: ds).length = N ∧ sem (gD (D.cel k :: ds) []) (put c1.cs k (.ins cls [])) fun d cs' => d = .non ∧ R (.cel k) { c1 with cs := cs' }
section
variable {X : Cx} {k N : Nat} {f C : Addr} {fd : FuncData} {ps : List Str} {sem : Sem} {gD : List D → List D → List D} {n x : Str} {p pos : Pos} {e : Expr} {es : List Expr} {dr : DA}
end
end DL

/-! x.f += e; methods that raise -/
namespace DL
open L2 PySem PySem.Spec PyProof.Rows
section
variable {X : Cx} {K : PySem.W.Frag}
def dAddI : DF := fun x y c R => match x, y with | .int i, .int j => R (.int (i + j)) c | _, _ => False
def dSubI : DF := fun x y c R => match x, y with | .int i, .int j => R (.int (i - j)) c | _, _ => False
theorem opD_addI : OpD K rAdd dAddI := by
  intro as H0 H σ c v1 v2 d1 d2 R Q ok r1 r2 h k
  unfold dAddI at h
  split at h
  · cases r1; cases r2
    exact ⟨_, _, rfl, rfl, k _ _ _ _ _ _ .refl ok (.int _) h⟩
  · exact h.elim
def sFldAugD (n : Str) (op : DF) (da dv : DE) (f : Str) : DS := fun DD c => da c fun x c1 => onCel x fun k => ∃ fs d, c1.cs k = some (.ins n fs) ∧ fs.lookup f = some d ∧ dv c1 fun y c2 => op d y c2 fun z c3 => ∃ fs', c3.cs k = some (.ins n fs') ∧ fs'.length < 1000 ∧ DD.nx { c3 with cs := put c3.cs k (.ins n (putFD f z fs')) }
theorem pds_fldaug {op : Operator} {rd : V → V → Hp → VK → Prop} {dop : DF} {o value : Expr} {da dv : DE} {n f : Str} {pos tpos : Pos} (ha : PD X o da) (hv : PD X value dv) (hop : InOp X op rd) (hod : OpD X.K rd dop) (hk : FldK X.K n f) : PDS X (.AugAssign (.Attribute o f tpos) op value pos) (sFldAugD n dop da dv f) :=
  fun W tk => ps_imp (ps_fldaug ha hv hop) fun Dn σ H ⟨as, H0, c, DD, ok, q, k⟩ => ⟨as, H0, c, _, ok, q, fun as1 H1 Hn1 c1 v d l1 ok1 r1 q1 => by
    obtain ⟨j, rfl, fs, d2, h1, h2, h3⟩ := onCel_of q1
    obtain ⟨p, C, dx, vs, rfl, hp1, hp, hc, pr⟩ := cell_ins ok1 r1 h1
    obtain ⟨v2, e2, r2⟩ := ins_lookup pr h2
    obtain ⟨k1, k2⟩ := hk C hc
    refine ⟨p, C, dx, vs, v2, rfl, hp, k1, k2, e2, as1, H1, c1, _, ok1, h3, fun as2 H2 Hn2 c2 y dy l2 ok2 ry q2 => ?_⟩
    refine hod as2 H2 Hn2 σ c2 v2 y d2 dy _ _ ok2 (r2.mono l2) ry q2 fun as3 H3 Hn3 c3 z dz l3 ok3 rz ⟨fs', g1, g2, g3⟩ => ?_
    obtain ⟨p', C', dx', vs', e', hp1', hp', hc', pr'⟩ := cell_ins ok3 ((r1.mono l2).mono l3) g1
    cases e'
    have eC : C' = C := by
      unfold ClsK at hc hc'
      rw [hc] at hc'
      cases hc'; rfl
    subst eC
    exact ⟨dx', vs', hp', by rw [ins_len pr']; exact g2, k.nx _ _ _ _ _ ((l1.trans l2).trans l3) (cell_set ok3 g1 hp1' (.ins hc' (ins_put rz pr'))) g3⟩⟩
end
def dMethX (cls m : Str) (N : Nat) (sem : SemX) (gD : List D → List D → List D) (da : DE) (dr : DA) : DEX := fun XX c R => da c fun x c1 => onCel x fun k => ∃ fs, c1.cs k = some (.ins cls fs) ∧ fs.lookup m = none ∧
  dr c1 fun ds c2 => (D.cel k :: ds).length = N ∧ sem (gD (D.cel k :: ds) []) c2.cs (fun d cs' => R d { c2 with cs := cs' }) fun x cs' => XX x { c2 with cs := cs' }
def dMakeX (cls : Str) (N : Nat) (sem : SemX) (gD : List D → List D → List D) (dr : DA) : DEX := fun XX c R => dr c fun ds c1 => ∀ k, c1.cs k = none →
  (D.cel k :: ds).length = N ∧ sem (gD (D.cel k :: ds) []) (put c1.cs k (.ins cls [])) (fun d cs' => d = .non ∧ R (.cel k) { c1 with cs := cs' }) fun x cs' => XX x { c1 with cs := cs' }
section
variable {X : Cx} {k N : Nat} {f C : Addr} {fd : FuncData} {ps : List Str} {sem : SemX} {gD : List D → List D → List D} {n m x : Str} {p pos apos : Pos} {o e : Expr} {es : List Expr} {da : DE} {dr : DA}
end
end DL

/-! a thing is made, its __init__ may raise -/
namespace DL
open L2 PySem PySem.Spec PyProof.Rows
section
variable {X : Cx} {k N : Nat} {f C : Addr} {fd : FuncData} {ps : List Str} {sem : SemX} {gD : List D → List D → List D} {n x : Str} {p pos : Pos} {e : Expr} {es : List Expr} {dr : DA}
end
end DL

/-! loops and comprehensions over a thing that may change later, but not in the meanwhile; pop -/
namespace DL
open L2 PySem PySem.Spec PyProof.Rows
theorem clsK_eq {K : PySem.W.Frag} {n : Str} {C C' : Addr} (h : ClsK K n C) (h' : ClsK K n C') : C' = C := by
  unfold ClsK at h h'
  rw [h] at h'
  cases h'; rfl
theorem fldK_of {K : PySem.W.Frag} {n f : Str} {C : Addr} (h : ClsK K n C) (c : Cls K C) (a : PySem.W.findIn K (.ref C) f = some none) : FldK K n f :=
  fun C' h' => by rw [clsK_eq h h']; exact ⟨c, a⟩
theorem methK_of {K : PySem.W.Frag} {n m : Str} {C f : Addr} (h : ClsK K n C) (c : Cls K C) (a : Meth K C m f) : MethK K n m f :=
  fun C' h' => by rw [clsK_eq h h']; exact ⟨c, a⟩
abbrev DIP := Z → (List D → Nat → Co → Z → Prop) → Prop
def iCelP (da : DE) : DIP := fun c R => da c fun d c1 => onCel d fun j => ∃ xs, c1.cs j = some (.lst xs) ∧ R xs j (.lst xs) c1
section
variable {X : Cx} {K : PySem.W.Frag} {tg e : Expr} {da : DE} {pos : Pos}
def sForP (di : DIP) (g : DG) (sb : DS) : DS := fun DD c => di c fun ds j o c1 => ∃ I : Nat → Z → Prop, I 0 c1 ∧
  (∀ (i : Nat) (d : D) (c2 : Z), ds[i]? = some d → I i c2 → g d c2 fun c3 => sb { DD with nx := I (i + 1), ct := I (i + 1), bk := DD.nx } c3) ∧
  (∀ i c2, I i c2 → c2.cs j = some o) ∧ ∀ c2, I ds.length c2 → DD.nx c2
/-! comprehensions -/
def lcGoP (j : Nat) (o : Co) (k : Nat) (g : TgN) (tt : DT) (de : DE) (env : List (Option D)) : List D → List D → Cells → (List D → Cells → Prop) → Prop
  | [], acc, cs, R => cs j = some o ∧ R acc cs
  | d :: ds, acc, cs, R => cs j = some o ∧ ∃ env', tgSet g d env = some env' ∧ tt ⟨env', put cs k (.lst acc)⟩ fun b c2 => match b with
    | true => de c2 fun y c3 => c3.cs k = some (.lst acc) ∧ acc.length < sizeLine ∧ lcGoP j o k g tt de env ds (acc ++ [y]) (del c3.cs k) R
    | false => c2.cs k = some (.lst acc) ∧ lcGoP j o k g tt de env ds acc (del c2.cs k) R
def dLcP (di : DIP) (g : TgN) (tt : DT) (de : DE) : DE := fun c R => di c fun ds j o c1 => ∀ k, c1.cs k = none → lcGoP j o k g tt de (wipeD c1.env g.vs) ds [] c1.cs fun acc cs' => R (.lst acc) { c1 with cs := cs' }
/-! pop of a list's last thing -/
def dPopL (do_ : DE) : DE := fun c R => do_ c fun o c1 => onCel o fun k => ∃ ds d, c1.cs k = some (.lst (ds ++ [d])) ∧ R d { c1 with cs := put c1.cs k (.lst ds) }
variable {o : Expr} {do_ : DE} {apos cpos : Pos}
end
end DL

/-! repr of large things: how long the text is, told finer -/
namespace DL
open L2 PySem PySem.Spec PyProof.Rows
def iw (i : Int) : Nat := if -(2 ^ 24) < i ∧ i < 2 ^ 24 then 25 else 400
mutual
def wq : D → Nat
  | .int i => iw i | .str s => 10 * s.length + 2
  | .lst ds => 3 + wqA ds | .slst ds => 3 + wqA ds | .tup ds => 3 + wqA ds
  | .non => 5 | .bl _ => 5 | .dic _ => 5 | .ref _ => 5 | .ty _ => 5 | .cel _ => 5 | .fn _ => 5 | .dicB _ _ => 5
def wqA : List D → Nat
  | [] => 0
  | d :: ds => wq d + 2 + wqA ds
end
theorem log_24 {i : Int} (h : -(2 ^ 24) < i ∧ i < 2 ^ 24) : i.natAbs.log2 < 24 := by
  by_cases z : i.natAbs = 0
  · rw [z]; decide
  · have : i.natAbs < 2 ^ 24 := by
      have e : (2 : Int) ^ 24 = 16777216 := by decide
      have e' : (2 : Nat) ^ 24 = 16777216 := by decide
      omega
    exact (Nat.log2_lt z).mpr this
mutual
theorem shownq : ∀ {d : D}, smallE d → (pyE d).showable = true ∧ (pyE d).shown.length ≤ wq d
  | .non, _ => ⟨rfl, by decide⟩
  | .bl b, _ => ⟨rfl, by cases b <;> decide⟩
  | .int i, h => by
    obtain ⟨h1, h2⟩ := (small_shown (d := .int i) h).2.imp id And.right
    refine ⟨h1, ?_⟩
    show _ ≤ iw i
    unfold iw
    split
    · rename_i z
      have := int_text_length_le (a := i) (k := 24) (by decide) (log_24 z)
      show (Str.ofString (toString i)).length ≤ 25
      have e : (Str.ofString (toString i)).length = (toString i).length := PySem.ofString_length _
      omega
    · exact h2
  | .str s, h => (small_shown (d := .str s) h).2.imp id And.right
  | .lst ds, h => by
    obtain ⟨h2, h4⟩ := shownqA (ds := ds) h
    refine ⟨h2, ?_⟩
    have := listText_len_le (PyData.shownAll (pyEA ds))
    show (listText (PyData.shownAll (pyEA ds))).length ≤ 3 + wqA ds
    omega
  | .slst ds, h => by
    obtain ⟨h2, h4⟩ := shownqA (ds := ds) h
    refine ⟨h2, ?_⟩
    have := listText_len_le (PyData.shownAll (pyEA ds))
    show (listText (PyData.shownAll (pyEA ds))).length ≤ 3 + wqA ds
    omega
  | .tup ds, h => by
    obtain ⟨h2, h4⟩ := shownqA (ds := ds) h
    refine ⟨h2, ?_⟩
    have := tupleText_len_le (PyData.shownAll (pyEA ds))
    show (tupleText (PyData.shownAll (pyEA ds))).length ≤ 3 + wqA ds
    omega
  | .dic _, _ => ⟨rfl, Nat.le_of_ble_eq_true rfl⟩
  | .ref _, h => False.elim h
  | .ty _, h => False.elim h
  | .cel _, h => False.elim h
  | .fn _, h => False.elim h
  | .dicB _ _, h => False.elim h
theorem shownqA : ∀ {ds : List D}, smallEA ds → PyData.showableAll (pyEA ds) = true ∧ ((PyData.shownAll (pyEA ds)).map (·.length)).sum + 2 * (PyData.shownAll (pyEA ds)).length ≤ wqA ds
  | [], h => ⟨rfl, Nat.le_refl _⟩
  | d :: ds, h => by
    obtain ⟨a2, a4⟩ := shownq (d := d) h.1
    obtain ⟨b2, b4⟩ := shownqA (ds := ds) h.2
    refine ⟨?_, ?_⟩
    · show (PyData.showable (pyE d) && PyData.showableAll (pyEA ds)) = true
      rw [a2, b2]; rfl
    · show (((PyData.shown (pyE d)) :: PyData.shownAll (pyEA ds)).map (·.length)).sum + 2 * ((PyData.shown (pyE d)) :: PyData.shownAll (pyEA ds)).length ≤ wq d + 2 + wqA ds
      simp only [List.map_cons, List.sum_cons, List.length_cons]
      omega
end
end DL

/-! an own exception made, not raised: a cell that holds it -/
namespace DL
open L2 PySem PySem.Spec PyProof.Rows
section
variable {X : Cx} {x m : Str} {C : Addr} {fs : List Str} {j n : Nat} {p p2 cp : Pos} {e : Expr} {es : List Expr} {da : DA}
end
end DL

/-! an own class over LookupError: its making (LookupError's new), its own __init__ -/
namespace DL
open L2 PySem PySem.Calls PyProof.Rows
section
variable {M : Model} {A : Around} {E : Value → Shared → Prop} {hp : Heap} {gs : Array GenState} {dr : Drawn} {tk : Nat} {os : OsState}
variable {cn qn : Str} {C ns : Addr} {bs bm : List Value} {hd : Bool} {sn : List Str} {sub : List Value} {ab : Bool} {col : Option Bool} {dd : Option Addr} {k0 k1 k2 k3 k5 : Option Value}
end
section
variable {prog : Program} {w : World} {A : Around} {E : Value → Shared → Prop} {R : Result → Shared → Prop} {hp : Heap} {gs : Array GenState} {dr : Drawn} {tk : Nat} {os : OsState}
variable {cn qn : Str} {C ns : Addr} {bs bm : List Value} {hd : Bool} {sn : List Str} {sub : List Value} {ab : Bool} {col : Option Bool} {dd : Option Addr} {k0 k1 k2 k3 k5 : Option Value}
end
end DL
/-! an own class over LookupError: its first field -/
namespace DL
open L2 PySem PySem.Calls PyProof.Rows
section
open Builtin Builtin.ObjectAttr
variable {prog : Program} {w : World} {A : Around} {R : Result → Shared → Prop} {hp : Heap} {gs : Array GenState} {dr : Drawn} {tc : Nat} {os : OsState}
end
end DL
/-! raise of an own class over LookupError, with its own __init__ that keeps a field -/
namespace DL
open L2 PySem PySem.Spec PyProof.Rows
section
variable {X : Cx} {pins : List (Addr × Obj)} {σ : L2.St} {H : Hp} {s : Shared} {a C : Addr} {f : Str} {y : V} {u : Value} {Q : Unit → Shared → Prop} {E : Value → Shared → Prop} {A : Around}
end
/-! ### readings and rules -/
section
variable {X : Cx} {o e : Expr} {es : List Expr} {to te : TE} {ta : TA} {f : Str} {p p' p1 p2 pos : Pos}
end
end DL
/-! raise of such a class, as data -/
namespace DL
open L2 PySem PySem.Spec PyProof.Rows
section
variable {X : Cx} {e : Expr} {es : List Expr} {ta : TA} {p1 p2 pos : Pos}
end
section
variable {P : Program} {w : World} {K : PySem.W.Frag} {mg : Str → Option Value} {base : Heap} {qual m f1 : Str} {params : Arguments} {body : List Stmt} {scope : Scope} {f C : Addr} {fd : FuncData} {j : Nat} {p1 p2 p3 p4 p5 p6 p7 p8 p9 p10 : Pos}
end
section
variable {X : Cx} {x : Str} {C : Addr} {fs : List Str} {p cp pos : Pos} {e : Expr} {es : List Expr} {da : DA} {n : Nat}
end
end DL
namespace DL
open L2 PySem PySem.Spec PyProof.Rows
end DL

/-! repr of data in which dicts stand, with entries -/
namespace DL
open L2 PySem PySem.Spec PyProof.Rows
def keyG : Key → PyData
  | .inl i => .int i
  | .inr s => .str s
mutual
def pyG : D → PyData
  | .non => .none | .bl b => .bool b | .int i => .int i | .str s => .str s
  | .lst ds => .list (pyGA ds) | .slst ds => .list (pyGA ds) | .tup ds => .tuple (pyGA ds)
  | .dic ks => .dict (pyGK ks) | .ref _ => .none | .ty _ => .none | .cel _ => .none | .fn _ => .none | .dicB b d => .dict [(.bool b, pyG d)]
def pyGA : List D → List PyData
  | [] => []
  | d :: ds => pyG d :: pyGA ds
def pyGK : List (Key × D) → List (PyData × PyData)
  | [] => []
  | (k, d) :: ks => (keyG k, pyG d) :: pyGK ks
end
def kyG : Key → D
  | .inl i => .int i
  | .inr s => .str s
def smKey : Key → Prop
  | .inl i => -(2 ^ 200) < i ∧ i < 2 ^ 200
  | .inr s => ∀ c ∈ s.cps.toList, c < 16 ^ 8
mutual
def smG : D → Prop
  | .int i => -(2 ^ 200) < i ∧ i < 2 ^ 200
  | .str s => ∀ c ∈ s.cps.toList, c < 16 ^ 8
  | .lst ds => smGA ds | .slst ds => smGA ds | .tup ds => smGA ds | .dic ks => smGK ks
  | .non => True | .bl _ => True | .ref _ => False | .ty _ => False | .cel _ => False | .fn _ => False | .dicB _ d => smG d
def smGA : List D → Prop
  | [] => True
  | d :: ds => smG d ∧ smGA ds
def smGK : List (Key × D) → Prop
  | [] => True
  | (k, d) :: ks => smKey k ∧ smG d ∧ smGK ks
end
mutual
def wg : D → Nat
  | .int i => iw i | .str s => 10 * s.length + 2
  | .lst ds => 3 + wgA ds | .slst ds => 3 + wgA ds | .tup ds => 3 + wgA ds | .dic ks => 2 + wgK ks
  | .non => 5 | .bl _ => 5 | .ref _ => 5 | .ty _ => 5 | .cel _ => 5 | .fn _ => 5 | .dicB _ d => 11 + wg d
def wgA : List D → Nat
  | [] => 0
  | d :: ds => wg d + 2 + wgA ds
def wgK : List (Key × D) → Nat
  | [] => 0
  | (k, d) :: ks => wq (kyG k) + 2 + wg d + 2 + wgK ks
end
mutual
inductive DpG (K : PySem.W.Frag) (H : Hp) : V → PyData → Prop
  | non : DpG K H .non .none
  | bl (b : Bool) : DpG K H (.bl b) (.bool b)
  | int (i : Int) : DpG K H (.int i) (.int i)
  | str (x : Str) : DpG K H (.str x) (.str x)
  | lst {a : Addr} {xs : List V} {ds : List PyData} : SqL K H a xs → DpGA K H xs ds → DpG K H (.ref a) (.list ds)
  | tup {a : Addr} {xs : List V} {ds : List PyData} : SqT K H a xs → DpGA K H xs ds → DpG K H (.ref a) (.tuple ds)
  | dic {a : Addr} {xs : List (Key × V)} {ks : List (PyData × PyData)} : Rd H a (.dK xs) → DpGK K H xs ks → DpG K H (.ref a) (.dict ks)
  | dicB {a : Addr} {od : Obj} {e : DictEntry} {ep : Nat} {b : Bool} {v : V} {ks : List (PyData × PyData)} : H a = some (.frz od (.ext fun _ => True)) → BdOb a od e ep b v → DpGB K H b v ks → DpG K H (.ref a) (.dict ks)
inductive DpGA (K : PySem.W.Frag) (H : Hp) : List V → List PyData → Prop
  | nil : DpGA K H [] []
  | cons {v : V} {vs : List V} {d : PyData} {ds : List PyData} : DpG K H v d → DpGA K H vs ds → DpGA K H (v :: vs) (d :: ds)
inductive DpGB (K : PySem.W.Frag) (H : Hp) : Bool → V → List (PyData × PyData) → Prop
  | mk {b : Bool} {v : V} {d : PyData} : DpG K H v d → DpGB K H b v [(.bool b, d)]
inductive DpGK (K : PySem.W.Frag) (H : Hp) : List (Key × V) → List (PyData × PyData) → Prop
  | nil : DpGK K H [] []
  | cons {k : Key} {v : V} {vs : List (Key × V)} {d : PyData} {ds : List (PyData × PyData)} : DpG K H v d → DpGK K H vs ds → DpGK K H ((k, v) :: vs) ((keyG k, d) :: ds)
end
section
variable {K : PySem.W.Frag} {as : AsM} {H0 H : Hp}
mutual
theorem rpG (e : ∀ a o, H0 a = some o → H a = some o) : ∀ {d : D} {v : V}, smG d → Rp K as H0 v d → DpG K H v (pyG d)
  | .non, _, _, h => by cases h; exact .non
  | .bl _, _, _, h => by cases h; exact .bl _
  | .int _, _, _, h => by cases h; exact .int _
  | .str _, _, _, h => by cases h; exact .str _
  | .lst ds, _, p, h => by
    cases h with
    | lst h1 h2 => exact .lst (SqL.of (e _ _ h1)) (rpGA e (show smGA ds from p) h2)
  | .slst ds, _, p, h => by
    cases h with
    | slst h1 h2 => exact .lst (seqL_mono e h1) (rpGA e (show smGA ds from p) h2)
  | .tup ds, _, p, h => by
    cases h with
    | tup h1 h2 => exact .tup (seqT_mono e h1) (rpGA e (show smGA ds from p) h2)
  | .dic ks, _, p, h => by
    cases h with
    | dic h1 h2 => exact .dic (.inr ⟨_, e _ _ h1⟩) (rpGK e (show smGK ks from p) h2)
  | .ref _, _, p, _ => False.elim p
  | .ty _, _, p, _ => False.elim p
  | .cel _, _, p, _ => False.elim p
  | .fn _, _, p, _ => False.elim p
  | .dicB b d, _, p, h => by
    cases h with
    | dicB h1 h2 h3 => exact .dicB (e _ _ h1) h2 (.mk (rpG e (show smG d from p) h3))
theorem rpGA (e : ∀ a o, H0 a = some o → H a = some o) : ∀ {ds : List D} {vs : List V}, smGA ds → RpA K as H0 vs ds → DpGA K H vs (pyGA ds)
  | [], _, _, h => by cases h; exact .nil
  | d :: ds, _, p, h => by
    cases h with
    | cons h1 h2 => exact .cons (rpG e p.1 h1) (rpGA e p.2 h2)
theorem rpGK (e : ∀ a o, H0 a = some o → H a = some o) : ∀ {ds : List (Key × D)} {vs : List (Key × V)}, smGK ds → RpK K as H0 vs ds → DpGK K H vs (pyGK ds)
  | [], _, _, h => by cases h; exact .nil
  | (k, d) :: ds, _, p, h => by
    cases h with
    | cons h1 h2 => exact .cons (rpG e p.2.1 h1) (rpGK e p.2.2 h2)
end
end
theorem key_shown {k : Key} (h : smKey k) : (keyG k).showable = true ∧ (keyG k).shown.length ≤ wq (kyG k) := by
  cases k with
  | inl i => exact shownq (d := .int i) h
  | inr s => exact shownq (d := .str s) h
theorem piled_is : ∀ (ps : List Str), PySem.piled ps = (ps.map (·.length)).sum + 2 * ps.length
  | [] => rfl
  | p :: ps => by
    rw [piled_cons, piled_is ps, List.map_cons, List.sum_cons, List.length_cons]; omega
theorem dictText_len_le (ps : List Str) : (dictText ps).length ≤ 2 + (ps.map (·.length)).sum + 2 * ps.length := by
  have e : (dictText ps).length = 1 + (Str.join ", " ps).length + 1 := by
    unfold dictText
    rw [Str.length_append, Str.length_append]; rfl
  rw [e]
  by_cases h : ps = []
  · subst h; decide +kernel
  · have h2 := join_length_add ps h
    rw [piled_is] at h2
    omega
mutual
theorem shownG : ∀ {d : D}, smG d → (pyG d).showable = true ∧ (pyG d).shown.length ≤ wg d
  | .non, _ => ⟨rfl, by decide⟩
  | .bl b, _ => ⟨rfl, by cases b <;> decide⟩
  | .int i, h => shownq (d := .int i) h
  | .str s, h => shownq (d := .str s) h
  | .lst ds, h => by
    obtain ⟨h2, h4⟩ := shownGA (ds := ds) h
    refine ⟨h2, ?_⟩
    have := listText_len_le (PyData.shownAll (pyGA ds))
    show (listText (PyData.shownAll (pyGA ds))).length ≤ 3 + wgA ds
    omega
  | .slst ds, h => by
    obtain ⟨h2, h4⟩ := shownGA (ds := ds) h
    refine ⟨h2, ?_⟩
    have := listText_len_le (PyData.shownAll (pyGA ds))
    show (listText (PyData.shownAll (pyGA ds))).length ≤ 3 + wgA ds
    omega
  | .tup ds, h => by
    obtain ⟨h2, h4⟩ := shownGA (ds := ds) h
    refine ⟨h2, ?_⟩
    have := tupleText_len_le (PyData.shownAll (pyGA ds))
    show (tupleText (PyData.shownAll (pyGA ds))).length ≤ 3 + wgA ds
    omega
  | .dic ks, h => by
    obtain ⟨h2, h4⟩ := shownGK (ks := ks) h
    refine ⟨h2, ?_⟩
    have := dictText_len_le (PyData.shownKv (pyGK ks))
    show (dictText (PyData.shownKv (pyGK ks))).length ≤ 2 + wgK ks
    omega
  | .ref _, h => False.elim h
  | .ty _, h => False.elim h
  | .cel _, h => False.elim h
  | .fn _, h => False.elim h
  | .dicB b d, h => by
    obtain ⟨a2, a4⟩ := shownG (d := d) h
    refine ⟨?_, ?_⟩
    · show (PyData.showable (.bool b) && PyData.showable (pyG d) && PyData.showableKv []) = true
      rw [a2]; rfl
    · have := dictText_len_le (PyData.shownKv [(.bool b, pyG d)])
      have e : (dictText (PyData.shownKv [(.bool b, pyG d)])).length ≤ 11 + wg d := by
        refine Nat.le_trans this ?_
        show 2 + (((PyData.shown (.bool b) ++ ": " ++ PyData.shown (pyG d)) :: PyData.shownKv []).map (·.length)).sum + 2 * ((PyData.shown (.bool b) ++ ": " ++ PyData.shown (pyG d)) :: PyData.shownKv []).length ≤ 11 + wg d
        have h5 : (PyData.shown (.bool b)).length ≤ 5 := by cases b <;> decide +kernel
        have h6 : (": " : Str).length = 2 := by decide +kernel
        simp only [PyData.shownKv, List.map_cons, List.map_nil, List.sum_cons, List.sum_nil, List.length_cons, List.length_nil, Str.length_append]
        omega
      exact e
theorem shownGA : ∀ {ds : List D}, smGA ds → PyData.showableAll (pyGA ds) = true ∧ ((PyData.shownAll (pyGA ds)).map (·.length)).sum + 2 * (PyData.shownAll (pyGA ds)).length ≤ wgA ds
  | [], h => ⟨rfl, Nat.le_refl _⟩
  | d :: ds, h => by
    obtain ⟨a2, a4⟩ := shownG (d := d) h.1
    obtain ⟨b2, b4⟩ := shownGA (ds := ds) h.2
    refine ⟨?_, ?_⟩
    · show (PyData.showable (pyG d) && PyData.showableAll (pyGA ds)) = true
      rw [a2, b2]; rfl
    · show (((PyData.shown (pyG d)) :: PyData.shownAll (pyGA ds)).map (·.length)).sum + 2 * ((PyData.shown (pyG d)) :: PyData.shownAll (pyGA ds)).length ≤ wg d + 2 + wgA ds
      simp only [List.map_cons, List.sum_cons, List.length_cons]
      omega
theorem shownGK : ∀ {ks : List (Key × D)}, smGK ks → PyData.showableKv (pyGK ks) = true ∧ ((PyData.shownKv (pyGK ks)).map (·.length)).sum + 2 * (PyData.shownKv (pyGK ks)).length ≤ wgK ks
  | [], h => ⟨rfl, Nat.le_refl _⟩
  | (k, d) :: ks, h => by
    obtain ⟨k2, k4⟩ := key_shown h.1
    obtain ⟨a2, a4⟩ := shownG (d := d) h.2.1
    obtain ⟨b2, b4⟩ := shownGK (ks := ks) h.2.2
    refine ⟨?_, ?_⟩
    · show (PyData.showable (keyG k) && PyData.showable (pyG d) && PyData.showableKv (pyGK ks)) = true
      rw [k2, a2, b2]; rfl
    · show (((PyData.shown (keyG k) ++ ": " ++ PyData.shown (pyG d)) :: PyData.shownKv (pyGK ks)).map (·.length)).sum + 2 * ((PyData.shown (keyG k) ++ ": " ++ PyData.shown (pyG d)) :: PyData.shownKv (pyGK ks)).length ≤ wq (kyG k) + 2 + wg d + 2 + wgK ks
      simp only [List.map_cons, List.sum_cons, List.length_cons, Str.length_append]
      have : (": " : Str).length = 2 := by decide +kernel
      omega
end
section
variable {X : Cx} {pins : List (Addr × Obj)} {σ : L2.St} {H : Hp} {s : Shared}
/-- the keys, read and shown -/
theorem keys_of {P : Program} {w : World} : ∀ {es : List DictEntry} {us : List (Key × Value)} {xs : List (Key × V)} {ks : List (PyData × PyData)}, Pairs (mixKind P w) es us → KV xs us → DpGK X.K H xs ks →
    PyData.showableAll (ks.map (·.1)) = true → (∀ t ∈ PyData.shownAll (ks.map (·.1)), t.length ≤ sizeLine) → ShEA X.prog X.w s.heap (es.map (·.key)) (ks.map (·.1))
  | [], _, _, _, p, r, g, _, _ => by
    cases p; cases r; cases g
    exact ⟨⟨_, .nil⟩, [], (fun _ z => nomatch z), by simp only [List.map_nil, PyData.shownAll]; exact .nil⟩
  | e :: es, _, _, _, p, r, g, z, q => by
    cases p with
    | @cons _ kv _ _ h1 h2 h3 =>
    cases g with
    | nil => cases r
    | @cons k v vs d ds g1 g2 =>
    cases r with
    | cons r1 r2 =>
    have z' : (keyG k).showable = true ∧ PyData.showableAll (ds.map (·.1)) = true := by simpa [PyData.showableAll] using z
    obtain ⟨⟨a2, q2⟩, b2, hb2, k2⟩ := keys_of h3 r2 g2 z'.2 fun t ht => q t (by simp only [List.map_cons, PyData.shownAll]; exact List.mem_cons_of_mem _ ht)
    have hk : kv.1 = k := r1.1.symm
    rw [hk] at h1
    have hl := q _ (by simp only [List.map_cons, PyData.shownAll]; exact List.mem_cons_self)
    have one : (∃ as, Reads s.heap e.key (keyG k) as) ∧ ReprK X.prog X.w b2 s.heap (PyData.depthAll (ds.map (·.1))) e.key (keyG k).shown := by
      rcases keyIs_shape h1 with ⟨i, u, rfl, eq⟩ | ⟨y, u, rfl, eq⟩
      · rw [eq]
        exact ⟨⟨_, .int i u⟩, by simp only [keyG, PyData.shown]; exact .of_is (ReprIs.int u (by simpa [keyG, PyData.showable] using z'.1)) _ _ _⟩
      · rw [eq]
        exact ⟨⟨_, .str y u⟩, by simp only [keyG, PyData.shown]; exact .of_is (ReprIs.str y u (by simpa only [keyG, PyData.shown] using hl)) _ _ _⟩
    obtain ⟨⟨a1, q1⟩, k1⟩ := one
    refine ⟨⟨_, .cons q1 q2⟩, b2, fun b hm => ?_, ?_⟩
    · obtain ⟨d', as', r', hd'⟩ := hb2 b hm
      exact ⟨d', as', r', by simp only [List.map_cons, PyData.depthAll]; exact Nat.le_trans hd' (Nat.le_max_right _ _)⟩
    · simp only [List.map_cons, PyData.depthAll, PyData.shownAll]
      exact .cons (k1.level_le (Nat.le_max_right _ _)) (k2.more_le (fun b hb => hb) (Nat.le_max_right _ _))
mutual
theorem sheG (I : Inv X pins σ H s) : ∀ (d : PyData) {v : V} {u : Value}, DpG X.K H v d → RelV v u → d.showable = true → d.shown.length ≤ sizeLine → ShE X.prog X.w s.heap u d
  | .none, _, _, h, r, _, _ => by
    cases h; cases r
    exact ⟨⟨_, .none⟩, [], (fun _ z => nomatch z), by simp only [PyData.shown]; exact .of_is ReprIs.none _ _ _⟩
  | .bool b, _, _, h, r, _, _ => by
    cases h; cases r
    exact ⟨⟨_, .bool b⟩, [], (fun _ z => nomatch z), by simp only [PyData.shown]; exact .of_is (ReprIs.bool b) _ _ _⟩
  | .int i, _, _, h, r, g, _ => by
    cases h; obtain ⟨t, rfl⟩ := r
    exact ⟨⟨_, .int i t⟩, [], (fun _ z => nomatch z), by simp only [PyData.shown]; exact .of_is (ReprIs.int t (by simpa [PyData.showable] using g)) _ _ _⟩
  | .str x, _, _, h, r, _, z => by
    cases h; obtain ⟨t, rfl⟩ := r
    exact ⟨⟨_, .str x t⟩, [], (fun _ z => nomatch z), by simp only [PyData.shown]; exact .of_is (ReprIs.str x t (by simpa only [PyData.shown] using z)) _ _ _⟩
  | .list xs, _, _, h, r, g, z => by
    cases h with
    | lst hs ha =>
      rename_i a ys
      cases r
      obtain ⟨its, rv, ⟨o, n, ho, hc, _, hd⟩, _⟩ := I.list hs
      have hz : (listText (PyData.shownAll xs)).length ≤ sizeLine := by simpa only [PyData.shown] using z
      obtain ⟨⟨as, ra⟩, bs, hb, hk⟩ := sheGA I xs ha rv (by simpa [PyData.showable] using g) fun t ht => Nat.le_trans (listText_mem_le ht) hz
      have rr : Reads s.heap (.ref a) (.list xs) _ := .list ho hc hd ra
      have out : a ∉ bs := not_mem_of_deeper rr (by simp only [PyData.depth]; omega) hb
      refine ⟨⟨_, rr⟩, a :: bs, ReadAtMost.cons rr (by simp only [PyData.depth]; omega) hb, ?_⟩
      simp only [PyData.depth, PyData.shown]
      cases its with
      | nil =>
        have ra' : ReadsAll s.heap [] xs as := ra
        cases ra'
        simp only [PyData.shownAll, listText_nil]
        exact ReprK.listEmpty ho hc hd
      | cons x l => exact ReprK.list ho hc hd out (by simpa using hk.length_eq) fun i y e => hk.item i y (by simpa using e)
  | .tuple xs, _, _, h, r, g, z => by
    cases h with
    | tup hs ha =>
      rename_i a ys
      cases r
      obtain ⟨its, rv, ⟨o, ho, hc, n, hd⟩, _⟩ := I.tuple hs
      have hz : (tupleText (PyData.shownAll xs)).length ≤ sizeLine := by simpa only [PyData.shown] using z
      obtain ⟨⟨as, ra⟩, bs, hb, hk⟩ := sheGA I xs ha rv (by simpa [PyData.showable] using g) fun t ht => Nat.le_trans (tupleText_mem_le ht) hz
      have rr : Reads s.heap (.ref a) (.tuple xs) _ := .tuple ho hc hd ra
      have out : a ∉ bs := not_mem_of_deeper rr (by simp only [PyData.depth]; omega) hb
      refine ⟨⟨_, rr⟩, a :: bs, ReadAtMost.cons rr (by simp only [PyData.depth]; omega) hb, ?_⟩
      simp only [PyData.depth, PyData.shown]
      exact ReprK.tuple ho hc hd out hk
  | .dict ks, _, _, h, r, g, z => by
    cases h with
    | dic hs hk0 =>
      rename_i a ys
      cases r
      obtain ⟨_, ns, us, kv, o, es, ep, ho, hx, hd, _, hp, _⟩ := dk_rd I.hok hs
      have hz : (dictText (PyData.shownKv ks)).length ≤ sizeLine := by simpa only [PyData.shown] using z
      obtain ⟨g1, g2⟩ := PyData.showableKv_split ks (by simpa [PyData.showable] using g)
      obtain ⟨⟨a1, q1⟩, b1, hb1, k1⟩ := keys_of hp kv hk0 g1 fun t ht => let ⟨p, hp, hl⟩ := PyData.shownKv_key_le ks t ht; Nat.le_trans hl (Nat.le_trans (dictText_mem_le hp) hz)
      obtain ⟨⟨a2, q2⟩, b2, hb2, k2⟩ := sheGK I ks hk0 hp kv g2 fun t ht => let ⟨p, hp, hl⟩ := PyData.shownKv_val_le ks t ht; Nat.le_trans hl (Nat.le_trans (dictText_mem_le hp) hz)
      have rr : Reads s.heap (.ref a) (.dict ks) (a :: a1 ++ a2) := .dict ho hx.1 hd q1 q2
      have hb : ReadAtMost s.heap (PyData.depthKv ks) (b1 ++ b2) := (hb1.mono (PyData.depthAll_keys_le ks)).append (hb2.mono (PyData.depthAll_vals_le ks))
      have out : a ∉ b1 ++ b2 := not_mem_of_deeper rr (by simp only [PyData.depth]; omega) hb
      refine ⟨⟨_, rr⟩, a :: (b1 ++ b2), ReadAtMost.cons rr (by simp only [PyData.depth]; omega) hb, ?_⟩
      simp only [PyData.depth, PyData.shown, PyData.shownKv_eq]
      exact ReprK.dict ho hx.1 hd ns out (ReprEntriesK.of_two es.toList _ _ (k1.more_le (fun b hb => List.mem_append_left _ hb) (PyData.depthAll_keys_le ks)) (k2.more_le (fun b hb => List.mem_append_right _ hb) (PyData.depthAll_vals_le ks)))
    | dicB hs ob hk0 =>
      rename_i a od e ep b w
      cases r
      obtain ⟨hx, ns, hd, ek, rv⟩ := ob
      obtain ⟨ho, _⟩ := I.hok a _ hs
      have hz : (dictText (PyData.shownKv ks)).length ≤ sizeLine := by simpa only [PyData.shown] using z
      obtain ⟨g1, g2⟩ := PyData.showableKv_split ks (by simpa [PyData.showable] using g)
      obtain ⟨⟨⟨a2, q2⟩, b2, hb2, k2⟩, e1⟩ := sheGB I ks hk0 rv g2 fun t ht => let ⟨p, hp, hl⟩ := PyData.shownKv_val_le ks t ht; Nat.le_trans hl (Nat.le_trans (dictText_mem_le hp) hz)
      have q1 : ∃ a1, ReadsAll s.heap ([e].map (·.key)) (ks.map (·.1)) a1 := ⟨_, by rw [e1, List.map_cons, ek]; exact .cons (.bool b) .nil⟩
      obtain ⟨a1, q1⟩ := q1
      have k1 : ReprAllK X.prog X.w [] s.heap (PyData.depthAll (ks.map (·.1))) ([e].map (·.key)) (PyData.shownAll (ks.map (·.1))) := by
        rw [e1, List.map_cons, ek]
        simp only [List.map_nil, PyData.shownAll]
        exact .cons (by simp only [PyData.shown]; exact .of_is (ReprIs.bool b) _ _ _) .nil
      have rr : Reads s.heap (.ref a) (.dict ks) (a :: a1 ++ a2) := .dict ho hx.1 hd q1 q2
      have hb : ReadAtMost s.heap (PyData.depthKv ks) b2 := hb2.mono (PyData.depthAll_vals_le ks)
      have out : a ∉ b2 := not_mem_of_deeper rr (by simp only [PyData.depth]; omega) hb
      refine ⟨⟨_, rr⟩, a :: b2, ReadAtMost.cons rr (by simp only [PyData.depth]; omega) hb, ?_⟩
      simp only [PyData.depth, PyData.shown, PyData.shownKv_eq]
      exact ReprK.dict ho hx.1 hd ns out (ReprEntriesK.of_two [e] _ _ (k1.more_le (fun b hb => absurd hb List.not_mem_nil) (PyData.depthAll_keys_le ks)) (k2.more_le (fun b hb => hb) (PyData.depthAll_vals_le ks)))
theorem sheGB (I : Inv X pins σ H s) : ∀ (ks : List (PyData × PyData)) {b : Bool} {v : V} {u : Value}, DpGB X.K H b v ks → RelV v u →
    PyData.showableAll (ks.map (·.2)) = true → (∀ t ∈ PyData.shownAll (ks.map (·.2)), t.length ≤ sizeLine) → ShEA X.prog X.w s.heap [u] (ks.map (·.2)) ∧ ks.map (·.1) = [.bool b]
  | [], _, _, _, h, _, _, _ => by cases h
  | (k, d) :: ks, _, _, _, h, r, g, z => by
    cases h with
    | mk h1 =>
      have g' : d.showable = true := by simpa [PyData.showableAll] using g
      obtain ⟨⟨a1, q1⟩, b1, hb1, k1⟩ := sheG I d h1 r g' (z _ (by simp only [List.map_cons, PyData.shownAll]; exact List.mem_cons_self))
      refine ⟨⟨⟨_, .cons q1 .nil⟩, b1, fun b hm => ?_, ?_⟩, rfl⟩
      · simp only [List.map_cons, List.map_nil, PyData.depthAll]
        obtain ⟨d', as', r', hd'⟩ := hb1 b hm
        exact ⟨d', as', r', Nat.le_trans hd' (Nat.le_max_left _ _)⟩
      · simp only [List.map_cons, List.map_nil, PyData.depthAll, PyData.shownAll]
        exact .cons (k1.level_le (Nat.le_max_left _ _)) .nil
theorem sheGA (I : Inv X pins σ H s) : ∀ (ds : List PyData) {vs : List V} {us : List Value}, DpGA X.K H vs ds → Vals vs us → PyData.showableAll ds = true → (∀ t ∈ PyData.shownAll ds, t.length ≤ sizeLine) → ShEA X.prog X.w s.heap us ds
  | [], _, _, h, r, _, _ => by
    cases h; cases r
    exact ⟨⟨_, .nil⟩, [], (fun _ z => nomatch z), by simp only [PyData.shownAll]; exact .nil⟩
  | d :: ds, _, _, h, r, g, z => by
    cases h with
    | cons h1 h2 =>
      cases r with
      | cons r1 r2 =>
        have g' : d.showable = true ∧ PyData.showableAll ds = true := by simpa [PyData.showableAll] using g
        obtain ⟨⟨a1, q1⟩, b1, hb1, k1⟩ := sheG I d h1 r1 g'.1 (z _ (by simp only [PyData.shownAll]; exact List.mem_cons_self))
        obtain ⟨⟨a2, q2⟩, b2, hb2, k2⟩ := sheGA I ds h2 r2 g'.2 fun t ht => z t (by simp only [PyData.shownAll]; exact List.mem_cons_of_mem _ ht)
        refine ⟨⟨_, .cons q1 q2⟩, b1 ++ b2, fun b hm => ?_, ?_⟩
        · simp only [PyData.depthAll]
          rcases List.mem_append.mp hm with hm | hm
          · obtain ⟨d', as', r', hd'⟩ := hb1 b hm
            exact ⟨d', as', r', Nat.le_trans hd' (Nat.le_max_left _ _)⟩
          · obtain ⟨d', as', r', hd'⟩ := hb2 b hm
            exact ⟨d', as', r', Nat.le_trans hd' (Nat.le_max_right _ _)⟩
        · simp only [PyData.depthAll, PyData.shownAll]
          exact .cons ((k1.more fun b hb => List.mem_append_left _ hb).level_le (Nat.le_max_left _ _)) (k2.more_le (fun b hb => List.mem_append_right _ hb) (Nat.le_max_right _ _))
theorem sheGK (I : Inv X pins σ H s) : ∀ (ks : List (PyData × PyData)) {es : List DictEntry} {us : List (Key × Value)} {xs : List (Key × V)}, DpGK X.K H xs ks → Pairs (mixKind X.prog X.w) es us → KV xs us →
    PyData.showableAll (ks.map (·.2)) = true → (∀ t ∈ PyData.shownAll (ks.map (·.2)), t.length ≤ sizeLine) → ShEA X.prog X.w s.heap (es.map (·.val)) (ks.map (·.2))
  | [], _, _, _, h, p, r, _, _ => by
    cases h; cases r; cases p
    exact ⟨⟨_, .nil⟩, [], (fun _ z => nomatch z), by simp only [List.map_nil, PyData.shownAll]; exact .nil⟩
  | (k, d) :: ks, _, _, _, h, p, r, g, z => by
    cases h with
    | cons h1 h2 =>
      cases r with
      | cons r1 r2 =>
        cases p with
        | cons p1 p2 p3 =>
          have g' : d.showable = true ∧ PyData.showableAll (ks.map (·.2)) = true := by simpa [PyData.showableAll] using g
          obtain ⟨⟨a1, q1⟩, b1, hb1, k1⟩ := sheG I d h1 r1.2 g'.1 (z _ (by simp only [List.map_cons, PyData.shownAll]; exact List.mem_cons_self))
          obtain ⟨⟨a2, q2⟩, b2, hb2, k2⟩ := sheGK I ks h2 p3 r2 g'.2 fun t ht => z t (by simp only [List.map_cons, PyData.shownAll]; exact List.mem_cons_of_mem _ ht)
          rw [← p2] at q1 k1
          refine ⟨⟨_, .cons q1 q2⟩, b1 ++ b2, fun b hm => ?_, ?_⟩
          · simp only [List.map_cons, PyData.depthAll]
            rcases List.mem_append.mp hm with hm | hm
            · obtain ⟨d', as', r', hd'⟩ := hb1 b hm
              exact ⟨d', as', r', Nat.le_trans hd' (Nat.le_max_left _ _)⟩
            · obtain ⟨d', as', r', hd'⟩ := hb2 b hm
              exact ⟨d', as', r', Nat.le_trans hd' (Nat.le_max_right _ _)⟩
          · simp only [List.map_cons, PyData.depthAll, PyData.shownAll]
            exact .cons ((k1.more fun b hb => List.mem_append_left _ hb).level_le (Nat.le_max_left _ _)) (k2.more_le (fun b hb => List.mem_append_right _ hb) (Nat.le_max_right _ _))
end
theorem topG (I : Inv X pins σ H s) : ∀ (d : PyData) {a : Addr}, DpG X.K H (.ref a) d → d.showable = true → d.shown.length ≤ sizeLine → ∃ T idr, ShowsBy X.prog X.w s.heap a d T idr
  | .list xs, a, h, g, z => by
    cases h with
    | lst hs ha =>
      obtain ⟨its, rv, ⟨o, n, ho, hc, _, hd⟩, _⟩ := I.list hs
      have hz : (listText (PyData.shownAll xs)).length ≤ sizeLine := by simpa only [PyData.shown] using z
      obtain ⟨⟨as, ra⟩, bs, hb, hk⟩ := sheGA I xs ha rv (by simpa [PyData.showable] using g) fun t ht => Nat.le_trans (listText_mem_le ht) hz
      have rr : Reads s.heap (.ref a) (.list xs) _ := .list ho hc hd ra
      have out : a ∉ bs := not_mem_of_deeper rr (by simp only [PyData.depth]; omega) hb
      refine ⟨"list", "list.__repr__", F.slot_list_repr.toG, F.slot_list_str, F.slot_list_format, fun s' hk0 => ⟨o, hk0 _ _ ho, hc⟩, fun A E s' Q hg hu hk0 hQ => ?_⟩
      simp only [PyData.depth] at hu
      simp only [PyData.shown] at hQ
      cases its with
      | nil =>
        have ra' : ReadsAll s.heap [] xs as := ra
        cases ra'
        simp only [PyData.shownAll, listText_nil] at hQ
        exact call_list_repr_empty ⟨o, hk0 _ _ ho, hc⟩ (hk0 _ _ ho) hd (hQ s'.heap _ _ fun _ _ e => e)
      | cons x l => exact call_list_reprK ho hc hd out (by simpa using hk.length_eq) (fun i y e => hk.item i y (by simpa using e)) hg (fun b _ => Clear.nil b) hu hk0 hQ hz
  | .tuple xs, a, h, g, z => by
    cases h with
    | tup hs ha =>
      obtain ⟨its, rv, ⟨o, ho, hc, n, hd⟩, _⟩ := I.tuple hs
      have hz : (tupleText (PyData.shownAll xs)).length ≤ sizeLine := by simpa only [PyData.shown] using z
      obtain ⟨⟨as, ra⟩, bs, hb, hk⟩ := sheGA I xs ha rv (by simpa [PyData.showable] using g) fun t ht => Nat.le_trans (tupleText_mem_le ht) hz
      have rr : Reads s.heap (.ref a) (.tuple xs) _ := .tuple ho hc hd ra
      have out : a ∉ bs := not_mem_of_deeper rr (by simp only [PyData.depth]; omega) hb
      refine ⟨"tuple", "tuple.__repr__", F.slot_tuple_repr, F.slot_tuple_str, F.slot_tuple_format, fun s' hk0 => ⟨o, hk0 _ _ ho, hc⟩, fun A E s' Q hg hu hk0 hQ => ?_⟩
      simp only [PyData.depth] at hu
      simp only [PyData.shown] at hQ
      exact call_tuple_reprK ho hc hd out hk hg (fun b _ => Clear.nil b) hu hk0 hQ hz
  | .dict ks, a, h, g, z => by
    cases h with
    | dic hs hk0 =>
      obtain ⟨_, ns, us, kv, o, es, ep, ho, hx, hd, _, hp, _⟩ := dk_rd I.hok hs
      have hz : (dictText (PyData.shownKv ks)).length ≤ sizeLine := by simpa only [PyData.shown] using z
      obtain ⟨g1, g2⟩ := PyData.showableKv_split ks (by simpa [PyData.showable] using g)
      obtain ⟨⟨a1, q1⟩, b1, hb1, k1⟩ := keys_of hp kv hk0 g1 fun t ht => let ⟨p, hp, hl⟩ := PyData.shownKv_key_le ks t ht; Nat.le_trans hl (Nat.le_trans (dictText_mem_le hp) hz)
      obtain ⟨⟨a2, q2⟩, b2, hb2, k2⟩ := sheGK I ks hk0 hp kv g2 fun t ht => let ⟨p, hp, hl⟩ := PyData.shownKv_val_le ks t ht; Nat.le_trans hl (Nat.le_trans (dictText_mem_le hp) hz)
      have rr : Reads s.heap (.ref a) (.dict ks) (a :: a1 ++ a2) := .dict ho hx.1 hd q1 q2
      have hb : ReadAtMost s.heap (PyData.depthKv ks) (b1 ++ b2) := (hb1.mono (PyData.depthAll_keys_le ks)).append (hb2.mono (PyData.depthAll_vals_le ks))
      have out : a ∉ b1 ++ b2 := not_mem_of_deeper rr (by simp only [PyData.depth]; omega) hb
      refine ⟨"dict", "dict.__repr__", F.slot_dict_repr, F.slot_dict_str, F.slot_dict_format, fun s' hk0 => ⟨o, hk0 _ _ ho, hx.1⟩, fun A E s' Q hg hu hk0 hQ => ?_⟩
      simp only [PyData.depth] at hu
      simp only [PyData.shown, PyData.shownKv_eq] at hQ
      exact call_dict_reprK ho hx.1 hd ns out (ReprEntriesK.of_two es.toList _ _ (k1.more_le (fun b hb => List.mem_append_left _ hb) (PyData.depthAll_keys_le ks)) (k2.more_le (fun b hb => List.mem_append_right _ hb) (PyData.depthAll_vals_le ks)))
        hg (fun b _ => Clear.nil b) hu hk0 hQ (by rw [← PyData.shownKv_eq]; exact hz)
    | dicB hs ob hk0 =>
      rename_i od e ep b w
      obtain ⟨hx, ns, hd, ek, rv⟩ := ob
      obtain ⟨ho, _⟩ := I.hok a _ hs
      have hz : (dictText (PyData.shownKv ks)).length ≤ sizeLine := by simpa only [PyData.shown] using z
      obtain ⟨g1, g2⟩ := PyData.showableKv_split ks (by simpa [PyData.showable] using g)
      obtain ⟨⟨⟨a2, q2⟩, b2, hb2, k2⟩, e1⟩ := sheGB I ks hk0 rv g2 fun t ht => let ⟨p, hp, hl⟩ := PyData.shownKv_val_le ks t ht; Nat.le_trans hl (Nat.le_trans (dictText_mem_le hp) hz)
      have q1 : ∃ a1, ReadsAll s.heap ([e].map (·.key)) (ks.map (·.1)) a1 := ⟨_, by rw [e1, List.map_cons, ek]; exact .cons (.bool b) .nil⟩
      obtain ⟨a1, q1⟩ := q1
      have k1 : ReprAllK X.prog X.w [] s.heap (PyData.depthAll (ks.map (·.1))) ([e].map (·.key)) (PyData.shownAll (ks.map (·.1))) := by
        rw [e1, List.map_cons, ek]
        simp only [List.map_nil, PyData.shownAll]
        exact .cons (by simp only [PyData.shown]; exact .of_is (ReprIs.bool b) _ _ _) .nil
      have rr : Reads s.heap (.ref a) (.dict ks) (a :: a1 ++ a2) := .dict ho hx.1 hd q1 q2
      have hb : ReadAtMost s.heap (PyData.depthKv ks) b2 := hb2.mono (PyData.depthAll_vals_le ks)
      have out : a ∉ b2 := not_mem_of_deeper rr (by simp only [PyData.depth]; omega) hb
      refine ⟨"dict", "dict.__repr__", F.slot_dict_repr, F.slot_dict_str, F.slot_dict_format, fun s' hk0 => ⟨od, hk0 _ _ ho, hx.1⟩, fun A E s' Q hg hu hk0 hQ => ?_⟩
      simp only [PyData.depth] at hu
      simp only [PyData.shown, PyData.shownKv_eq] at hQ
      exact call_dict_reprK ho hx.1 hd ns out (ReprEntriesK.of_two [e] _ _ (k1.more_le (fun b hb => absurd hb List.not_mem_nil) (PyData.depthAll_keys_le ks)) (k2.more_le (fun b hb => hb) (PyData.depthAll_vals_le ks)))
        hg (fun b _ => Clear.nil b) hu hk0 hQ (by rw [← PyData.shownKv_eq]; exact hz)
  | .none, _, h, _, _ => by cases h
  | .bool _, _, h, _, _ => by cases h
  | .int _, _, h, _, _ => by cases h
  | .str _, _, h, _, _ => by cases h
def rReprG (K : PySem.W.Frag) : List V → Hp → VK → Prop := fun vs H Q => ∃ v d, vs = [v] ∧ DpG K H v d ∧ d.showable = true ∧ d.depth < 60 ∧ d.shown.length ≤ sizeLine ∧ Q (.str d.shown) H
theorem call_reprG (hg : X.A.guards = some []) (hu : X.A.units + 64 < cLine) : CallR X (.builtin "repr") (rReprG X.K) := by
  intro pins s σ H xs us Q I r ⟨v, d, e, hd, h1, h3, h4, q⟩
  subst e
  obtain ⟨u, rfl, rv⟩ := vals1 r
  have top : ∀ a, v = .ref a → wpAny (model X.prog X.w) X.A (call (.builtin "repr") [.ref a]) (EP X pins σ Q) X.xe s := fun a e => by
    subst e
    obtain ⟨T, idr, S⟩ := topG I d hd h1 h4
    have keep : ∀ b o, s.heap.get? b = some o → s.heap.get? b = some o := fun _ _ e => e
    exact call_repr_slot (by omega) (S.typeIs s keep) S.slotRepr (S.call X.A.in1 X.xe s _ hg (by show X.A.units + 1 + d.depth < cLine; omega) keep fun h' u tk hk => ⟨_, _, rfl, .str _, H, I.kept hk, ⟨_, rfl⟩, q⟩)
  cases d with
  | none => cases hd; cases rv; exact PySem.P.repr_of_none ⟨.str _, H, I.tok _, ⟨_, rfl⟩, q⟩
  | bool b => cases hd; cases rv; exact PySem.P.repr_of_bool ⟨.str _, H, I.tok _, ⟨_, rfl⟩, q⟩
  | int i => cases hd; obtain ⟨t, rfl⟩ := rv; exact PySem.P.repr_of_int (of_decide_eq_true h1) ⟨.str _, H, I.tok _, ⟨_, rfl⟩, q⟩
  | str x => cases hd; obtain ⟨t, rfl⟩ := rv; exact PySem.P.repr_of_str ⟨.str _, H, I.tok _, ⟨_, rfl⟩, q⟩ h4
  | list ds =>
    cases v with
    | ref a => cases rv; exact top a rfl
    | _ => cases hd
  | tuple ds =>
    cases v with
    | ref a => cases rv; exact top a rfl
    | _ => cases hd
  | dict ks =>
    cases v with
    | ref a => cases rv; exact top a rfl
    | _ => cases hd
end
end DL
namespace DL
open L2 PySem PyProof.Rows
def fReprCG : DFn := fun ds c R => match ds with
  | [d] => onCel d fun k => ∃ es, c.cs k = some (.lst es) ∧ smG (.lst es) ∧ (pyG (.lst es)).depth < 60 ∧ wg (.lst es) ≤ sizeLine ∧ R (.str (pyG (.lst es)).shown) c
  | _ => False
theorem callD_reprCG {K : PySem.W.Frag} : CallD K (rReprG K) fReprCG := by
  intro as H0 H σ c vs ds R Q ok r h k
  unfold fReprCG at h
  split at h
  · obtain ⟨v, rfl, r1⟩ := rpa1 r
    obtain ⟨j, rfl, es, h0, h1, h2, h3, h4⟩ := onCel_of h
    obtain ⟨p, us, rfl, _, g3, g4⟩ := cell_lst ok r1 h0
    obtain ⟨a2, a4⟩ := shownG h1
    exact ⟨_, _, rfl, .lst (SqL.of g3) (rpGA ok.c.ex (show smGA es from h1) g4), a2, h2, Nat.le_trans a4 h3, k _ _ _ _ _ _ .refl ok (.str _) h4⟩
  · exact h.elim
end DL

/-! for k in a plain dict, in its items -/
namespace DL
open L2 PySem PySem.Spec PyProof.Rows
def iKD (da : DE) : DI := fun c R => da c fun d c1 => onDic d fun kvs => R (kvs.map fun p => kD p.1) c1
def iItD (da : DE) : DI := fun c R => da c fun d c1 => onDic d fun kvs => R (kvs.map fun p => .tup [kD p.1, p.2]) c1
section
variable {K : PySem.W.Frag}
theorem rk_at {as : AsM} {H : Hp} : ∀ {ds : List (Key × D)} {xs : List (Key × V)} {i : Nat} {k : Key} {v : V}, RpK K as H xs ds → xs[i]? = some (k, v) → ∃ d, ds[i]? = some (k, d) ∧ Rp K as H v d
  | [], _, i, k, v, h, e => by cases h; simp at e
  | (k0, d0) :: ds, _, 0, k, v, h, e => by cases h with | cons h1 h2 => simp at e; obtain ⟨rfl, rfl⟩ := e; exact ⟨_, rfl, h1⟩
  | (k0, d0) :: ds, _, i + 1, k, v, h, e => by
    cases h with
    | cons h1 h2 =>
      obtain ⟨d, q, r⟩ := rk_at (i := i) h2 (by simpa using e)
      exact ⟨d, by simpa using q, r⟩
theorem rp_kD {as : AsM} {H : Hp} {k : Key} : Rp K as H (kV k) (kD k) := by cases k with | inl i => exact .int i | inr s => exact .str s
theorem itd_keys {as : AsM} {H0 : Hp} {a : Addr} {od : Obj} {xs : List (Key × V)} {ds : List (Key × D)} (h : H0 a = some (.frz od (.dK xs))) (r : RpK K as H0 xs ds) : ItD K as H0 (Itk a od xs) (ds.map fun p => kD p.1) where
  go := fun as' H0' H cs i l o hi => ⟨o.ex _ _ (l.hp _ _ h), by rw [List.length_map] at hi; rw [r.length]; exact hi⟩
  yld := fun as' H0' H cs i x H' d l o e y => by
    obtain ⟨rfl, k, v, e1, rfl⟩ := y
    obtain ⟨d', e2, _⟩ := rk_at r e1
    rw [List.getElem?_map, e2] at e
    cases e
    exact ⟨H0', .refl, o, rp_kD⟩
  stop := fun as' H0' H cs l o => ⟨o.ex _ _ (l.hp _ _ h), by rw [List.length_map, r.length]; exact Nat.le_refl _⟩
theorem itd_items {as : AsM} {H0 : Hp} {a : Addr} {od : Obj} {xs : List (Key × V)} {ds : List (Key × D)} (h : H0 a = some (.frz od (.dK xs))) (r : RpK K as H0 xs ds) : ItD K as H0 (Iti a od xs) (ds.map fun p => .tup [kD p.1, p.2]) where
  go := fun as' H0' H cs i l o hi => ⟨o.ex _ _ (l.hp _ _ h), by rw [List.length_map] at hi; rw [r.length]; exact hi⟩
  yld := fun as' H0' H cs i x H' d l o e y => by
    obtain ⟨T, k, v, e1, rfl, hT, rfl⟩ := y
    obtain ⟨d', e2, r2⟩ := rk_at r e1
    rw [List.getElem?_map, e2] at e
    cases e
    obtain ⟨l2, o2⟩ := o.grow (o := .tup [kV k, v]) hT
    exact ⟨_, l2, o2, .tup (SqT.of upd_same) (.cons rp_kD (.cons ((r2.mono l).mono l2) .nil))⟩
  stop := fun as' H0' H cs l o => ⟨o.ex _ _ (l.hp _ _ h), by rw [List.length_map, r.length]; exact Nat.le_refl _⟩
end
section
variable {X : Cx} {e tg : Expr} {da : DE}
theorem pdi_keysD (he : PD X e da) : PDI X tg e (iKD da) := ⟨_, pi_keys he, fun σ H Q ⟨as, H0, c, R, ok, q, k⟩ => ⟨as, H0, c, _, ok, q, fun as1 H1 Hn1 c1 v d l1 ok1 r1 q0 => by
  obtain ⟨kvs, rfl, q1⟩ := onDic_of q0
  cases r1 with
  | dic g1 g2 => exact ⟨_, _, rfl, .inl ⟨_, ok1.c.ex _ _ g1, k _ _ _ _ _ _ l1 ok1 (itd_keys g1 g2) q1⟩⟩⟩⟩
theorem pdi_itemsD {elts : List Expr} {kk : Nat} {tpos apos cpos : Pos} (he : PD X e da) (hbase : attributeBase e "items" X.env (eval e X.env) = eval e X.env := by rfl) (hline : (apos.endLine == cpos.line) = true := by rfl) :
    PDI X (.Tuple elts kk tpos) (.Call (.Attribute e "items" apos) [] [] cpos) (iItD da) := ⟨_, pi_items he hbase hline, fun σ H Q ⟨as, H0, c, R, ok, q, k⟩ => ⟨as, H0, c, _, ok, q, fun as1 H1 Hn1 c1 v d l1 ok1 r1 q0 => by
  obtain ⟨kvs, rfl, q1⟩ := onDic_of q0
  cases r1 with
  | dic g1 g2 => exact ⟨_, _, _, rfl, ok1.c.ex _ _ g1, k _ _ _ _ _ _ l1 ok1 (itd_items g1 g2) q1⟩⟩⟩
end
end DL

/-! isinstance(x, (list, tuple)); dict(d) -/
namespace DL
open L2 PySem PySem.Spec PyProof.Rows
/-- where a comprehension's own scope stands -/
def dcSc : Expr → Scope | .DictComp _ _ _ s _ => s | e => lcSc e
def kitBs (t : String) : List String → Option Bool
  | [] => some false
  | n :: ns => match kitB t n, kitBs t ns with
    | some true, some _ => some true
    | some false, some r => some r
    | _, _ => none
theorem kits_ty {K : PySem.W.Frag} {t : String} : ∀ {ns : List String} {r : Bool}, kitBs t ns = some r → PySem.W.kitAny K (.type t) (ns.map Value.type) = some r
  | [], r, h => by cases h; exact kitAny_nil
  | n :: ns, r, h => by
    unfold kitBs at h
    cases h1 : kitB t n with
    | none => rw [h1] at h; cases h
    | some b =>
      cases h2 : kitBs t ns with
      | none => rw [h1, h2] at h; cases b <;> cases h
      | some r2 =>
        rw [h1, h2] at h
        refine kitAny_cons (b := b) (kit_ty h1) (fun e => ?_) fun e => ?_
        · subst e; cases h; exact kits_ty h2
        · subst e; cases h; rfl
def dIsiT (ns : List String) (da : DE) : DE := fun c R => da c fun d c1 => ∃ t b, tyN d = some t ∧ kitBs t ns = some b ∧ R (.bl b) c1
section
variable {X : Cx} {K : PySem.W.Frag} {p pos tpos : Pos} {tk : Nat} {e : Expr} {es : List Expr} {da : DE} {ns : List String}
theorem pd_isiT (hI : Gl X "isinstance") (hIm : X.mg "isinstance" = none) (ha : PD X e da) (hc : ClsNs X es (ns.map Value.type)) (few : es.length ≤ 64 := by decide)
    (he0 : starEach [e, .Tuple es tk tpos] X.env = (false, eval e X.env) :: starEach [.Tuple es tk tpos] X.env := by rfl) (he1 : starEach [.Tuple es tk tpos] X.env = [(false, eval (.Tuple es tk tpos) X.env)] := by rfl) :
    PD X (.Call (.Name "isinstance" p) [e, .Tuple es tk tpos] [] pos) (dIsiT ns da) := by
  obtain ⟨vs, hps, hcs, hl⟩ := hc.ex
  have pe := pe_callB (pos := pos) (p := p) (call_isiT (X := X)) hI hIm (by decide +kernel) (pa_cons ha (pa_cons (pe_tup hps) pa_nil he1) he0) (he := he0) (hpl := by
    show ((backTo pos (starEach [.Tuple es tk tpos] X.env)).any (·.1)) = false
    rw [he1]; rfl)
  refine pe_imp pe fun σ H Q ⟨as, H0, c, R, ok, q, k⟩ => ⟨as, H0, c, _, ok, q, fun as1 H1 Hn1 c1 u d l1 ok1 r1 ⟨t, b, h1, h2, q1⟩ => ?_⟩
  refine ⟨by rw [hl, sizeLine_eq]; omega, fun tp htp => ?_⟩
  obtain ⟨l2, ok2⟩ := new_known (o := .tup vs) ok1 htp
  exact ⟨u, tp, vs, .type t, ns.map Value.type, b, rfl, upd_same, hcs, tyx_of ok2.c.ex (r1.mono l2) h1, kits_ty h2, k _ _ _ _ _ _ (l1.trans l2) ok2 (.bl b) q1⟩
/-- dict(d), d a plain one -/
def fDictD : DFn := fun ds c R => match ds with | [.dic kvs] => R (.dic kvs) c | _ => False
def rDictD (K : PySem.W.Frag) : List V → Hp → VK → Prop := fun xs H Q => ∃ (a : Addr) (kvs : List (Key × V)), xs = [.ref a] ∧ Rd H a (.dK kvs) ∧ ∀ p, H p = none → ∀ od, Q (.ref p) (upd H p (.frz od (.dK kvs)))
theorem cr_dictD : CallR X (.type "dict") (rDictD X.K) := by
  intro pins s σ H xs us Q I rv ⟨a, kvs, e, h1, h3⟩
  exact callR_frz call_dictD pins s σ H xs us Q I rv ⟨a, kvs, e, h1, fun p hp => ⟨p, _, rfl, upd_same, True.intro, fun od => by rw [upd_upd]; exact h3 p hp od⟩⟩
theorem callD_dictD : CallD K (rDictD K) fDictD := by
  intro as H0 H σ c vs ds R Q ok r h k
  unfold fDictD at h
  split at h
  · obtain ⟨v, rfl, r1⟩ := rpa1 r
    cases r1 with
    | dic g1 g2 =>
      refine ⟨_, _, rfl, .inr ⟨_, ok.c.ex _ _ g1⟩, fun p hp od => ?_⟩
      obtain ⟨l, ok2⟩ := new_known (o := .frz od (.dK _)) ok hp
      exact k _ _ _ _ _ _ l ok2 (.dic upd_same (g2.mono l)) h
  · exact h.elim
end
end DL

/-! C(.., x=..) that may raise; a raising value into a field; a field as a target -/
namespace DL
open L2 PySem PySem.Spec PyProof.Rows
def dMakeKX (cls : Str) (N m : Nat) (sem : SemX) (gD : List D → List D → List D) (dr dk : DA) : DEX := fun XX c R => dr c fun ds c1 => dk c1 fun es c2 => es.length = m ∧ ∀ k, c2.cs k = none →
  (D.cel k :: ds).length = N ∧ sem (gD (D.cel k :: ds) es) (put c2.cs k (.ins cls [])) (fun d cs' => d = .non ∧ R (.cel k) { c2 with cs := cs' }) fun x cs' => XX x { c2 with cs := cs' }
section
variable {X : Cx} {k N : Nat} {f C : Addr} {fd : FuncData} {ps ks : List Str} {sem : SemX} {gD : List D → List D → List D} {n x : Str} {p pos : Pos} {e : Expr} {es : List Expr} {kws : List Keyword} {dr dk : DA}
theorem run_makeKX {W : WX} (tk : Takes X W) {pins : List (Addr × Obj)} {σ : L2.St} {H : Hp} {s : Shared} {Q : VK} {us ws : List Value} {vs zs : List V} {as : AsM} {H0 : Hp} {c : Z} {ds es : List D} {R : D → Z → Prop} {XX : DX → Z → Prop} (M : MkK X.K n C f)
    (F : FnG X.prog X.w X.K X.mg X.base (L2.CX X.prog X.w) k f fd ps (FnDX X.K X.mg sem)) (hgd : X.A.guards = some []) (hr : Room (k + 1) X.A) (hb : Bnd X.K fd ps N ks gD) (I : Inv X pins σ H s) (r : Vals vs us) (rz : Vals zs ws) (ok : Ok X.K as H0 H σ c) (rd : RpA X.K as H0 vs ds) (re : RpA X.K as H0 zs es) (le : es.length = ks.length)
    (h : ∀ k, c.cs k = none → (D.cel k :: ds).length = N ∧ sem (gD (D.cel k :: ds) es) (put c.cs k (.ins n [])) (fun d cs' => d = .non ∧ R (.cel k) { c with cs := cs' }) fun x cs' => XX x { c with cs := cs' }) (tie : Tie X.K X.mg as H0 XX W)
    (q : ∀ as' H0' H' c' v d, Le as H0 as' H0' → Ok X.K as' H0' H' σ c' → Rp X.K as' H0' v d → R d c' → Q v H') : wpAny (model X.prog X.w) X.A (call (.ref C) us (ks.zip ws)) (EP X pins σ Q) X.xe s := by
  have f1 : H (s.heap.objs.size + 1) = none := I.hok.fresh (Nat.le_succ _)
  have f2 : H s.heap.objs.size = none := I.hok.fresh (Nat.le_refl _)
  have ne : s.heap.objs.size + 1 ≠ s.heap.objs.size := Nat.ne_of_gt (Nat.lt_succ_self _)
  obtain ⟨l1, ok1⟩ := new_known (o := .own (s.heap.objs.size + 1)) ok f2
  have f3 : upd H s.heap.objs.size (.own (s.heap.objs.size + 1)) (s.heap.objs.size + 1) = none := by rw [upd_ne ne]; exact f1
  obtain ⟨j, as2, nj, l2, ok2, rj⟩ := new_cell (o := .ins n []) (u := .ins C s.heap.objs.size []) ok1 f3 (.ins M.1 .nil)
  obtain ⟨z1, z2⟩ := h j nj
  have I2 := Inv.made (C := C) I
  obtain ⟨g, to, rel⟩ := hb.bd
  have hl : (V.ref (s.heap.objs.size + 1) :: vs).length = N := by rw [List.length_cons, rd.length]; exact z1
  obtain ⟨vs', rv, rd'⟩ := rel (vs := .ref (s.heap.objs.size + 1) :: vs) (us := .ref (s.heap.objs.size + 1) :: us) hl (re.length.trans le) (.cons rfl r) (.cons rj (rd.mono (l1.trans l2))) rz (re.mono (l1.trans l2))
  have sp : FnDX X.K X.mg sem vs' (upd (upd H s.heap.objs.size (.own (s.heap.objs.size + 1))) (s.heap.objs.size + 1) (.ins C s.heap.objs.size [])) (fun v H2 => v = .non ∧ Q (.ref (s.heap.objs.size + 1)) H2) (WE W σ) :=
    ⟨as2, _, _, _, _, _, ok2.c, rd', z2, fun as' H0' H' cs' v d l oc rp ⟨e1, hq⟩ => by
      subst e1
      cases rp
      exact ⟨rfl, q as' H0' H' { c with cs := cs' } _ _ ((l1.trans l2).trans l) ⟨oc, ok.e.mono ((l1.trans l2).trans l)⟩ (rj.mono l) hq⟩,
     fun as' H0' H' cs' x d C l oc xd hm hq => tie as' H0' H' σ { c with cs := cs' } x d C ((l1.trans l2).trans l) ⟨oc, ok.e.mono ((l1.trans l2).trans l)⟩ xd hm hq⟩
  refine wpAny_call (make_map (f := f) I.kIn M.2.makes M.2.init (beq_iff_eq.mp M.2.fn) (codeAny_mono (F.run _ X.stack _ _ _ _ vs' _ (WE W σ) (by first | exact hgd | simpa [Around.under] using hgd) (hr.make C us (ks.zip ws))
    (I2.env0.make C us (ks.zip ws)) (to _ (.ref (s.heap.objs.size + 1) :: us) ws I2.kIn (by rw [List.length_cons, ← r.length, ← hl]; rfl) (by rw [← rz.length, re.length, le])) rv sp) fun res s' hq' => ?_))
  cases res with
  | error e => exact passAt tk σ pins _ _ e s' I2 hq'
  | ok fl =>
    cases fl with
    | ret u =>
      obtain ⟨v, H', I3, rv2, ev, q3⟩ := I2.after hq'
      subst ev
      exact ⟨rv2, ⟨V.ref (s.heap.objs.size + 1), H', I3, rfl, q3⟩⟩
    | _ => exact False.elim hq'
theorem pdx_makeK (M : MkK X.K n C f) (F : FnG X.prog X.w X.K X.mg X.base (L2.CX X.prog X.w) k f fd ps (FnDX X.K X.mg sem)) (hgd : X.A.guards = some []) (hr : Room (k + 1) X.A) (hg : Gl X x) (hm : X.mg x = some (.ref C)) (hb : Bnd X.K fd ps N ks gD)
    (ha : PDA X (e :: es) dr) (hkw : PK X kws (liftA X.K dk)) (hall : (backToKw pos (keywordEach kws X.env)).all (·.1.isSome) = true := by rfl) (hks : (backToKw pos (keywordEach kws X.env)).filterMap (·.1) = ks := by rfl)
    (hdb : (x == ("__debug__" : Str)) = false := by decide) (he : starEach (e :: es) X.env = (false, eval e X.env) :: starEach es X.env := by rfl)
    (hpl : ((backTo pos (starEach (e :: es) X.env)).any (·.1) || (backToKw pos (keywordEach kws X.env)).any (·.1.isNone)) = false := by rfl) :
    PDX X (.Call (.Name x p) (e :: es) kws pos) (dMakeKX n N ks.length sem gD dr dk) := by
  intro W tk
  refine ⟨fun pins s σ H Q I ⟨as, H0, c, R, XX, ok, q, tie, kk⟩ => ?_⟩
  refine wpAny_Call_Name_kw (ld_glob I hg hm ?_ hdb)
  have arg : liftA X.K dr σ H fun vs H1 => liftA X.K dk σ H1 fun zs H2 => ∃ as2 H02 c2 ds es, Le as H0 as2 H02 ∧ Ok X.K as2 H02 H2 σ c2 ∧ RpA X.K as2 H02 vs ds ∧ RpA X.K as2 H02 zs es ∧ es.length = ks.length ∧
      ∀ k, c2.cs k = none → (D.cel k :: ds).length = N ∧ sem (gD (D.cel k :: ds) es) (put c2.cs k (.ins n [])) (fun d cs' => d = .non ∧ R (.cel k) { c2 with cs := cs' }) fun x cs' => XX x { c2 with cs := cs' } :=
    ⟨as, H0, c, _, ok, q, fun as1 H1 Hn c1 vs ds l1 ok1 r1 q1 => ⟨as1, H1, c1, _, ok1, q1, fun as2 H2 Hn2 c2 zs es l2 ok2 r2 ⟨z1, z2⟩ => ⟨as2, H2, c2, ds, es, l1.trans l2, ok2, r1.mono l2, r2, z1, z2⟩⟩⟩
  refine PySem.W.callWith_KW (h₀ := X.base) I.ok.mod.kin M.2.kp hall (thn (ha.run pos pins s σ H _ I arg) fun us s1 ⟨vs, H1, I1, r, q1⟩ => ?_) hpl he
  refine thn (hkw.run pos pins s1 σ H1 _ I1 q1) fun ws s2 ⟨zs, H2, I2, rz, as2, H02, c2, ds, es, l2, ok2, rd, re, z1, z2⟩ => ⟨I2.kIn, ?_⟩
  rw [hks]
  exact run_makeKX tk M F hgd hr hb I2 r rz ok2 rd re z1 z2 (tie.mono l2) fun _ _ _ _ _ _ l ok' rp hq => kk _ _ _ _ _ _ (l2.trans l) ok' rp hq
end
/-! x.f = a raising call -/
def sFldDX (n : Str) (da : DE) (dv : DEX) (f : Str) : DS := fun DD c => dv DD.xx c fun y c1 => da c1 fun x c2 => onCel x fun k => ∃ fs, c2.cs k = some (.ins n fs) ∧ fs.length < 1000 ∧ DD.nx { c2 with cs := put c2.cs k (.ins n (putFD f y fs)) }
theorem pds_fldX {X : Cx} {o value : Expr} {da : DE} {dv : DEX} {n f : Str} {pos pos' : Pos} (ha : PD X o da) (hv : PDX X value dv) (hk : FldK X.K n f) (hs : swapsWith value (some (.Attribute o f pos')) pos.line X.env = pure false) : PDS X (.Assign [.Attribute o f pos'] value pos) (sFldDX n da dv f) :=
  fun W tk => ps_imp (ps_fld ha (hv W tk) hs) fun Dn σ H ⟨as, H0, c, DD, ok, q, k⟩ => ⟨as, H0, c, _, _, ok, q, k.xx, fun as1 H1 Hn1 c1 y d l1 ok1 r1 q1 => ⟨as1, H1, c1, _, ok1, q1, fun as2 H2 Hn2 c2 v d2 l2 ok2 r2 q2 => by
    obtain ⟨j, rfl, fs, h1, h2, h3⟩ := onCel_of q2
    obtain ⟨p, C, dx, vs, rfl, hp1, hp, hc, pr⟩ := cell_ins ok2 r2 h1
    obtain ⟨k1, k2⟩ := hk C hc
    have pr' := ins_put (f := f) (r1.mono l2) pr
    exact ⟨p, C, dx, vs, rfl, hp, k1, k2, by rw [ins_len pr]; exact h2, k.nx _ _ _ _ _ (l1.trans l2) (cell_set ok2 h1 hp1 (.ins hc pr')) h3⟩⟩⟩
end DL

/-! a field as a target; keywords in an order of their own; a walk over a list or a tuple; a dict within a dict that changes no more -/
namespace DL
open L2 PySem PySem.Spec PyProof.Rows
section
variable {X : Cx} {o tg e : Expr} {da : DE} {to : TE} {n f : Str} {pos : Pos}
def gFldT (K : PySem.W.Frag) (ta : TE) (f : Str) : TG := fun y σ H Q => ta σ H fun x H1 => ∃ a C dx fs, x = .ref a ∧ H1 a = some (.ins C dx fs) ∧ Cls K C ∧ NoAttr K C f ∧ fs.length < 1000 ∧ Q σ (upd H1 a (.ins C dx (putF f y fs)))
theorem pg_fld (ha : PE X o to) : PG X (.Attribute o f pos) (gFldT X.K to f) := by
  refine ⟨fun pins s σ H v u Q I r h => ?_⟩
  rw [PySem.assign_Attribute]
  refine wpAny_bind (wpAny_holding (thn (ha.run pins s σ H _ I h) fun ov s1 ⟨x, H1, I1, rx, a, C, dx, fs, ex, ea, c, n, l, q⟩ => ?_))
  subst ex
  obtain rfl : ov = Value.ref a := rx
  refine wpAny_bind (wpAny_standAt (wpAny_bind (wpAny_holding (setattr_ok I1 ea c n l r fun s2 I2 => ?_))))
  exact wpAny_release ⟨σ, _, I2, q⟩
def gFldD (n : Str) (da : DE) (f : Str) : DG := fun y c R => da c fun x c2 => onCel x fun k => ∃ fs, c2.cs k = some (.ins n fs) ∧ fs.length < 1000 ∧ R { c2 with cs := put c2.cs k (.ins n (putFD f y fs)) }
theorem pdg_fld (ha : PD X o da) (hk : FldK X.K n f) : PDG X (.Attribute o f pos) (gFldD n da f) :=
  pg_imp (pg_fld ha) fun v σ H Q ⟨as, H0, c, d, R, ok, r, q, k⟩ => ⟨as, H0, c, _, ok, q, fun as1 H1 Hn1 c1 v1 d1 l1 ok1 r1 q1 => by
    obtain ⟨j, rfl, fs, h1, h2, h3⟩ := onCel_of q1
    obtain ⟨p, C, dx, vs, rfl, hp1, hp, hc, pr⟩ := cell_ins ok1 r1 h1
    obtain ⟨k1, k2⟩ := hk C hc
    have pr' := ins_put (f := f) (r.mono l1) pr
    exact ⟨p, C, dx, vs, rfl, hp, k1, k2, by rw [ins_len pr]; exact h2, k _ _ _ _ _ l1 (cell_set ok1 h1 hp1 (.ins hc pr')) h3⟩⟩
/-! a list or a tuple -/
def iLTt (K : PySem.W.Frag) (tl : TE) : TI := fun σ H R => tl σ H fun x H1 => ∃ a, x = .ref a ∧ (((∃ xs, SqL K H1 a xs) ∧ R (Itl K a) H1) ∨ ((∃ xs, SqT K H1 a xs) ∧ R (Itt K a) H1))
theorem pi_lt {l : Expr} {tl : TE} (hl : PE X l tl) : PI X tg l (iLTt X.K tl) := by
  refine ⟨fun pins s σ H R I h => ?_⟩
  refine thn (hl.run pins s σ H _ I h) fun v s1 ⟨x, H1, I1, r1, q1⟩ => ?_
  obtain ⟨a, e, ⟨⟨xs, hq⟩, q⟩ | ⟨⟨xs, hq⟩, q⟩⟩ := q1
  · subst e
    cases r1
    obtain ⟨its, rv, p, hz⟩ := I1.list hq
    refine wpAny_pyIter_list p.isList ?_
    refine ⟨s1.heap.objs.size, [s1.heap.objs.size], _, _, H1, rfl, I1.kept (t' := s1.toks) fun b o e => Heap.get?_push_of_some _ e, turn_list a _, ⟨_, Heap.get?_push_size _ rfl, rfl, rfl⟩, fun b hb => ?_, q⟩
    have e : b = s1.heap.objs.size := by simpa using hb
    subst e
    exact I1.fpOk (Nat.le_refl _) (I1.hok.fresh (Nat.le_refl _))
  · subst e
    cases r1
    obtain ⟨its, rv, p, hz⟩ := I1.tuple hq
    refine wpAny_pyIter_tuple (show s1.heap.IsTuple a its.toArray from p) ?_
    refine ⟨s1.heap.objs.size, [s1.heap.objs.size], _, _, H1, rfl, I1.kept (t' := s1.toks) fun b o e => Heap.get?_push_of_some _ e, turn_tuple a _, ⟨_, Heap.get?_push_size _ rfl, rfl, rfl⟩, fun b hb => ?_, q⟩
    have e : b = s1.heap.objs.size := by simpa using hb
    subst e
    exact I1.fpOk (Nat.le_refl _) (I1.hok.fresh (Nat.le_refl _))
def ltD : D → Option (List D) | .lst ds => some ds | .slst ds => some ds | .tup ds => some ds | _ => none
def iLT (da : DE) : DI := fun c R => da c fun d c1 => ∃ ds, ltD d = some ds ∧ R ds c1
theorem pdi_lt (hi : PD X e da) : PDI X tg e (iLT da) := ⟨_, pi_lt hi, fun σ H Q ⟨as, H0, c, R, ok, q, k⟩ => ⟨as, H0, c, _, ok, q, fun as1 H1 Hn1 c1 v d l1 ok1 r1 ⟨ds, e1, q1⟩ => by
  cases r1 with
  | lst g1 g2 => cases e1; exact ⟨_, rfl, .inl ⟨⟨_, SqL.of (ok1.c.ex _ _ g1)⟩, k _ _ _ _ _ _ l1 ok1 (itd_list (SqL.of g1) g2) q1⟩⟩
  | slst g1 g2 => cases e1; exact ⟨_, rfl, .inl ⟨⟨_, seqL_mono ok1.c.ex g1⟩, k _ _ _ _ _ _ l1 ok1 (itd_list g1 g2) q1⟩⟩
  | tup g1 g2 => cases e1; exact ⟨_, rfl, .inr ⟨⟨_, seqT_mono ok1.c.ex g1⟩, k _ _ _ _ _ _ l1 ok1 (itd_tup g1 g2) q1⟩⟩
  | _ => cases e1⟩⟩
end
/-! keywords in an order of their own -/
section
variable {K : PySem.W.Frag} {f : Addr} {fd : FuncData} {ps ks : List Str} {x qual : Str} {params : Arguments} {body : List Stmt} {scope : Scope} {kws : List (Str × V)}
theorem Bnd.perm {n : Nat} {ms : List (Str × V)} {md : List D} {g : List Value → List Value → List Value → List Value} {gV : List V → List V → List V → List V} {g2 : List D → List D → List D → List D} (F : FunD K x qual params body scope [] kws f fd) (hk : kws ≠ []) (hms : ∀ q ∈ ms, q ∈ kws) (rm : ∀ as H, RpA K as H (ms.map (·.2)) md)
    (hv : ∀ {vs mz zs : List V} {us mv ws : List Value}, mz.length = ms.length → zs.length = ks.length → Vals vs us → Vals mz mv → Vals zs ws → Vals (gV vs mz zs) (g us mv ws))
    (hr : ∀ {as : AsM} {H : Hp} {vs mz zs : List V} {ds me es : List D}, mz.length = ms.length → zs.length = ks.length → RpA K as H vs ds → RpA K as H mz me → RpA K as H zs es → RpA K as H (gV vs mz zs) (g2 ds me es))
    (h : ∀ (D : Addr) (doc pm : Value) (an : Option Addr) (cdv ct : Value) (us mv ws : List Value), us.length = n → mv.length = ms.length → ws.length = ks.length →
      KwChain D ((ms.map (·.1)).zip mv) (bindArgs (PySem.W.fnOf x qual params body scope .none (.ref D) doc pm an cdv ct) ⟨us, ks.zip ws⟩) (ps.zip (g us mv ws))) : Bnd K fd ps n ks (fun ds es => g2 ds md es) := by
  obtain ⟨oc, od, dV, kV, doc, pm, an, cdv, ct, osl, rfl, lk, hcd, hD, hK⟩ := F.ex
  rcases hD with ⟨_, rfl⟩ | ⟨e, _⟩
  · rcases hK with e | ⟨D, rfl, hq⟩
    · exact absurd e hk
    · obtain ⟨mv, hl, rk, hks⟩ := kwd_vals (ms := ms) fun q hq' => hq q (hms q hq')
      exact ⟨fun us ws => g us mv ws, fun s us ws X l1 l2 => BindsTo.of_looks fun M => KwChain.looks X hks (h D doc pm an cdv ct us mv ws l1 hl l2), fun l1 l2 r rd rz re => ⟨_, hv (List.length_map _) l2 r rk rz, hr (List.length_map _) l2 rd (rm _ _) re⟩⟩
  · exact absurd rfl e
end
/-! a dict within a dict that changes no more -/
theorem ps_lock {X : Cx} {st : Stmt} {t : TS} (h : PS X st t) : PS X st (fun D σ H => ∃ d u, H d = some u ∧ Mut (some u) ∧ ∀ od, t D σ (upd H d (.frz od u))) :=
  ⟨fun pins s σ H D I ⟨d, u, hd, mu, q⟩ => by
    obtain ⟨od, I2⟩ := I.lock hd mu
    exact h.run pins s σ _ D I2 (q od)⟩
section
variable {K : PySem.W.Frag} {as : AsM} {H : Hp}
theorem rpk_atD : ∀ {vs : List (Key × V)} {ds : List (Key × D)} {j : Nat} {k : Key} {d : D}, RpK K as H vs ds → ds[j]? = some (k, d) → ∃ v, vs[j]? = some (k, v) ∧ Rp K as H v d
  | _, [], _, _, _, _, e => by simp at e
  | _, (k0, d0) :: ds, 0, k, d, h, e => by
    cases h with
    | cons h1 h2 => cases e; exact ⟨_, rfl, h1⟩
  | _, (k0, d0) :: ds, j + 1, k, d, h, e => by
    cases h with
    | cons h1 h2 => exact rpk_atD h2 (j := j) e
theorem rpk_setD : ∀ {vs : List (Key × V)} {ds : List (Key × D)} {j : Nat} {k : Key} {v : V} {d : D}, RpK K as H vs ds → vs[j]? = some (k, v) → Rp K as H v d → RpK K as H vs (ds.set j (k, d))
  | _, [], _, _, _, _, h, _, _ => h
  | _, (k0, d0) :: ds, 0, k, v, d, h, e, r => by
    cases h with
    | cons h1 h2 => cases e; exact .cons r h2
  | _, (k0, d0) :: ds, j + 1, k, v, d, h, e, r => by
    cases h with
    | cons h1 h2 => exact .cons h1 (rpk_setD h2 (j := j) e r)
end
def sFrzK (i j : Nat) (ds : DS) : DS := fun DD c => ∃ l q k xs, c.env[i]? = some (some (.dic l)) ∧ l[j]? = some (q, .cel k) ∧ c.cs k = some (.dic xs) ∧ ds DD ⟨c.env.set i (some (.dic (l.set j (q, .dic xs)))), del c.cs k⟩
theorem pds_frzK {X : Cx} {s : Stmt} {ds : DS} (i j : Nat) (h : PDS X s ds) : PDS X s (sFrzK i j ds) := fun W tk => ps_imp (ps_lock (h W tk)) fun Dn σ H ⟨as, H0, c, DD, ok, ⟨l, key, k, xs, e1, e2, e3, q⟩, ex⟩ => by
  obtain ⟨v, ev, rv⟩ := ok.e.at_ i _ e1
  cases rv with
  | dic ha hr =>
    obtain ⟨w, ew, rw⟩ := rpk_atD hr e2
    cases rw with
    | cel ej =>
      rename_i p
      obtain ⟨p', u, g1, g2, g3, g4⟩ := ok.c.cel k _ e3
      rw [ej] at g1; cases g1
      cases g4 with
      | dic g5 =>
        refine ⟨p, _, g3, True.intro, fun od => ?_⟩
        obtain ⟨le, oc⟩ := ok.c.freezeZ (u := .frz od (.dK _)) e3 ej
        exact ⟨as, _, _, DD, ⟨oc, (ok.e.mono le).turnTo ev (.dic (le.hp _ _ ha) (rpk_setD (hr.mono le) ew (.dic upd_same (g5.mono le))))⟩, q, ex.mono le⟩
end DL

/-! list(..) of a list that changes -/
namespace DL
open L2 PySem PySem.Spec PyProof.Rows
def fLstOfX : DFn := fun ds c R => match ds with | [.cel k] => ∃ xs, c.cs k = some (.lst xs) ∧ R (.lst xs) c | _ => False
theorem callD_lstOfX {K : PySem.W.Frag} : CallD K (fun xs H Q => ∃ p ys, xs = [V.ref p] ∧ (SqL K H p ys ∨ SqT K H p ys) ∧ ∀ l, H l = none → Q (.ref l) (upd H l (.lst ys))) fLstOfX := by
  intro as H0 H σ c vs ds R Q ok r h k
  unfold fLstOfX at h
  split at h
  · obtain ⟨v, rfl, r1⟩ := rpa1 r
    obtain ⟨xs, e1, q⟩ := h
    obtain ⟨p, us, rfl, hp, g3, g4⟩ := cell_lst ok r1 e1
    refine ⟨p, us, rfl, .inl (SqL.of g3), fun l hl => ?_⟩
    obtain ⟨le, ok2⟩ := new_known (o := .lst us) ok hl
    exact k _ _ _ _ _ _ le ok2 (.lst upd_same (g4.mono le)) q
  · exact h.elim
end DL

/-! a dict of one key, a truth: made, asked for its class, walked -/
namespace DL
open L2 PySem PySem.Spec PyProof.Rows
/-! isinstance -/
def rIsiB (K : PySem.W.Frag) : List V → Hp → VK → Prop := fun xs H Q => ∃ (x c : V) (t u : Value) (b : Bool), xs = [x, c] ∧ ClsV c u ∧ (TyX K H x t ∨ ∃ a od, x = .ref a ∧ H a = some (.frz od (.ext fun _ => True)) ∧ od.cls = .type "dict" ∧ t = .type "dict") ∧ PySem.W.kitOne K t u = some b ∧ Q (.bl b) H
theorem call_isiB {X : Cx} : CallR X (.builtin "isinstance") (rIsiB X.K) := by
  intro pins s σ H xs us Q I r h
  obtain ⟨x, c, t, u, b, rfl, k, ty, e, q⟩ := h
  obtain ⟨u1, u2, rfl, r1, r2⟩ := vals2 r
  have e2 := k.eq r2
  subst e2
  rcases ty with ty | ⟨a, od, rfl, ha, hc, rfl⟩
  · obtain ⟨P, Z, p, hx⟩ := kit_of I r1 ty
    exact PySem.W.kia_one Z I.kIn p e hx fun tk => ⟨.bl b, H, I.tok tk, rfl, q⟩
  · cases (show u1 = Value.ref a from r1)
    obtain ⟨ho, _⟩ := I.hok a _ ha
    exact PySem.W.kia_one PySem.W.kitx_dict I.kIn ⟨od, ho, hc⟩ e (fun z => nomatch z) fun tk => ⟨.bl b, H, I.tok tk, rfl, q⟩
def fIsiB (n : String) : DFn := fun ds c R => match ds with
  | [.dicB _ _, .ty m] => m = n ∧ ∃ b, kitB "dict" n = some b ∧ R (.bl b) c
  | [x, .ty m] => m = n ∧ ∃ t b, tyN x = some t ∧ kitB t n = some b ∧ R (.bl b) c
  | _ => False
theorem callD_isiB {K : PySem.W.Frag} {n : String} : CallD K (rIsiB K) (fIsiB n) := by
  intro as H0 H σ c vs ds R Q ok r h k
  unfold fIsiB at h
  split at h
  · obtain ⟨v, w, rfl, r1, r2⟩ := rpa2 r
    obtain ⟨rfl, b, h2, h3⟩ := h
    cases r2
    cases r1 with
    | dicB g1 g2 g3 => exact ⟨_, _, _, _, b, rfl, .ty _, .inr ⟨_, _, rfl, ok.c.ex _ _ g1, g2.1.1, rfl⟩, kit_ty h2, k _ _ _ _ _ _ .refl ok (.bl _) h3⟩
  · obtain ⟨v, w, rfl, r1, r2⟩ := rpa2 r
    obtain ⟨rfl, t, b, h1, h2, h3⟩ := h
    cases r2
    exact ⟨v, _, _, _, b, rfl, .ty _, .inl (tyx_of ok.c.ex r1 h1), kit_ty h2, k _ _ _ _ _ _ .refl ok (.bl _) h3⟩
  · exact h.elim
/-! the walk -/
def Itb (d : Addr) (o : Obj) (b : Bool) : It :=
  ⟨fun i H => H d = some (.frz o (.ext fun _ => True)) ∧ i < 1, fun i H x H' => H' = H ∧ x = .bl b, fun i H => H d = some (.frz o (.ext fun _ => True)) ∧ 1 ≤ i⟩
theorem turn_bd {P : Program} {w : World} {K : PySem.W.Frag} {tg : Expr} {d it : Addr} {o : Obj} {e : DictEntry} {ep : Nat} {b : Bool} {v : V} (ob : BdOb d o e ep b v) : Turn P w K tg (Itb d o b) [it] it (fun i h => h.IsKeyIter it d i 1 ep) where
  mem := by simp
  obj := fun i h st b hb => by
    have e : b = it := by simpa using hb
    subst e
    obtain ⟨oi, e, c, dd⟩ := st
    exact ⟨oi, e, fun v z => by rw [dd] at z; cases z⟩
  keep := fun i h h' st k => st.at fun oi e => k it (by simp) oi e
  item := by
    intro X hP hw hK hc i pins s σ H E I hf st hg
    subst hP hw hK
    obtain ⟨hd, hi⟩ := hg
    obtain ⟨f0, f1, f2, f3, f4, f5⟩ := hf it (by simp)
    obtain ⟨hx, hs, hdt, ek, rv⟩ := ob
    obtain ⟨hgd, _⟩ := I.hok d _ hd
    have e0 : i = 0 := by omega
    subst e0
    refine next_key_item (en := e) st hgd hdt rfl rfl fun h' st' sb => ?_
    have I1 : Inv X pins σ H { s with heap := h' } := I.turned (t' := s.toks) (fun b ob hb e => (sb.2 b hb).trans e) f0 f1 f3 f4 f5
    obtain ⟨oi, e', c, dd⟩ := id st'
    exact ⟨e.key, rfl, go_of (s := { s with heap := h' }) e' c dd (by decide) ⟨.bl b, H, I1, ek, ⟨rfl, rfl⟩, st', fun b hb => (hf b hb).1⟩⟩
  done := by
    intro X hP hw hK hc i pins s σ H E I hf st hg
    subst hP hw hK
    obtain ⟨hd, hi⟩ := hg
    obtain ⟨f0, f1, f2, f3, f4, f5⟩ := hf it (by simp)
    obtain ⟨hx, hs, hdt, ek, rv⟩ := ob
    obtain ⟨hgd, _⟩ := I.hok d _ hd
    exact next_key_end (I.ok.hd hc) st hgd hdt rfl hi fun h' eb => ⟨rfl, I.turned (t' := s.toks) (fun b ob hb e => eb b ob hb e) f0 f1 f3 f4 f5⟩
  self := fun A i s Q E st h => wpAny_pyIter_keyiter st h
def iKBt (td : TE) : TI := fun σ H R => td σ H fun x H1 => ∃ d o, x = .ref d ∧ ((∃ kvs, H1 d = some (.frz o (.dK kvs)) ∧ R (Itk d o kvs) H1) ∨ ∃ e ep b v, H1 d = some (.frz o (.ext fun _ => True)) ∧ BdOb d o e ep b v ∧ R (Itb d o b) H1)
theorem pi_keysB {X : Cx} {tg e : Expr} {td : TE} (he : PE X e td) : PI X tg e (iKBt td) := by
  refine ⟨fun pins s σ H R I h => ?_⟩
  refine thn (he.run pins s σ H _ I h) fun u s1 ⟨x, H1, I1, rx, d, o, ex, q⟩ => ?_
  subst ex
  obtain rfl : u = Value.ref d := rx
  rcases q with ⟨kvs, hd, q⟩ | ⟨e, ep, b, v, hd, ob, q⟩
  · obtain ⟨hs, hgd, hx, es, ep, vs, hdt, hsz, kv, hm⟩ := I1.frzK hd
    refine iter_keys hs hgd hx hdt (pi_one (tk := s1.toks) I1 _ (turn_keys _ hdt) ⟨_, Heap.get?_push_size _ rfl, rfl, ?_⟩ q)
    rw [hsz] <;> rfl
  · obtain ⟨hx, hs, hdt, ek, rv⟩ := id ob
    obtain ⟨hgd, _⟩ := I1.hok d _ hd
    exact iter_keys hs hgd hx hdt (pi_one (tk := s1.toks) I1 _ (turn_bd ob) ⟨_, Heap.get?_push_size _ rfl, rfl, rfl⟩ q)
/-- the keys of a plain dict, or of one whose key is a truth -/
def keysB : D → Option (List D) | .dic kvs => some (kvs.map fun p => kD p.1) | .dicB b _ => some [.bl b] | _ => none
def iKDB (da : DE) : DI := fun c R => da c fun d c1 => ∃ ds, keysB d = some ds ∧ R ds c1
theorem itd_bd {K : PySem.W.Frag} {as : AsM} {H0 : Hp} {a : Addr} {od : Obj} {b : Bool} (h : H0 a = some (.frz od (.ext fun _ => True))) : ItD K as H0 (Itb a od b) [.bl b] where
  go := fun as' H0' H cs i l o hi => ⟨o.ex _ _ (l.hp _ _ h), hi⟩
  yld := fun as' H0' H cs i x H' d l o e y => by
    obtain ⟨rfl, rfl⟩ := y
    cases i with
    | zero => cases e; exact ⟨H0', .refl, o, .bl b⟩
    | succ i => simp at e
  stop := fun as' H0' H cs l o => ⟨o.ex _ _ (l.hp _ _ h), Nat.le_refl _⟩
theorem pdi_keysDB {X : Cx} {e tg : Expr} {da : DE} (he : PD X e da) : PDI X tg e (iKDB da) := ⟨_, pi_keysB he, fun σ H Q ⟨as, H0, c, R, ok, q, k⟩ => ⟨as, H0, c, _, ok, q, fun as1 H1 Hn1 c1 v d l1 ok1 r1 ⟨ds, e1, q1⟩ => by
  cases r1 with
  | dic g1 g2 => cases e1; exact ⟨_, _, rfl, .inl ⟨_, ok1.c.ex _ _ g1, k _ _ _ _ _ _ l1 ok1 (itd_keys g1 g2) q1⟩⟩
  | dicB g1 g2 g3 => cases e1; exact ⟨_, _, rfl, .inr ⟨_, _, _, _, ok1.c.ex _ _ g1, g2, k _ _ _ _ _ _ l1 ok1 (itd_bd g1) q1⟩⟩
  | _ => cases e1⟩⟩
/-! {True: e} -/
def tDispB (trs : List (TE × TE)) : TE := fun σ H Q => ∀ p, H p = none → tPairs trs σ (upd H p (.dK [])) fun ps H2 => H2 p = some (.dK []) ∧ ∃ b v, ps = [(.bl b, v)] ∧ ∀ od e ep, BdOb p od e ep b v → Q (.ref p) (upd H2 p (.frz od (.ext fun _ => True)))
theorem pe_dispB {X : Cx} {pos : Pos} {keys : List (Option Expr)} {values : List Expr} {trs : List (TE × TE)} (h : PPs X pos keys values trs) (hall : keys.all (·.isSome) = true) (hl : keys.length = values.length) (h0 : keys ≠ [])
    (h15 : keys.length ≤ 15) : PE X (.Dict keys values pos) (tDispB trs) := by
  refine ⟨fun pins s σ H Q I q => ?_⟩
  have hn := I.hok.fresh (Nat.le_refl s.heap.objs.size)
  have I1 := I.laid (a := s.heap.objs.size) (o := .dK []) (h' := s.heap.push { cls := .type "dict", data := .dict #[] }) (t' := s.toks) (fun _ _ q => Heap.get?_push_of_some _ q) (Nat.le_refl _) (dk_empty s.heap I.big)
  refine wpAny_Dict_walk (knd := PpSet.boolK X.prog X.w) hall hl h0 h15 (thn (h.run pins _ σ _ _ I1 (q _ hn)) fun ws s2 ⟨ps, H2, I2, rel, e, b, v, eps, q2⟩ => ?_)
  subst eps
  obtain ⟨z, hd, vs0, r0, dd⟩ := dk_of I2.hok e
  cases r0
  obtain ⟨o, es, ep, ho, hx, hdt, hk, hp, nd⟩ := dd
  have he : es = #[] := by
    have : es.toList = [] := by
      cases q : es.toList with
      | nil => rfl
      | cons x xs => rw [q] at hp; cases hp
    exact Array.toList_inj.mp (by rw [this])
  subst he
  obtain ⟨⟨w1, w2⟩, rfl, ra, rb⟩ : ∃ w : Value × Value, ws = [w] ∧ L2.RelV (.bl b) w.1 ∧ L2.RelV v w.2 := by
    cases rel with
    | cons r1 r2 => cases r2; exact ⟨_, rfl, r1.1, r1.2⟩
  · 
    have ra' : w1 = Value.bool b := ra
    subst ra'
    refine ⟨[(b, w2)], ⟨PpSet.boolK_is _ _ b, rfl, True.intro⟩, ⟨o, #[], ep, ho, hx, hdt, (fun x hx => by simp at hx), .nil, .nil⟩, fun h' dd' hs => ?_⟩
    have em : merged [] [(b, w2)] = [(b, w2)] := by simp [merged, stored]
    rw [em] at dd'
    obtain ⟨od, es, ep, hg, hx, hdt, hk, hp, nd⟩ := dd'
    cases q : es.toList with
    | nil => rw [q] at hp; cases hp
    | cons en tl =>
      rw [q] at hp
      cases hp with
      | cons p1 p2 p3 =>
        cases p3
        have ee : es = #[en] := Array.toList_inj.mp (by rw [q])
        subst ee
        refine ⟨.ref s.heap.objs.size, _, d_write I2 (by rw [e]; exact True.intro) hs ⟨od, hg⟩ (ob := .frz od (.ext fun _ => True)) ⟨hg, True.intro, ⟨od, hg⟩, fun _ _ _ _ => True.intro⟩, rfl, q2 od en ep ⟨hx, hd, hdt, PpSet.isB_shape p1, ?_⟩⟩
        rw [p2]; exact rb
def dDispB (ps : List (DE × DE)) : DE := fun c R => ∀ k, c.cs k = none → dPairs ps { c with cs := put c.cs k (.dic []) } fun xs c1 => c1.cs k = some (.dic []) ∧ ∃ b d, xs = [(.bl b, d)] ∧ R (.dicB b d) { c1 with cs := del c1.cs k }
theorem pd_dispB {X : Cx} {pos : Pos} {keys : List (Option Expr)} {values : List Expr} {ps : List (DE × DE)} (h : PPs X pos keys values (ps.map fun p => (lift X.K p.1, lift X.K p.2))) (hall : keys.all (·.isSome) = true) (hl : keys.length = values.length) (h0 : keys ≠ [])
    (h15 : keys.length ≤ 15) : PD X (.Dict keys values pos) (dDispB ps) :=
  pe_imp (pe_dispB h hall hl h0 h15) fun σ H Q ⟨as, H0, c, R, ok, q, k⟩ => fun p hp => by
    obtain ⟨j, as1, hj, l1, ok1, rp⟩ := new_cell (u := .dK []) (o := .dic []) ok hp (.dic .nil)
    refine pairs_low ok1 (q j hj) fun as2 H2 Hn2 c2 vs ds l2 ok2 r2 ⟨e1, b, d, e2, q2⟩ => ?_
    subst e2
    cases rp with
    | cel ej =>
      have ej2 := l2.am _ _ ej
      obtain ⟨p', u, g1, g2, g3, g4⟩ := ok2.c.cel j _ e1
      rw [ej2] at g1; cases g1
      cases g4 with
      | dic g5 =>
        cases g5
        cases r2 with
        | cons ra rb rc =>
          cases ra
          cases rc
          refine ⟨g3, b, _, rfl, fun od e ep ob => ?_⟩
          obtain ⟨l3, oc⟩ := ok2.c.freezeZ (u := .frz od (.ext fun _ => True)) e1 ej2
          exact k _ _ _ { c2 with cs := del c2.cs j } _ _ ((l1.trans l2).trans l3) ⟨oc, ok2.e.mono l3⟩ (.dicB upd_same ob (rb.mono l3)) q2
/-! a dict compared with {} -/
def rNeEm : R2 := fun x y H Q => ∃ a b ks, x = .ref a ∧ y = .ref b ∧ Rd H a (.dK ks) ∧ Rd H b (.dK []) ∧ Q (.bl (!ks.isEmpty)) H
theorem op_neEm {X : Cx} (hu0 : X.A.units + 64 < cLine) : OpR X (compareOp .NotEq) rNeEm := by
  intro pins s σ H x y v u Q I rx ry h
  obtain ⟨a, b, ks, rfl, rfl, ea, eb, q⟩ := h
  obtain rfl : v = Value.ref a := rx
  obtain rfl : u = Value.ref b := ry
  obtain ⟨_, ya, va, ra, da⟩ := dk_rd I.hok ea
  obtain ⟨_, yb, vb, rb, db⟩ := dk_rd I.hok eb
  cases rb
  have hu : X.A.units < cLine := Nat.lt_of_le_of_lt (Nat.le_add_right _ _) hu0
  refine PySem.W.keq_ne (knd := mixKind X.prog X.w) (r := true) ya yb da db hu (fun e => ?_) ⟨.bl (!ks.isEmpty), H, I, ?_, q⟩
  · cases va with
    | nil => exact .nil
    | cons z zs => simp at e
  · have e : (!(va.length == ([] : List (Key × Value)).length && true)) = !ks.isEmpty := by
      cases ra with
      | nil => rfl
      | cons r1 r2 => rfl
    rw [e]; exact rfl
def dNeEm : DF := fun x y c R => ∃ ks, (x = .dic ks ∨ ∃ k, x = .cel k ∧ c.cs k = some (.dic ks)) ∧ y = .dic [] ∧ R (.bl (!ks.isEmpty)) c
theorem opD_neEm {K : PySem.W.Frag} : OpD K rNeEm dNeEm := by
  intro as H0 H σ c v1 v2 d1 d2 R Q ok r1 r2 ⟨ks, hx, hy, q⟩ k
  subst hy
  cases r2 with
  | dic b1 b2 =>
    cases b2
    rcases hx with rfl | ⟨j, rfl, e1⟩
    · cases r1 with
      | dic g1 g2 => exact ⟨_, _, _, rfl, rfl, .inr ⟨_, ok.c.ex _ _ g1⟩, .inr ⟨_, ok.c.ex _ _ b1⟩, by rw [isEmpty_rk g2]; exact k _ _ _ _ _ _ .refl ok (.bl _) q⟩
    · cases r1 with
      | cel ej =>
        obtain ⟨p', u, g1, g2, g3, g4⟩ := ok.c.cel j _ e1
        rw [ej] at g1; cases g1
        cases g4 with
        | dic g5 => exact ⟨_, _, _, rfl, rfl, .inl g3, .inr ⟨_, ok.c.ex _ _ b1⟩, by rw [isEmpty_rk g5]; exact k _ _ _ _ _ _ .refl ok (.bl _) q⟩
end DL

/-! (..) * 1: the tuple itself -/
namespace DL
open L2 PySem PySem.Spec PyProof.Rows
theorem tuple_mul1 (l : Addr) (items : Array Value) (n : Nat) (dd : Option Addr) (sl : Array (Option Value)) (u : Tok) :
    Meets (Builtin.«tuple.__mul__» ⟨[.ref l, .int 1 u], []⟩) (fun _ R s => s.heap.get? l = some { cls := .type "tuple", dict := dd, data := .seq items n, slots := sl } ∧
      R (.ok (.ret (Value.ref l))) s) :=
  .of_wp fun prog w A R s h => by
    obtain ⟨hp, g, d, tk, os⟩ := s
    obtain ⟨hl, h⟩ := h
    have f1 := AutoSeq1.idx_int
    have c0 : (decide ((1 : Int) < -(2 ^ 63)) || decide ((1 : Int) ≥ 2 ^ 63)) = false := by decide
    have c1 : (items.isEmpty || (1 : Int) == 1) = true := by simp
    wp_walk using wpAny_loadPart' hl
    repeat (first
      | (refine wpAny_ite_false (decide_eq_false (by rw [c0]; exact Bool.false_ne_true)) ?_; wp_walk using wpAny_loadPart' hl)
      | (refine wpAny_ite_true (decide_eq_true (by rw [c1])) ?_; wp_walk using wpAny_loadPart' hl))
    exact ⟨_, rfl, h⟩
def rRepT1 (K : PySem.W.Frag) : R2 := fun x y H Q => ∃ l xs, x = .ref l ∧ y = .int 1 ∧ SqT K H l xs ∧ Q (.ref l) H
theorem op_repT1 {X : Cx} : OpR X (binaryOp .Mult) (rRepT1 X.K) := by
  intro pins s σ H x y v u Q I rx ry h
  obtain ⟨l, xs, rfl, rfl, hT, q⟩ := h
  cases rx
  obtain ⟨t, rfl⟩ := ry
  obtain ⟨its, r, ⟨⟨cls, dd, data, sl⟩, ho, hc, n, hd⟩, hs⟩ := I.tuple hT
  simp only at hc hd
  subst hc hd
  refine wpAny_binaryOp_repeat_ref (T := "tuple") (U := "int") (by decide) ⟨_, ho, rfl⟩ (fun s' => typeIs_int s' 1 t) noFill_tuple_mul F.fills_int_mul F.slot_int_rmul repeat_tuple F.slot_int_index.lookup
    (call_meets F.slot_int_rmul (typeIs_int s 1 t) F.entry_int_rmul (F.args_int_rmul_2 _ _) (int_rmul_tuple 1 t l its.toArray n dd sl)
      ⟨ho, rfl, ⟨_, ho, rfl⟩, call_meets F.slot_tuple_mul ⟨_, ho, rfl⟩ F.entry_tuple_mul (F.args_tuple_mul_2 _ _) (tuple_mul1 l its.toArray n dd sl t) ⟨ho, ?_⟩⟩)
  exact ⟨.ref l, H, I, rfl, q⟩
def dRepTA : DF := fun x y c R => match x, y with
  | .tup xs, .int n => xs ≠ [] ∧ 1 ≤ n ∧ n ≤ 1000 ∧ xs.length ≤ 1000 ∧ R (.tup (List.replicate n.toNat xs).flatten) c
  | _, _ => False
theorem opD_repTA {K : PySem.W.Frag} : OpD K (fun x y H Q => rRepT K x y H Q ∨ rRepT1 K x y H Q) dRepTA := by
  intro as H0 H σ c v1 v2 d1 d2 R Q ok r1 r2 h k
  unfold dRepTA at h
  split at h
  · rename_i xs n
    obtain ⟨h1, h2, h3, h4, h5⟩ := h
    by_cases z : n = 1
    · subst z
      refine .inr ?_
      cases r1 with
      | tup g1 g2 =>
        cases r2
        refine ⟨_, _, rfl, rfl, seqT_mono ok.c.ex g1, k _ _ _ _ _ _ .refl ok (.tup g1 g2) ?_⟩
        have e : (List.replicate (1 : Int).toNat xs).flatten = xs := by
          show (List.replicate 1 xs).flatten = xs
          simp
        rw [e] at h5
        exact h5
    · exact .inl (opD_repT as H0 H σ c v1 v2 (.tup xs) (.int n) R Q ok r1 r2 ⟨h1, by omega, h3, h4, h5⟩ k)
  · exact h.elim
theorem pd_repTA {X : Cx} {a b : Expr} {da db : DE} {pos : Pos} (ha : PD X a da) (hb : PD X b db) : PD X (.BinOp a .Mult b pos) (dBin dRepTA da db) := pd_bin (opR_or op_repT op_repT1) opD_repTA ha hb
end DL
namespace My
open PySem DL
local macro_rules | `(tactic| k_search $t) => `(tactic| simp only [$t:term, sNext, sSeq, sAsg, sRet, sRetN, sDrop, e_if, sBreak, sCont, sAsgG, e_par, gNm, e_set, e_setC, gList, dVar, dC, dBin, e_int2, e_add_ii, e_add_ib, e_add_ss, e_add_ll, e_add_tt, dSub, dMul, dDiv, dMod, dPow, dShl, dShr, dAnd, dOr, dXor, e_neg, dLt, dLe, dGt, dGe, e_eq_ii, e_eq_bb, e_eq_ss, e_ne_ii, e_ne_bb, e_ne_ss, e_eq_l, e_eq_sl, e_eq_t, e_eq_n, e_ne_l, e_ne_sl, e_ne_t, e_ne_n, e_chain, dTru, e_tb, e_tru_n, e_tru_b, e_tru_i, e_tru_l, e_tru_sl, e_tru_t, e_tru_d, e_andT, e_orT, dNotT, e_andV, e_orV, dNotV, e_ifE, onB_t, onB_f, onB_dec, onB_ndec, onB_not, onI_i, dNil, dCons, dTup, dLst, dLstC, dCall, dFn, dFnK, e_abs, e_max, e_min, e_int_i, e_int_b, e_len_l, e_len_sl, e_len_t, e_len_d, e_len_s, e_len_c, e_sum_l, e_ix_l, e_ix_sl, e_ix_t, e_ix_c, e_ix_s, e_ix_di, e_ix_ds, dSl, e_sl_l, e_sl_sl, e_sl_t, e_sl_s, dNoPart, e_part, iSeq, iTp, e_rng1, iRng2, sFor, sWhile, dDNew, dIsN, dIsNotN, isNon, env0,
  List.map_cons, List.map_nil, List.length_cons, List.length_nil, List.replicate, List.cons_append, List.nil_append, List.append_nil, Nat.sub_self, Nat.reduceSub, Nat.reduceAdd, List.getElem?_cons_zero, List.getElem?_cons_succ, List.set_cons_zero, List.set_cons_succ, Option.some.injEq, Co.lst.injEq, exists_eq_left', exists_eq_left, exists_and_left, List.cons.injEq, decide_eq_true_eq, true_and, and_true, decide_true, decide_false, if_true, if_false, Bool.false_eq_true, Bool.not_true, Bool.not_false, listD, intsOf_map, put_same, put_put, at0, at1, at2, at3, at4, at5, ix20, ix21])
local macro_rules | `(tactic| walk_at "dl") => `(tactic| k_search put_same)
theorem ble {a b : Nat} (h : Nat.ble a b = true) : a ≤ b := Nat.le_of_ble_eq_true h
theorem cmul_of {i j : Int} (h : (-(2 ^ 64) < i ∧ i < 2 ^ 64) ∨ (-(2 ^ 64) < j ∧ j < 2 ^ 64)) : L2.CMul i j := h
theorem at_all {xs : List D} {P : D → Prop} {r : Int} (h0 : 0 ≤ r) (h1 : r < xs.length) (h : ∀ d ∈ xs, P d) : ∃ d, L2.atI xs r = some d ∧ P d :=
  let ⟨x, e, m⟩ := at_in (xs := xs) h0 h1
  ⟨x, e, h x m⟩
/-! ### the pool of draws -/
def Pool (cs : Cells) (j : Nat) : Prop := ∃ a b, cs j = some (.lst [.int a, .int b]) ∧ 0 ≤ a ∧ 0 ≤ b ∧ b < 2147483647
/-- all but j is as it was -/
def But (j : Nat) (cs cs' : Cells) : Prop := ∀ i, i ≠ j → cs' i = cs i
theorem But.put {j : Nat} {cs : Cells} {o : Co} : But j cs (put cs j o) := fun i h => put_ne h
theorem But.refl {j : Nat} {cs : Cells} : But j cs cs := fun i h => rfl
theorem But.trans {j : Nat} {cs cs1 cs2 : Cells} (a : But j cs cs1) (b : But j cs1 cs2) : But j cs cs2 := fun i h => (b i h).trans (a i h)
/-- a draw: any number below n -/
def Draw (j : Nat) (n : Int) (cs : Cells) (Q : Int → Cells → Prop) : Prop := ∀ r cs', 0 ≤ r → r < n → Pool cs' j → But j cs cs' → Q r cs'
def sem_l_take : Sem := fun ds cs R => match ds with
  | [.cel j, .int n] => (0 < n ∧ n < 2 ^ 200) ∧ Pool cs j ∧ Draw j n cs fun r cs' => R (.int r) cs'
  | _ => False
theorem len_l_take : ∀ ds cs R, sem_l_take ds cs R → ds.length = 2 := by intro ds cs R h; unfold sem_l_take at h; split at h; rfl; exact h.elim
/-- _law_take: slots 0=_law_pool_here 1=_law_many 2=_law_found -/
def den_l_take : DS :=
  (sSeq (sIf (dTB (dBin dGt (dBin dIxF (dVar 0) (dC (.int 0))) (dC (.int 0)))) (sSeq (sAsg (dBin dMod (dBin dIxF (dVar 0) (dC (.int 0))) (dVar 1)) 2)
    (sSeq (sAsgG (dBin dDiv (dBin dIxF (dVar 0) (dC (.int 0))) (dVar 1)) (gIx (dVar 0) (dC (.int 0))))
    (sRet (dVar 2)))) sNext)
    (sSeq (sAsgG (dBin dMod (dBin dAdd (dBin dMul (dBin dIxF (dVar 0) (dC (.int 1))) (dC (.int 48271))) (dC (.int 11))) (dC (.int 2147483647))) (gIx (dVar 0) (dC (.int 1))))
    (sRet (dBin dMod (dBin dDiv (dBin dMod (dBin dMul (dBin dIxF (dVar 0) (dC (.int 1))) (dBin dIxF (dVar 0) (dC (.int 1)))) (dC (.int 2147483629))) (dC (.int 16))) (dVar 1)))))
theorem okd_l_take : ∀ ds cs R, sem_l_take ds cs R → den_l_take { nx := fun c => R .non c.cs, rt := R } ⟨env0 3 ds, cs⟩ := by
  intro ds cs R h
  unfold sem_l_take at h
  split at h
  case h_2 => exact h.elim
  rename_i j n
  obtain ⟨⟨h1, h2⟩, ⟨a, b, hp, ha, hb, hb2⟩, k⟩ := h
  unfold den_l_take
  by_cases h : 0 < a
  · k_search hp
    rw [if_pos h]
    refine ⟨h1, ⟨h1, h2⟩, k _ _ (Int.emod_nonneg _ (by omega)) (Int.emod_lt_of_pos _ h1) ⟨a / n, b, put_same, Int.ediv_nonneg ha (by omega), hb, hb2⟩ But.put⟩
  · k_search hp
    rw [if_neg h]
    have g0 := Int.emod_nonneg (b * 48271 + 11) (show (2147483647 : Int) ≠ 0 by decide)
    have g1 := Int.emod_lt_of_pos (b * 48271 + 11) (show (0 : Int) < 2147483647 by decide)
    refine ⟨cmul_of (by omega), by decide, cmul_of (by omega), by decide, by decide, h1, k _ _ (Int.emod_nonneg _ (by omega)) (Int.emod_lt_of_pos _ h1) ⟨a, _, put_same, ha, g0, g1⟩ But.put⟩
/-- the script's ints in hand, a cell's number: a pool -/
def sem_l_pool : Sem := fun ds cs R => ∃ (ns : List Int) (k : Int), ds = [.slst (ns.map .int), .int k] ∧ (0 ≤ k ∧ k < 64) ∧ ns.length ≤ 63 ∧ ∀ j cs', cs j = none → Pool cs' j → But j cs cs' → R (.cel j) cs'
theorem len_l_pool : ∀ ds cs R, sem_l_pool ds cs R → ds.length = 2 := by rintro ds cs R ⟨j, n, rfl, _⟩; rfl
def if_l_pool_1 : DS :=
  (sIf (dTB (dBin dLt (dVar 1) (dCall fLen (dCons (dVar 0) dNil)))) (sAsg (dBin dIxF (dVar 0) (dVar 1)) 2) sNext)
/-- _law_pool: slots 0=_law_script 1=_law_k 2=_law_cell 3=_law_great 4=_law_mixed -/
def den_l_pool : DS :=
  (sSeq (sAsg (dBin dAdd (dBin dMul (dC (.int 7)) (dCall fSum (dCons (dSl (dVar 0) dNoPart (dPart (dC (.int 63)))) dNil))) (dVar 1)) 2)
    (sSeq if_l_pool_1
    (sSeq (sAsg (dCall fAbs (dCons (dVar 2) dNil)) 3)
    (sSeq (sAsg (dBin dMod (dBin dMul (dBin dAdd (dBin dAdd (dBin dAdd (dBin dMod (dVar 3) (dC (.int 2147483629))) (dBin dMul (dBin dMul (dC (.int 7919)) (dVar 1)) (dVar 1))) (dBin dMul (dC (.int 31)) (dVar 1))) (dC (.int 17))) (dC (.int 48271))) (dC (.int 2147483647))) 4)
    (sRet (dLstC (dCons (dBin dMul (dVar 3) (dCall fInt (dCons (dBin dGe (dVar 3) (dBin dPow (dC (.int 10)) (dC (.int 18)))) dNil))) (dCons (dBin dMod (dBin dMul (dVar 4) (dVar 4)) (dC (.int 2147483629))) dNil))))))))
theorem cutD_map (ns : List Int) (lo hi : Option Int) : ∃ ms : List Int, cutD (ns.map D.int) lo hi = ms.map D.int := by
  unfold cutD
  rw [← List.map_drop, ← List.map_take]
  exact ⟨_, rfl⟩
theorem at_map {ns : List Int} {k : Int} (h0 : 0 ≤ k) (h1 : k < ns.length) : ∃ v, L2.atI (ns.map D.int) k = some (.int v) := by
  obtain ⟨x, e, hx⟩ := at_in (xs := ns.map D.int) h0 (by rw [List.length_map]; exact h1)
  obtain ⟨v, _, rfl⟩ := List.mem_map.mp hx
  exact ⟨v, e⟩
theorem okd_l_pool : ∀ ds cs R, sem_l_pool ds cs R → den_l_pool { nx := fun c => R .non c.cs, rt := R } ⟨env0 5 ds, cs⟩ := by
  rintro ds cs R ⟨ns, k, rfl, ⟨h0, h1⟩, hl, q⟩
  unfold den_l_pool
  obtain ⟨ms, em⟩ := cutD_map ns none (some 63)
  have fin : ∀ v : Int, ∀ j, cs j = none → R (.cel j) (put cs j (.lst [.int ((if v < 0 then -v else v) * (if 10 ^ (18 : Int).toNat ≤ (if v < 0 then -v else v) then 1 else 0)),
      .int (((if v < 0 then -v else v) % 2147483629 + 7919 * k * k + 31 * k + 17) * 48271 % 2147483647 * (((if v < 0 then -v else v) % 2147483629 + 7919 * k * k + 31 * k + 17) * 48271 % 2147483647) % 2147483629)])) := by
    intro v j hj
    refine q j _ hj ⟨_, _, put_same, ?_, Int.emod_nonneg _ (by decide), Int.lt_trans (Int.emod_lt_of_pos _ (by decide)) (by decide)⟩ But.put
    refine Int.mul_nonneg (by split <;> omega) ?_
    generalize (if v < 0 then -v else v) = u
    split <;> decide
  have bits : ∀ v : Int, L2.CMul v (if 10 ^ (18 : Int).toNat ≤ v then 1 else 0) := fun v => cmul_of (.inr (by split <;> decide))
  have sq : ∀ v : Int, L2.CMul (v % 2147483647) (v % 2147483647) := fun v => by
    have g0 := Int.emod_nonneg v (show (2147483647 : Int) ≠ 0 by decide)
    have g1 := Int.emod_lt_of_pos v (show (0 : Int) < 2147483647 by decide)
    exact cmul_of (by omega)
  unfold if_l_pool_1
  by_cases hk : k < ns.length
  · k_search em
    obtain ⟨v, ev⟩ := at_map (ns := ns) h0 hk
    k_search (List.length_map (as := ns) D.int)
    k_search hk
    k_search ev
    exact ⟨cmul_of (by omega), by decide, cmul_of (by omega), cmul_of (by omega), cmul_of (by omega), cmul_of (by omega), by decide, ⟨by decide, by decide, by decide⟩, bits _, sq _, by decide, by decide, fin v⟩
  · k_search em
    k_search (List.length_map (as := ns) D.int)
    k_search hk
    exact ⟨cmul_of (by omega), by decide, cmul_of (by omega), cmul_of (by omega), cmul_of (by omega), cmul_of (by omega), by decide, ⟨by decide, by decide, by decide⟩, bits _, sq _, by decide, by decide, fin _⟩
/-! ### what is asked of things of any kind -/
def kindly (d : D) : Prop := (tyN d).isSome = true
def wholeD : D → Bool | .int _ => true | _ => false
def isInt : D → Bool | .int _ => true | .bl _ => true | _ => false
def isBool : D → Bool | .bl _ => true | _ => false
def isTup : D → Bool | .tup _ => true | _ => false
def isLst : D → Bool | .lst _ => true | .slst _ => true | _ => false
def isDic : D → Bool | .dic _ => true | _ => false
theorem isi_of {n t : String} {b : Bool} {d : D} {c : Z} {R : D → Z → Prop} (h1 : tyN d = some t) (h2 : L2.kitB t n = some b) : fIsi n [d, .ty n] c R = R (.bl b) c :=
  propext ⟨fun ⟨_, t', b', e1, e2, q⟩ => by
    rw [h1] at e1
    cases e1
    rw [h2] at e2
    cases e2
    exact q, fun q => ⟨rfl, _, _, h1, h2, q⟩⟩
theorem isi_int {d : D} {c : Z} {R : D → Z → Prop} (h : kindly d) : fIsi "int" [d, .ty "int"] c R = R (.bl (isInt d)) c := by
  match d, h with
  | .non, _ => exact isi_of rfl (by decide +kernel)
  | .bl b, _ => exact isi_of (t := "bool") (b := isInt (.bl true)) rfl (by decide +kernel)
  | .int b, _ => exact isi_of (t := "int") (b := isInt (.int 0)) rfl (by decide +kernel)
  | .str b, _ => exact isi_of (t := "str") (b := isInt (.str "")) rfl (by decide +kernel)
  | .lst b, _ => exact isi_of (t := "list") (b := isInt (.lst [])) rfl (by decide +kernel)
  | .slst b, _ => exact isi_of (t := "list") (b := isInt (.slst [])) rfl (by decide +kernel)
  | .tup b, _ => exact isi_of (t := "tuple") (b := isInt (.tup [])) rfl (by decide +kernel)
  | .dic b, _ => exact isi_of (t := "dict") (b := isInt (.dic [])) rfl (by decide +kernel)
theorem isi_bool {d : D} {c : Z} {R : D → Z → Prop} (h : kindly d) : fIsi "bool" [d, .ty "bool"] c R = R (.bl (isBool d)) c := by
  match d, h with
  | .non, _ => exact isi_of rfl (by decide +kernel)
  | .bl b, _ => exact isi_of (t := "bool") (b := isBool (.bl true)) rfl (by decide +kernel)
  | .int b, _ => exact isi_of (t := "int") (b := isBool (.int 0)) rfl (by decide +kernel)
  | .str b, _ => exact isi_of (t := "str") (b := isBool (.str "")) rfl (by decide +kernel)
  | .lst b, _ => exact isi_of (t := "list") (b := isBool (.lst [])) rfl (by decide +kernel)
  | .slst b, _ => exact isi_of (t := "list") (b := isBool (.slst [])) rfl (by decide +kernel)
  | .tup b, _ => exact isi_of (t := "tuple") (b := isBool (.tup [])) rfl (by decide +kernel)
  | .dic b, _ => exact isi_of (t := "dict") (b := isBool (.dic [])) rfl (by decide +kernel)
theorem isi_list {d : D} {c : Z} {R : D → Z → Prop} (h : kindly d) : fIsi "list" [d, .ty "list"] c R = R (.bl (isLst d)) c := by
  match d, h with
  | .non, _ => exact isi_of rfl (by decide +kernel)
  | .bl b, _ => exact isi_of (t := "bool") (b := isLst (.bl true)) rfl (by decide +kernel)
  | .int b, _ => exact isi_of (t := "int") (b := isLst (.int 0)) rfl (by decide +kernel)
  | .str b, _ => exact isi_of (t := "str") (b := isLst (.str "")) rfl (by decide +kernel)
  | .lst b, _ => exact isi_of (t := "list") (b := isLst (.lst [])) rfl (by decide +kernel)
  | .slst b, _ => exact isi_of (t := "list") (b := isLst (.slst [])) rfl (by decide +kernel)
  | .tup b, _ => exact isi_of (t := "tuple") (b := isLst (.tup [])) rfl (by decide +kernel)
  | .dic b, _ => exact isi_of (t := "dict") (b := isLst (.dic [])) rfl (by decide +kernel)
theorem isi_dict {d : D} {c : Z} {R : D → Z → Prop} (h : kindly d) : fIsi "dict" [d, .ty "dict"] c R = R (.bl (isDic d)) c := by
  match d, h with
  | .non, _ => exact isi_of rfl (by decide +kernel)
  | .bl b, _ => exact isi_of (t := "bool") (b := isDic (.bl true)) rfl (by decide +kernel)
  | .int b, _ => exact isi_of (t := "int") (b := isDic (.int 0)) rfl (by decide +kernel)
  | .str b, _ => exact isi_of (t := "str") (b := isDic (.str "")) rfl (by decide +kernel)
  | .lst b, _ => exact isi_of (t := "list") (b := isDic (.lst [])) rfl (by decide +kernel)
  | .slst b, _ => exact isi_of (t := "list") (b := isDic (.slst [])) rfl (by decide +kernel)
  | .tup b, _ => exact isi_of (t := "tuple") (b := isDic (.tup [])) rfl (by decide +kernel)
  | .dic b, _ => exact isi_of (t := "dict") (b := isDic (.dic [])) rfl (by decide +kernel)
/-- whole: an int, no truth -/
theorem whole_by {i : Nat} {d : D} {c : Z} {R : D → Z → Prop} (h : kindly d) (e : c.env[i]? = some (some d)) (q : R (.bl (wholeD d)) c) :
    dAndV (dCall (fIsi "int") (dCons (dVar i) (dCons (dC (.ty "int")) dNil))) (dNotV (dCall (fIsi "bool") (dCons (dVar i) (dCons (dC (.ty "bool")) dNil)))) c R := by
  k_search e
  rw [isi_int h]
  match d, h with
  | .int i, h =>
    k_search isInt
    k_search e
    rw [isi_bool h]
    exact ⟨_, rfl, q⟩
  | .bl i, h =>
    k_search isInt
    k_search e
    rw [isi_bool h]
    exact ⟨_, rfl, q⟩
  | .non, _ => exact q
  | .str b, _ => exact q
  | .lst b, _ => exact q
  | .slst b, _ => exact q
  | .tup b, _ => exact q
  | .dic b, _ => exact q
/-! ### widths, worths -/
/-- the number that a width doubles to -/
abbrev pw (i : Int) : Int := 2 ^ i.toNat
theorem cpow_one {i : Int} (h0 : 0 ≤ i) (h : i ≤ 1000000) : L2.CPow 1 i := ⟨h0, h, by decide⟩
def sem_p_is_whole : Sem := fun ds cs R => match ds with
  | [d] => kindly d ∧ R (.bl (wholeD d)) cs
  | _ => False
theorem len_p_is_whole : ∀ ds cs R, sem_p_is_whole ds cs R → ds.length = 1 := by intro ds cs R h; unfold sem_p_is_whole at h; split at h; rfl; exact h.elim
def ex_p_is_whole_1 : DE :=
  (dAndV (dCall (fIsi "int") (dCons (dVar 0) (dCons (dC (.ty "int")) dNil))) (dNotV (dCall (fIsi "bool") (dCons (dVar 0) (dCons (dC (.ty "bool")) dNil)))))
/-- is_whole: slots 0=thing -/
def den_p_is_whole : DS :=
  (sRet ex_p_is_whole_1)
theorem okd_p_is_whole : ∀ ds cs R, sem_p_is_whole ds cs R → den_p_is_whole { nx := fun c => R .non c.cs, rt := R } ⟨env0 1 ds, cs⟩ := by
  intro ds cs R h
  unfold sem_p_is_whole at h
  split at h
  case h_2 => exact h.elim
  obtain ⟨h, q⟩ := h
  exact whole_by (i := 0) h rfl q
def worthD (n : Int) : D → Bool | .int i => decide (0 ≤ i) && decide (i < pw n) | _ => false
def sem_p_is_worth : Sem := fun ds cs R => match ds with
  | [d, .int n] => kindly d ∧ (0 ≤ n ∧ n ≤ 64) ∧ R (.bl (worthD n d)) cs
  | _ => False
theorem len_p_is_worth : ∀ ds cs R, sem_p_is_worth ds cs R → ds.length = 2 := by intro ds cs R h; unfold sem_p_is_worth at h; split at h; rfl; exact h.elim
def ex_p_is_worth_1 : DE :=
  (dChain dLe dLt (dC (.int 0)) (dVar 0) (dBin dShl (dC (.int 1)) (dVar 1)))
def ex_p_is_worth_2 : DE :=
  (dAndV (dFn 1 sem_p_is_whole (fun ds _ => ds) (dCons (dVar 0) dNil)) ex_p_is_worth_1)
/-- is_worth: slots 0=thing 1=wide -/
def den_p_is_worth : DS :=
  (sRet ex_p_is_worth_2)
theorem okd_p_is_worth : ∀ ds cs R, sem_p_is_worth ds cs R → den_p_is_worth { nx := fun c => R .non c.cs, rt := R } ⟨env0 2 ds, cs⟩ := by
  intro ds cs R h
  unfold sem_p_is_worth at h
  split at h
  case h_2 => exact h.elim
  obtain ⟨h, ⟨h0, h1⟩, q⟩ := h
  unfold den_p_is_worth ex_p_is_worth_2 ex_p_is_worth_1
  k_search sem_p_is_whole
  refine ⟨h, ?_⟩
  rename_i d n
  match d, h with
  | .int i, _ =>
    have q' : R (.bl (decide (0 ≤ i) && decide (i < pw n))) cs := q
    by_cases z : 0 ≤ i
    · k_search wholeD
      k_search z
      rw [decide_eq_true z, Bool.true_and] at q'
      rw [Int.one_mul]
      exact ⟨cpow_one h0 (by omega), q'⟩
    · k_search wholeD
      k_search z
      rw [decide_eq_false z] at q'
      exact q'
  | .bl _, _ => exact q
  | .non, _ => exact q
  | .str b, _ => exact q
  | .lst b, _ => exact q
  | .slst b, _ => exact q
  | .tup b, _ => exact q
  | .dic b, _ => exact q
/-! ### bits of numbers from nought -/
abbrev band := Builtin.bitAnd
def tb (x : Int) (i : Nat) : Bool := x.toNat.testBit i
section
variable {x y z : Int} {n : Nat}
theorem band_c (hx : 0 ≤ x) (hy : 0 ≤ y) : band x y = ((x.toNat &&& y.toNat : Nat) : Int) := PyProof.Rows.bitAnd_pp hx hy
theorem tb_and {i : Nat} (hx : 0 ≤ x) (hy : 0 ≤ y) : tb (band x y) i = (tb x i && tb y i) := by
  unfold tb; rw [band_c hx hy, Int.toNat_natCast, Nat.testBit_and]
theorem tb_zero {i : Nat} : tb 0 i = false := Nat.zero_testBit i
end
/-- sure bits of a width -/
def BitsOk (n v u : Int) : Prop := (0 ≤ v ∧ v < pw n) ∧ (0 ≤ u ∧ u < pw n) ∧ band v u = 0
theorem BitsOk.bit {n v u : Int} (h : BitsOk n v u) (i : Nat) : (tb v i && tb u i) = false := by
  rw [← tb_and h.1.1 h.2.1.1, h.2.2, tb_zero]
/-! #### the law's own bits -/
local macro_rules | `(tactic| k_search $t) => `(tactic| simp only [$t:term, sNext, sSeq, sAsg, sRet, sRetN, sDrop, e_if, sBreak, sCont, sAsgG, e_par, e_par3, gNm, e_set, e_setC, gList, dVar, dC, dBin, e_int2, e_add_ii, e_add_ib, e_add_ss, e_add_ll, e_add_tt, dSub, dMul, dDiv, dMod, dPow, dShl, dShr, dAnd, dOr, dXor, e_neg, dLt, dLe, dGt, dGe, e_eq_ii, e_eq_bb, e_eq_ss, e_ne_ii, e_ne_bb, e_ne_ss, e_eq_l, e_eq_sl, e_eq_t, e_eq_n, e_ne_l, e_ne_sl, e_ne_t, e_ne_n, e_chain, dTru, e_tb, e_tru_n, e_tru_b, e_tru_i, e_tru_l, e_tru_sl, e_tru_t, e_tru_d, e_andT, e_orT, dNotT, e_andV, e_orV, dNotV, e_ifE, onB_t, onB_f, onB_dec, onB_ndec, onB_not, onI_i, dNil, dCons, dTup, dLst, dLstC, dCall, dFn, dFnK, e_abs, e_max, e_min, e_int_i, e_int_b, e_len_l, e_len_sl, e_len_t, e_len_d, e_len_s, e_len_c, e_sum_l, e_ix_l, e_ix_sl, e_ix_t, e_ix_c, e_ix_s, e_ix_di, e_ix_ds, dSl, e_sl_l, e_sl_sl, e_sl_t, e_sl_s, dNoPart, e_part, iSeq, iTp, e_rng1, iRng2, sFor, sWhile, dDNew, dIsN, dIsNotN, isNon, env0,
  List.map_cons, List.map_nil, List.length_cons, List.length_nil, List.replicate, List.cons_append, List.nil_append, List.append_nil, Nat.sub_self, Nat.reduceSub, Nat.reduceAdd, List.getElem?_cons_zero, List.getElem?_cons_succ, List.set_cons_zero, List.set_cons_succ, Option.some.injEq, Co.lst.injEq, exists_eq_left', exists_eq_left, exists_and_left, List.cons.injEq, decide_eq_true_eq, true_and, and_true, decide_true, decide_false, if_true, if_false, Bool.false_eq_true, Bool.not_true, Bool.not_false, listD, intsOf_map, put_same, put_put, at0, at1, at2, at3, at4, at5, ix20, ix21, sizeLine_eq, Nat.reduceLeDiff, Int.reduceLT, Int.reduceLE, Int.reduceNeg, gt_iff_lt, ge_iff_le, Int.one_mul, wipeD, TgN.vs, List.foldr_cons, List.foldr_nil, tgSet, fStr_i, fReprD_d, e_gtp, onCel_c, onDic_d, onKey_i, onKey_s, dIxC, dInC, dNotInC, dInCN, dUpd, dFrz, dFrzD, e_isB, cellD_dic, cellD_fdic, dBits, dDNewC, Co.dic.injEq, exists_eq', eq_self, and_self, e_enum, e_zip])
local macro_rules | `(tactic| walk_at "dl") => `(tactic| k_search put_same)
local macro_rules | `(tactic| walk_at "nd") => `(tactic| (simp only [List.map_cons, List.map_nil, List.cons_append, List.nil_append, List.append_nil]; decide +kernel))
local macro_rules | `(tactic| walk_at "asm") => `(tactic| repeat (refine And.intro (by assumption) ?_))
/-! ### what may be shown -/
/-- data of so much depth -/
def Dt : Nat → D → Prop
  | _, .non => True
  | _, .bl _ => True
  | _, .int _ => True
  | _, .str s => PyData.strOk s = true
  | k + 1, .lst ds => ∀ e ∈ ds, Dt k e
  | k + 1, .slst ds => ∀ e ∈ ds, Dt k e
  | k + 1, .tup ds => ∀ e ∈ ds, Dt k e
  | _, _ => False
theorem Dt.kindly {k : Nat} {d : D} (h : Dt k d) : kindly d := by cases d <;> first | rfl | (cases k <;> exact h.elim)
theorem dt_all {k : Nat} (ih : ∀ d, Dt k d → plain d = true ∧ (py d).canLay0 = true ∧ (py d).depth ≤ k) : ∀ {ds : List D}, (∀ e ∈ ds, Dt k e) → plainA ds = true ∧ PyData.canLayAll0 (pyA ds) = true ∧ PyData.depthAll (pyA ds) ≤ k
  | [], _ => ⟨rfl, rfl, Nat.zero_le _⟩
  | d :: ds, h => by
    obtain ⟨a1, a2, a3⟩ := ih d (h d List.mem_cons_self)
    obtain ⟨b1, b2, b3⟩ := dt_all ih fun e he => h e (List.mem_cons_of_mem _ he)
    refine ⟨?_, ?_, ?_⟩
    · show (plain d && plainA ds) = true
      rw [a1, b1]; rfl
    · show (PyData.canLay0 (py d) && PyData.canLayAll0 (pyA ds)) = true
      rw [a2, b2]; rfl
    · show max (PyData.depth (py d)) (PyData.depthAll (pyA ds)) ≤ k
      omega
theorem Dt.ok : ∀ {k : Nat} (d : D), Dt k d → plain d = true ∧ (py d).canLay0 = true ∧ (py d).depth ≤ k
  | 0, d, h => by cases d <;> first | exact ⟨rfl, rfl, Nat.le_refl _⟩ | exact ⟨rfl, h, Nat.le_refl _⟩ | exact h.elim
  | k + 1, d, h => by
    cases d <;> first
      | exact ⟨rfl, rfl, Nat.zero_le _⟩
      | exact ⟨rfl, h, Nat.zero_le _⟩
      | exact h.elim
      | exact (let ⟨a, b, c⟩ := dt_all (k := k) (fun d => Dt.ok d) h; ⟨a, b, Nat.succ_le_succ c⟩)
/-- whichever of the two: how many turns -/
theorem turns {n : Nat} {w : Int} (hw : 1 ≤ w) : ∃ m : Int, (if (if w < (n : Int) then w else n) > 1 then (if w < (n : Int) then w else n) else 1) = m ∧ 0 ≤ m ∧ m ≤ w := by
  refine ⟨_, rfl, ?_⟩
  split <;> split <;> omega
/-! ### a word among words -/
/-! ### lists of draws -/
theorem Pool.other {cs cs' : Cells} {j : Nat} (h : Pool cs j) (e : cs' j = cs j) : Pool cs' j := by
  obtain ⟨a, b, h1, h2⟩ := h
  exact ⟨a, b, e.trans h1, h2⟩
theorem Pool.ne {cs : Cells} {j k : Nat} (h : Pool cs j) (hk : cs k = none) : j ≠ k := fun z => by
  obtain ⟨a, b, h1, _⟩ := h
  rw [z, hk] at h1; cases h1
theorem del_ne {cs : Cells} {k i : Nat} (h : i ≠ k) : del cs k i = cs i := if_neg h
theorem lc_fG {α : Type} {k : Nat} {g : TgN} {tt : DT} {de : DE} {env : List (Option D)} {a b : α → D} {p : α → Bool} : ∀ {L : List α} {acc : List D} {cs : Cells} {R : List D → Cells → Prop}, cs k = none → (∀ x ∈ L, ∃ env', tgSet g (a x) env = some env' ∧ (∀ (cs : Cells) (Q : Bool → Z → Prop), Q (p x) ⟨env', cs⟩ → tt ⟨env', cs⟩ Q) ∧ ∀ (cs : Cells) (Q : D → Z → Prop), p x = true → Q (b x) ⟨env', cs⟩ → de ⟨env', cs⟩ Q) →
    acc.length + L.length ≤ 16777216 → R (acc ++ (L.filter p).map b) cs → lcGo k g tt de env (L.map a) acc cs R
  | [], acc, cs, R, hk, h, hl, q => by rw [List.filter_nil, List.map_nil, List.append_nil] at q; exact q
  | x :: L, acc, cs, R, hk, h, hl, q => by
    rw [List.length_cons] at hl
    obtain ⟨env', e1, h1, h2⟩ := h x List.mem_cons_self
    refine ⟨env', e1, h1 _ _ ?_⟩
    cases hp : p x with
    | true =>
      refine h2 _ _ hp ⟨put_same, by rw [sizeLine_eq]; omega, ?_⟩
      rw [del_put hk]
      refine lc_fG (a := a) (b := b) hk (fun y hy => h y (List.mem_cons_of_mem _ hy)) (by rw [List.length_append, List.length_singleton]; omega) ?_
      rw [List.append_assoc]
      rw [List.filter_cons, if_pos hp] at q
      exact q
    | false =>
      refine ⟨put_same, ?_⟩
      rw [del_put hk]
      refine lc_fG (a := a) (b := b) hk (fun y hy => h y (List.mem_cons_of_mem _ hy)) (by omega) ?_
      rw [List.filter_cons, if_neg (by rw [hp]; exact Bool.false_ne_true)] at q
      exact q
local macro_rules | `(tactic| k_search $t) => `(tactic| simp only [$t:term, sDropX, dMethX, dMakeX, sAsgX, sRetX, dFld, sFldD, sFldAugD, dMeth, dMake, sForP, iCelP, dLcP, dLcC, dPopL, dAddI, dSubI, Co.ins.injEq, Option.some.injEq, e_adda, e_adda_ii, e_slt, e_lstof_t, e_lstof_l, dSlT, dLstRg, onInt_i, dChain3, onBl_b, dRevT, kn_s2, kn_s5, kn_r3, kn_r2, kn_r5, kn_s3, kn_tp, kn_s4, kn_r4, kn_0, kn_1, kn_2, kn_3, kn_4, kn_5, dBits, sNext, sSeq, sAsg, sRet, sRetN, sDrop, e_if, sBreak, sCont, sAsgG, e_par, e_par3, gNm, e_set, e_setC, gList, dVar, dC, dBin, e_int2, e_add_ii, e_add_ib, e_add_ss, e_add_ll, e_add_tt, dSub, dMul, dDiv, dMod, dPow, dShl, dShr, dAnd, dOr, dXor, e_neg, dLt, dLe, dGt, dGe, e_eq_ii, e_eq_bb, e_eq_ss, e_ne_ii, e_ne_bb, e_ne_ss, e_eq_l, e_eq_sl, e_eq_t, e_eq_n, e_ne_l, e_ne_sl, e_ne_t, e_ne_n, e_chain, dTru, e_tb, e_tru_n, e_tru_b, e_tru_i, e_tru_l, e_tru_sl, e_tru_t, e_tru_d, e_andT, e_orT, dNotT, e_andV, e_orV, dNotV, e_ifE, onB_t, onB_f, onB_dec, onB_ndec, onB_not, onI_i, dNil, dCons, dTup, dLst, dLstC, dCall, dFn, dFnK, e_abs, e_max, e_min, e_int_i, e_int_b, e_len_l, e_len_sl, e_len_t, e_len_d, e_len_s, e_len_c, e_sum_l, e_ix_l, e_ix_sl, e_ix_t, e_ix_c, e_ix_s, e_ix_di, e_ix_ds, dSl, e_sl_l, e_sl_sl, e_sl_t, e_sl_s, dNoPart, e_part, iSeq, iTp, e_rng1, iRng2, sFor, sWhile, dDNew, dIsN, dIsNotN, isNon, env0,
  List.map_cons, List.map_nil, List.length_cons, List.length_nil, List.replicate, List.cons_append, List.nil_append, List.append_nil, Nat.sub_self, Nat.reduceSub, Nat.reduceAdd, List.getElem?_cons_zero, List.getElem?_cons_succ, List.set_cons_zero, List.set_cons_succ, Option.some.injEq, Co.lst.injEq, exists_eq_left', exists_eq_left, exists_and_left, List.cons.injEq, decide_eq_true_eq, true_and, and_true, decide_true, decide_false, if_true, if_false, Bool.false_eq_true, Bool.not_true, Bool.not_false, listD, intsOf_map, put_same, put_put, at0, at1, at2, at3, at4, at5, ix20, ix21, sizeLine_eq, Nat.reduceLeDiff, Int.reduceLT, Int.reduceLE, Int.reduceNeg, gt_iff_lt, ge_iff_le, Int.one_mul, wipeD, TgN.vs, List.foldr_cons, List.foldr_nil, tgSet, fStr_i, fReprD_d, e_gtp, onCel_c, onDic_d, onKey_i, onKey_s, dIxC, dInC, dNotInC, dInCN, dUpd, dFrz, dFrzD, e_isB, cellD_dic, cellD_fdic, dBits, dDNewC, Co.dic.injEq, exists_eq', eq_self, and_self, e_enum, e_zip])
local macro_rules | `(tactic| walk_at "dl") => `(tactic| k_search put_same)
local macro_rules | `(tactic| walk_at "nd") => `(tactic| (simp only [List.map_cons, List.map_nil, List.cons_append, List.nil_append, List.append_nil]; decide +kernel))
local macro_rules | `(tactic| walk_at "asm") => `(tactic| repeat (refine And.intro (by assumption) ?_))
/-! ### shelves, inputs, answers -/
/-- are_worths of d, n: b -/
def WsIs (n : Int) (d : D) (b : Bool) : Prop :=
  (∃ xs, d = .lst xs ∧ xs.length ≤ 100 ∧ (∀ x ∈ xs, kindly x) ∧ b = (decide ((xs.length : Int) = n) && xs.all (worthD 16))) ∨ (kindly d ∧ isLst d = false ∧ b = false)
def sem_p_are_worths : Sem := fun ds cs R => ∃ d n b, ds = [d, .int n] ∧ WsIs n d b ∧ R (.bl b) cs
theorem len_p_are_worths : ∀ ds cs R, sem_p_are_worths ds cs R → ds.length = 2 := by rintro ds cs R ⟨_, _, _, rfl, _⟩; rfl
def ex_p_are_worths_1 : DE :=
  (dLc (iSeq (dVar 0)) (.one 2) dYes (dFn 1 sem_p_is_worth (fun ds _ => ds ++ [.int 16]) (dCons (dVar 2) dNil)))
def ex_p_are_worths_2 : DE :=
  (dAndV (dCall (fIsi "list") (dCons (dVar 0) (dCons (dC (.ty "list")) dNil))) (dAndV (dBin dEq (dCall fLen (dCons (dVar 0) dNil)) (dVar 1)) (dCall fAll (dCons ex_p_are_worths_1 dNil))))
/-- are_worths: slots 0=thing 1=many 2=one -/
def den_p_are_worths : DS :=
  (sRet ex_p_are_worths_2)
theorem all_bl {α : Type} (f : α → Bool) (L : List α) : listD (.lst (L.map fun x => .bl (f x))) = some ((L.map f).map .bl) := by
  show some _ = some _
  rw [List.map_map]; rfl
theorem all_id {α : Type} (f : α → Bool) (L : List α) : (L.map f).all id = L.all f := by
  rw [List.all_map]; rfl
/-- all([e for x in L]) -/
theorem all_lc {α : Type} {di : DI} {g : TgN} {de : DE} {env : List (Option D)} {cs : Cells} {R : D → Z → Prop} {L : List α} {a : α → D} {f : α → Bool} (hd : ∀ Q, Q (L.map a) ⟨env, cs⟩ → di ⟨env, cs⟩ Q) (hl : L.length ≤ 10000000)
    (h : ∀ x ∈ L, ∃ env', tgSet g (a x) (wipeD env g.vs) = some env' ∧ ∀ (cs : Cells) (Q : D → Z → Prop), Q (.bl (f x)) ⟨env', cs⟩ → de ⟨env', cs⟩ Q) (q : R (.bl (L.all f)) ⟨env, cs⟩) : dCall fAll (dCons (dLc di g dYes de) dNil) ⟨env, cs⟩ R := by
  unfold dCall dCons dNil dLc
  refine hd _ fun k hk => ?_
  refine lc_fG (a := a) (b := fun x => D.bl (f x)) (p := fun _ => true) hk (fun x hx => ?_) (by rw [List.length_nil]; omega) ?_
  · obtain ⟨env', e1, h2⟩ := h x hx
    exact ⟨env', e1, fun _ _ h => h, fun cs Q _ h => h2 cs Q h⟩
  · rw [List.nil_append, List.filter_eq_self.mpr (fun _ _ => rfl)]
    exact ⟨_, L.map f, rfl, all_bl f L, by rw [all_id]; exact q⟩
theorem isi_l {d : D} {i : Nat} {env : List (Option D)} {cs : Cells} {R : D → Z → Prop} {b : Bool} (h : kindly d) (e : env[i]? = some (some d)) (hb : isLst d = b) (q : R (.bl b) ⟨env, cs⟩) : dCall (fIsi "list") (dCons (dVar i) (dCons (dC (.ty "list")) dNil)) ⟨env, cs⟩ R :=
  ⟨_, e, by subst hb; show fIsi "list" [d, .ty "list"] _ _; rw [isi_list h]; exact q⟩
theorem okd_p_are_worths : ∀ ds cs R, sem_p_are_worths ds cs R → den_p_are_worths { nx := fun c => R .non c.cs, rt := R } ⟨env0 3 ds, cs⟩ := by
  rintro ds cs R ⟨d, n, b, rfl, h, q⟩
  unfold den_p_are_worths ex_p_are_worths_2
  rcases h with ⟨xs, rfl, hl, hx, rfl⟩ | ⟨hk, hn, rfl⟩
  · unfold sRet
    rw [e_andV]
    refine isi_l (d := .lst xs) (b := true) rfl rfl rfl ?_
    rw [onB_t, e_andV]
    refine ⟨_, rfl, _, rfl, ?_⟩
    show onB (.bl (decide ((xs.length : Int) = n))) _ _
    by_cases z : (xs.length : Int) = n
    · rw [decide_eq_true z, onB_t]
      unfold ex_p_are_worths_1
      refine all_lc (a := id) (L := xs) (f := worthD 16) (fun Q h => ⟨_, rfl, _, rfl, by rw [List.map_id] at h; exact h⟩) (by omega) (fun x hx' => ⟨_, rfl, fun c Q h => ⟨_, rfl, rfl, hx x hx', by decide, h⟩⟩) ?_
      rw [decide_eq_true z, Bool.true_and] at q
      exact q
    · rw [decide_eq_false z, onB_f]
      rw [decide_eq_false z, Bool.false_and] at q
      exact q
  · unfold sRet
    rw [e_andV]
    refine isi_l hk rfl hn ?_
    rw [onB_f]
    exact q
/-- are_rooms of d, n: b -/
def RmIs (n : Int) (d : D) (b : Bool) : Prop :=
  (∃ L : List (L2.Key × D × Bool), d = .dic (L.map fun x => (x.1, x.2.1)) ∧ L.length ≤ 100 ∧ (L.map (·.1)).Nodup ∧ (∀ x ∈ L, worthD 16 (kD x.1) = true → WsIs n x.2.1 x.2.2) ∧ b = L.all fun x => worthD 16 (kD x.1) && x.2.2) ∨
  (∃ c e, d = .dicB c e ∧ b = false) ∨ (kindly d ∧ isDic d = false ∧ b = false)
def sem_p_are_rooms : Sem := fun ds cs R => ∃ d n b, ds = [d, .int n] ∧ RmIs n d b ∧ R (.bl b) cs
theorem len_p_are_rooms : ∀ ds cs R, sem_p_are_rooms ds cs R → ds.length = 2 := by rintro ds cs R ⟨_, _, _, rfl, _⟩; rfl
def ex_p_are_rooms_1 : DE :=
  (dAndV (dFn 1 sem_p_is_worth (fun ds _ => ds ++ [.int 16]) (dCons (dVar 2) dNil)) (dFn 2 sem_p_are_worths (fun ds _ => ds) (dCons (dBin dIxF (dVar 0) (dVar 2)) (dCons (dVar 1) dNil))))
def ex_p_are_rooms_2 : DE :=
  (dLc (iKDB (dVar 0)) (.one 2) dYes ex_p_are_rooms_1)
/-- are_rooms: slots 0=thing 1=size 2=key -/
def den_p_are_rooms : DS :=
  (sSeq (sIf (dNotT (dTru (dCall (fIsiB "dict") (dCons (dVar 0) (dCons (dC (.ty "dict")) dNil))))) (sRet (dC (.bl false))) sNext)
    (sRet (dCall fAll (dCons ex_p_are_rooms_2 dNil))))
theorem look_nd {α : Type} {f : α → L2.Key × D} {L : List α} (h : (L.map fun x => (f x).1).Nodup) {x : α} (hx : x ∈ L) : lookD (L.map f) (f x).1 = some (f x).2 := by
  induction L with
  | nil => cases hx
  | cons y L ih =>
    rw [List.map_cons, List.nodup_cons] at h
    rcases List.mem_cons.mp hx with rfl | hx
    · simp [lookD]
    · have ne : (f y).1 ≠ (f x).1 := fun e => h.1 (List.mem_map.mpr ⟨x, hx, e.symm⟩)
      have := ih h.2 hx
      simpa [lookD, List.find?_cons, ne] using this
theorem ix_key {kvs : List (L2.Key × D)} {k : L2.Key} {d : D} {c : Z} {R : D → Z → Prop} (h : lookD kvs k = some d) (q : R d c) : dIxF (.dic kvs) (kD k) c R := by
  cases k with
  | inl i => exact ⟨d, h, q⟩
  | inr s => exact ⟨d, h, q⟩
theorem kd_kindly {k : L2.Key} : kindly (kD k) := by cases k <;> rfl
theorem isiB_no {d : D} {i : Nat} {env : List (Option D)} {cs : Cells} {R : D → Z → Prop} (h : kindly d) (hb : isDic d = false) (e : env[i]? = some (some d)) (q : R (.bl false) ⟨env, cs⟩) : dCall (fIsiB "dict") (dCons (dVar i) (dCons (dC (.ty "dict")) dNil)) ⟨env, cs⟩ R := by
  refine ⟨_, e, ?_⟩
  show fIsiB "dict" [d, .ty "dict"] _ _
  match d, h, hb with
  | .non, _, _ => exact ⟨rfl, "NoneType", false, rfl, by decide +kernel, q⟩
  | .bl _, _, _ => exact ⟨rfl, "bool", false, rfl, by decide +kernel, q⟩
  | .int _, _, _ => exact ⟨rfl, "int", false, rfl, by decide +kernel, q⟩
  | .str _, _, _ => exact ⟨rfl, "str", false, rfl, by decide +kernel, q⟩
  | .lst _, _, _ => exact ⟨rfl, "list", false, rfl, by decide +kernel, q⟩
  | .slst _, _, _ => exact ⟨rfl, "list", false, rfl, by decide +kernel, q⟩
  | .tup _, _, _ => exact ⟨rfl, "tuple", false, rfl, by decide +kernel, q⟩
theorem isiB_dic {L : List (L2.Key × D)} {i : Nat} {env : List (Option D)} {cs : Cells} {R : D → Z → Prop} (e : env[i]? = some (some (.dic L))) (q : R (.bl true) ⟨env, cs⟩) : dCall (fIsiB "dict") (dCons (dVar i) (dCons (dC (.ty "dict")) dNil)) ⟨env, cs⟩ R :=
  ⟨_, e, rfl, "dict", true, rfl, by decide +kernel, q⟩
theorem isiB_dicB {b : Bool} {d : D} {i : Nat} {env : List (Option D)} {cs : Cells} {R : D → Z → Prop} (e : env[i]? = some (some (.dicB b d))) (q : R (.bl true) ⟨env, cs⟩) : dCall (fIsiB "dict") (dCons (dVar i) (dCons (dC (.ty "dict")) dNil)) ⟨env, cs⟩ R :=
  ⟨_, e, rfl, true, by decide +kernel, q⟩
theorem if_nt {p q : Prop} (h : q) : if (!true) = true then p else q := h
theorem if_nf {p q : Prop} (h : p) : if (!false) = true then p else q := h
theorem okd_p_are_rooms : ∀ ds cs R, sem_p_are_rooms ds cs R → den_p_are_rooms { nx := fun c => R .non c.cs, rt := R } ⟨env0 3 ds, cs⟩ := by
  rintro ds cs R ⟨d, n, b, rfl, h, q⟩
  unfold den_p_are_rooms sSeq
  rw [e_if]
  rcases h with ⟨L, rfl, hl, hn, hw, rfl⟩ | ⟨c, e, rfl, rfl⟩ | ⟨hk, hn, rfl⟩
  · refine isiB_dic rfl ⟨true, rfl, if_nt ?_⟩
    show dCall fAll (dCons (dLc (iKDB (dVar 0)) (.one 2) dYes ex_p_are_rooms_1) dNil) _ _
    refine all_lc (R := fun d c => R d c.cs) (L := L) (a := fun x => kD x.1) (f := fun x => worthD 16 (kD x.1) && x.2.2) (fun Q h => ⟨_, rfl, _, rfl, by rw [List.map_map]; exact h⟩) (by omega) (fun x hx => ⟨_, rfl, fun c Q h => ?_⟩) q
    unfold ex_p_are_rooms_1
    rw [e_andV]
    refine ⟨_, rfl, rfl, kd_kindly, by decide, ?_⟩
    cases z : worthD 16 (kD x.1) with
    | false =>
      rw [z, Bool.false_and] at h
      rw [onB_f]; exact h
    | true =>
      rw [z, Bool.true_and] at h
      rw [onB_t]
      refine ⟨_, rfl, _, rfl, ix_key (look_nd (f := fun x : L2.Key × D × Bool => (x.1, x.2.1)) hn hx) ⟨_, rfl, rfl, _, _, _, rfl, hw x hx z, h⟩⟩
  · refine isiB_dicB rfl ⟨true, rfl, if_nt ?_⟩
    show dCall fAll (dCons (dLc (iKDB (dVar 0)) (.one 2) dYes ex_p_are_rooms_1) dNil) _ _
    refine all_lc (R := fun d c => R d c.cs) (L := [()]) (a := fun _ => .bl c) (f := fun _ => false) (fun Q h => ⟨_, rfl, _, rfl, h⟩) (by decide) (fun x hx => ⟨_, rfl, fun c Q h => ?_⟩) q
    unfold ex_p_are_rooms_1
    rw [e_andV]
    refine ⟨_, rfl, rfl, rfl, by decide, ?_⟩
    show onB (.bl false) _ _
    rw [onB_f]; exact h
  · exact isiB_no hk hn rfl ⟨false, rfl, if_nf q⟩
theorem dc_gen {α : Type} {k : Nat} {g : TgN} {dk dv : DE} {env : List (Option D)} {a : α → D} {f : α → L2.Key × D} {R : List (L2.Key × D) → Cells → Prop} : ∀ {L : List α} {acc : List (L2.Key × D)} {cs : Cells}, cs k = none →
    (∀ x ∈ L, ∃ env', tgSet g (a x) env = some env' ∧ (∀ (cs : Cells) (Q : D → Z → Prop), Q (kD (f x).1) ⟨env', cs⟩ → dk ⟨env', cs⟩ Q) ∧ ∀ (cs : Cells) (Q : D → Z → Prop), Q (f x).2 ⟨env', cs⟩ → dv ⟨env', cs⟩ Q) →
    (L.map fun x => (f x).1).Nodup → (∀ x ∈ L, ∀ p ∈ acc, p.1 ≠ (f x).1) → acc.length + L.length ≤ 10000000 → R (acc ++ L.map f) cs → dcGo k g dYes dk dv env (L.map a) acc cs R
  | [], acc, cs, hk, _, _, _, _, q => by rw [List.map_nil, List.append_nil] at q; exact q
  | x :: L, acc, cs, hk, h, hn, hp, hl, q => by
    rw [List.map_cons, List.nodup_cons] at hn
    rw [List.length_cons] at hl
    obtain ⟨env', e1, h1, h2⟩ := h x List.mem_cons_self
    refine ⟨env', e1, ?_⟩
    unfold dYes
    refine h1 _ _ (h2 _ _ ⟨_, keyD_kD, put_same, by rw [sizeLine_eq]; omega, ?_⟩)
    have en : putD acc (f x).1 (f x).2 = acc ++ [f x] := by
      unfold putD
      rw [if_neg]
      rw [List.any_eq_true]
      rintro ⟨p, hm, e⟩
      exact hp x List.mem_cons_self p hm (of_decide_eq_true e)
    rw [en]
    have ed : del (put cs k (Co.dic acc)) k = cs := by
      funext j; unfold del put; split
      · rename_i e; rw [e, hk]
      · rfl
    show dcGo k _ _ _ _ _ _ _ (del (put cs k (Co.dic acc)) k) R
    rw [ed]
    refine dc_gen hk (fun y hy => h y (List.mem_cons_of_mem _ hy)) hn.2 (fun y hy p hm => ?_) (by rw [List.length_append, List.length_singleton]; omega) (by rw [List.append_assoc]; exact q)
    rcases List.mem_append.mp hm with m | m
    · exact hp y (List.mem_cons_of_mem _ hy) p m
    · rw [List.mem_singleton.mp m]
      intro e
      exact hn.1 (List.mem_map.mpr ⟨y, hy, e.symm⟩)
/-- the contract of the law: its shelves, its calls -/
def conD (sz : Int) (cl : List D) : D := .tup [.lst [.tup [.str "rooms", .int sz], .tup [.str "bits", .int 1]], .lst cl]
/-- are_shelves of d by a contract: b -/
def ShIs (sz : Int) (d : D) (b : Bool) : Prop :=
  (∃ L : List (L2.Key × D), d = .dic L ∧ L.length ≠ 2 ∧ b = false) ∨ (kindly d ∧ isDic d = false ∧ b = false) ∨
  (∃ x y bx b1, d = .dic [(.inr "rooms", x), (.inr "bits", y)] ∧ RmIs sz x bx ∧ RmIs 1 y b1 ∧ b = (bx && b1)) ∨ (∃ x y bx, d = .dic [(.inr "rooms", x), (.inr "bit", y)] ∧ RmIs sz x bx ∧ b = false)
def sem_p_are_shelves : Sem := fun ds cs R => ∃ sz cl d b, ds = [conD sz cl, d] ∧ ShIs sz d b ∧ R (.bl b) cs
theorem len_p_are_shelves : ∀ ds cs R, sem_p_are_shelves ds cs R → ds.length = 2 := by rintro ds cs R ⟨_, _, _, _, rfl, _⟩; rfl
def te_p_are_shelves_1 : DT :=
  (dOrT (dNotT (dTru (dCall (fIsi "dict") (dCons (dVar 1) (dCons (dC (.ty "dict")) dNil))))) (dTB (dBin dNe (dCall fLen (dCons (dVar 1) dNil)) (dCall fLen (dCons (dVar 2) dNil)))))
def ex_p_are_shelves_1 : DE :=
  (dAndV (dBin dInF (dVar 3) (dVar 1)) (dFn 2 sem_p_are_rooms (fun ds _ => ds) (dCons (dBin dIxF (dVar 1) (dVar 3)) (dCons (dBin dIxF (dVar 2) (dVar 3)) dNil))))
def ex_p_are_shelves_2 : DE :=
  (dLc (iKD (dVar 2)) (.one 3) dYes ex_p_are_shelves_1)
/-- are_shelves: slots 0=contract 1=thing 2=sizes 3=name -/
def den_p_are_shelves : DS :=
  (sSeq (sAsg (dCall fDictP (dCons (dBin dIxF (dVar 0) (dC (.int 0))) dNil)) 2)
    (sSeq (sIf te_p_are_shelves_1 (sRet (dC (.bl false))) sNext)
    (sRet (dCall fAll (dCons ex_p_are_shelves_2 dNil)))))
theorem isi_d {d : D} {i : Nat} {env : List (Option D)} {cs : Cells} {R : D → Z → Prop} {b : Bool} (h : kindly d) (e : env[i]? = some (some d)) (hb : isDic d = b) (q : R (.bl b) ⟨env, cs⟩) : dCall (fIsi "dict") (dCons (dVar i) (dCons (dC (.ty "dict")) dNil)) ⟨env, cs⟩ R :=
  ⟨_, e, by subst hb; show fIsi "dict" [d, .ty "dict"] _ _; rw [isi_dict h]; exact q⟩
def szD (sz : Int) : D := .dic [(.inr "rooms", .int sz), (.inr "bits", .int 1)]
theorem in_d {x : Str} {kvs : List (L2.Key × D)} {b : Bool} {c : Z} {R : D → Z → Prop} (h : (lookD kvs (.inr x)).isSome = b) (q : R (.bl b) c) : dInF (.str x) (.dic kvs) c R := by subst h; exact q
theorem okd_p_are_shelves : ∀ ds cs R, sem_p_are_shelves ds cs R → den_p_are_shelves { nx := fun c => R .non c.cs, rt := R } ⟨env0 4 ds, cs⟩ := by
  rintro ds cs R ⟨sz, cl, d, b, rfl, h, q⟩
  unfold den_p_are_shelves sSeq sAsg
  refine ⟨_, rfl, _, rfl, _, [(.inr "rooms", .int sz), (.inr "bits", .int 1)], rfl, rfl, ?_⟩
  show sIf te_p_are_shelves_1 _ _ _ ⟨[some (conD sz cl), some d, some (szD sz), none], cs⟩
  rw [e_if]
  unfold te_p_are_shelves_1
  rw [e_orT]
  rcases h with ⟨L, rfl, hl, rfl⟩ | ⟨hk, hn, rfl⟩ | ⟨x, y, bx, b1, rfl, hx, hy, rfl⟩ | ⟨x, y, bx, rfl, hx, rfl⟩
  · refine isi_d (d := .dic L) (b := true) rfl rfl rfl ⟨true, rfl, ?_⟩
    refine ⟨_, rfl, _, rfl, ?_⟩
    show if (!decide ((L.length : Int) = 2)) = true then _ else _
    rw [decide_eq_false (by omega)]
    exact q
  · exact isi_d hk rfl hn ⟨false, rfl, q⟩
  · refine isi_d (d := .dic _) (b := true) rfl rfl rfl ⟨true, rfl, ?_⟩
    refine ⟨_, rfl, _, rfl, ?_⟩
    show dCall fAll (dCons (dLc (iKD (dVar 2)) (.one 3) dYes ex_p_are_shelves_1) dNil) _ _
    refine all_lc (R := fun d c => R d c.cs) (L := [(("rooms" : Str), sz, x, bx), ("bits", 1, y, b1)]) (a := fun p => D.str p.1) (f := fun p => p.2.2.2) (fun Q h => ⟨_, rfl, h⟩) (ble rfl) (fun p hp => ⟨_, rfl, fun c Q h => ?_⟩) (by show R (.bl (bx && (b1 && true))) cs; rw [Bool.and_true]; exact q)
    unfold ex_p_are_shelves_1
    rw [e_andV]
    simp only [List.mem_cons, List.not_mem_nil, or_false] at hp
    rcases hp with rfl | rfl
    · refine ⟨_, rfl, _, rfl, in_d (b := true) rfl ?_⟩
      rw [onB_t]
      exact ⟨_, rfl, _, rfl, _, rfl, _, rfl, _, rfl, _, rfl, rfl, x, sz, bx, rfl, hx, h⟩
    · refine ⟨_, rfl, _, rfl, in_d (b := true) rfl ?_⟩
      rw [onB_t]
      exact ⟨_, rfl, _, rfl, _, rfl, _, rfl, _, rfl, _, rfl, rfl, y, 1, b1, rfl, hy, h⟩
  · refine isi_d (d := .dic _) (b := true) rfl rfl rfl ⟨true, rfl, ?_⟩
    refine ⟨_, rfl, _, rfl, ?_⟩
    show dCall fAll (dCons (dLc (iKD (dVar 2)) (.one 3) dYes ex_p_are_shelves_1) dNil) _ _
    refine all_lc (R := fun d c => R d c.cs) (L := [(("rooms" : Str), bx), ("bits", false)]) (a := fun p => D.str p.1) (f := fun p => p.2) (fun Q h => ⟨_, rfl, h⟩) (ble rfl) (fun p hp => ⟨_, rfl, fun c Q h => ?_⟩) (by show R (.bl (bx && (false && true))) cs; rw [Bool.false_and, Bool.and_false]; exact q)
    unfold ex_p_are_shelves_1
    rw [e_andV]
    simp only [List.mem_cons, List.not_mem_nil, or_false] at hp
    rcases hp with rfl | rfl
    · refine ⟨_, rfl, _, rfl, in_d (b := true) rfl ?_⟩
      rw [onB_t]
      exact ⟨_, rfl, _, rfl, _, rfl, _, rfl, _, rfl, _, rfl, rfl, x, sz, bx, rfl, hx, h⟩
    · refine ⟨_, rfl, _, rfl, in_d (b := false) rfl ?_⟩
      rw [onB_f]
      exact h
/-- dicts of dicts of lists, each key once -/
def cpD (L : List (Str × List (L2.Key × List D))) : D := .dic (L.map fun p => (.inr p.1, .dic (p.2.map fun q => (q.1, .lst q.2))))
structure CpOk (L : List (Str × List (L2.Key × List D))) : Prop where
  l : L.length ≤ 100
  u : (L.map (·.1)).Nodup
  k : ∀ p ∈ L, p.2.length ≤ 100 ∧ (p.2.map (·.1)).Nodup
def sem_p_copied : Sem := fun ds cs R => ∃ L, ds = [cpD L] ∧ CpOk L ∧ R (cpD L) cs
theorem len_p_copied : ∀ ds cs R, sem_p_copied ds cs R → ds.length = 1 := by rintro ds cs R ⟨_, rfl, _⟩; rfl
def ex_p_copied_1 : DE :=
  (dDc (iItD (dBin dIxF (dVar 0) (dVar 3))) (.tup [1, 2]) dYes (dVar 1) (dCall fLstOf (dCons (dVar 2) dNil)))
def ex_p_copied_2 : DE :=
  (dDc (iKD (dVar 0)) (.one 3) dYes (dVar 3) ex_p_copied_1)
/-- copied: slots 0=shelves 1=key 2=room 3=name -/
def den_p_copied : DS :=
  (sRet ex_p_copied_2)
theorem nodup_inr : ∀ {L : List Str}, L.Nodup → (L.map fun s => (Sum.inr s : L2.Key)).Nodup
  | [], _ => List.nodup_nil
  | s :: L, h => by
    rw [List.nodup_cons] at h
    rw [List.map_cons, List.nodup_cons]
    refine ⟨fun m => ?_, nodup_inr h.2⟩
    obtain ⟨t, ht, e⟩ := List.mem_map.mp m
    cases e
    exact h.1 ht
theorem okd_p_copied : ∀ ds cs R, sem_p_copied ds cs R → den_p_copied { nx := fun c => R .non c.cs, rt := R } ⟨env0 4 ds, cs⟩ := by
  rintro ds cs R ⟨L, rfl, h, q⟩
  unfold den_p_copied sRet ex_p_copied_2 dDc
  refine ⟨_, rfl, fun k hk => ?_⟩
  rw [List.map_map]
  have hu : (L.map fun p => (Sum.inr p.1 : L2.Key)).Nodup := by
    have := nodup_inr h.u
    rw [List.map_map] at this
    exact this
  show dcGo k (.one 3) dYes (dVar 3) ex_p_copied_1 _ (L.map fun p => D.str p.1) [] _ _
  refine dc_gen (g := .one 3) (dk := dVar 3) (dv := ex_p_copied_1) (env := [some (cpD L), none, none, none]) (L := L) (a := fun p => D.str p.1) (f := fun p : Str × List (L2.Key × List D) => ((.inr p.1 : L2.Key), .dic (p.2.map fun q => (q.1, .lst q.2)))) hk (fun p hp => ⟨[some (cpD L), none, none, some (.str p.1)], rfl, fun c Q (h : Q (.str p.1) _) => ⟨.str p.1, rfl, h⟩, fun c Q hq => ?_⟩) hu (fun _ _ _ h => absurd h List.not_mem_nil) (by have := h.l; simp only [List.length_nil]; omega) (R := fun acc cs' => R (.dic acc) cs') (by rw [List.nil_append]; exact q)
  unfold ex_p_copied_1 dDc
  obtain ⟨hl, hn⟩ := h.k p hp
  refine ⟨_, rfl, _, rfl, ix_key (k := .inr p.1) (look_nd (f := fun p : Str × List (L2.Key × List D) => ((.inr p.1 : L2.Key), D.dic (p.2.map fun q => (q.1, .lst q.2)))) hu hp) ?_⟩
  intro k2 hk2
  rw [List.map_map]
  show dcGo k2 (.tup [1, 2]) dYes (dVar 1) (dCall fLstOf (dCons (dVar 2) dNil)) _ (p.2.map fun q => D.tup [kD q.1, .lst q.2]) [] _ _
  refine dc_gen (g := .tup [1, 2]) (dk := dVar 1) (dv := dCall fLstOf (dCons (dVar 2) dNil)) (env := [some (cpD L), none, none, some (.str p.1)]) (L := p.2) (a := fun q => D.tup [kD q.1, .lst q.2]) (f := fun q : L2.Key × List D => (q.1, .lst q.2)) hk2 (fun r hr => ⟨_, rfl, fun c Q h => ⟨kD r.1, rfl, h⟩, fun c Q h => ⟨.lst r.2, rfl, h⟩⟩) hn (fun _ _ _ h => absurd h List.not_mem_nil) (by simp only [List.length_nil]; omega) (R := fun acc cs' => Q (.dic acc) ⟨_, cs'⟩) (by rw [List.nil_append]; exact hq)
/-- an input, answers: let by or not (p: what each of them must be, m: how many) -/
def LtIs (p : D → Bool) (m : Nat) (d : D) (b : Bool) : Prop :=
  (∃ xs, ltD d = some xs ∧ xs.length ≤ 1000 ∧ (∀ x ∈ xs, kindly x) ∧ b = (decide (xs.length ≤ m) && xs.all p)) ∨ (kindly d ∧ isLst d = false ∧ isTup d = false ∧ b = false)
def noIn (s : Str) : DX := ⟨"NoInput", some [("part", .str s)]⟩
def sem_p_look_at_given : SemX := fun ds cs R XX => ∃ d b, ds = [d] ∧ LtIs (worthD 16) 16 d b ∧ if b = true then R .non cs else XX (noIn "input") cs
theorem len_p_look_at_given : ∀ ds cs R XX, sem_p_look_at_given ds cs R XX → ds.length = 1 := by rintro ds cs R XX ⟨_, _, rfl, _⟩; rfl
def ex_p_look_at_given_1 : DE :=
  (dLc (iLT (dVar 0)) (.one 1) dYes (dFn 1 sem_p_is_worth (fun ds _ => ds ++ [.int 16]) (dCons (dVar 1) dNil)))
def te_p_look_at_given_1 : DT :=
  (dOrT (dNotT (dTru (dIsiT ["list", "tuple"] (dVar 0)))) (dOrT (dTB (dBin dGt (dCall fLen (dCons (dVar 0) dNil)) (dC (.int 16)))) (dNotT (dTru (dCall fAll (dCons ex_p_look_at_given_1 dNil))))))
/-- look_at_given: slots 0=given 1=one -/
def den_p_look_at_given : DS :=
  (sIf te_p_look_at_given_1 (sRaiseF "NoInput" ["part"] (dCons (dC (.str "input")) dNil)) sNext)
theorem isiT_lt {d : D} {i : Nat} {env : List (Option D)} {cs : Cells} {R : D → Z → Prop} {b : Bool} (h : kindly d) (e : env[i]? = some (some d)) (hb : (isLst d || isTup d) = b) (q : R (.bl b) ⟨env, cs⟩) : dIsiT ["list", "tuple"] (dVar i) ⟨env, cs⟩ R := by
  refine ⟨_, e, ?_⟩
  subst hb
  match d, h with
  | .non, _ => exact ⟨"NoneType", false, rfl, by decide +kernel, q⟩
  | .bl _, _ => exact ⟨"bool", false, rfl, by decide +kernel, q⟩
  | .int _, _ => exact ⟨"int", false, rfl, by decide +kernel, q⟩
  | .str _, _ => exact ⟨"str", false, rfl, by decide +kernel, q⟩
  | .lst _, _ => exact ⟨"list", true, rfl, by decide +kernel, q⟩
  | .slst _, _ => exact ⟨"list", true, rfl, by decide +kernel, q⟩
  | .tup _, _ => exact ⟨"tuple", true, rfl, by decide +kernel, q⟩
  | .dic _, _ => exact ⟨"dict", false, rfl, by decide +kernel, q⟩
theorem lt_kind {d : D} {xs : List D} (h : ltD d = some xs) : kindly d ∧ (isLst d || isTup d) = true ∧ ∀ {c : Z} {R : D → Z → Prop}, R (.int (xs.length : Int)) c → fLen [d] c R := by
  cases d <;> first | (cases h; exact ⟨rfl, rfl, fun q => q⟩) | cases h
theorem okd_p_look_at_given : ∀ ds cs R XX, sem_p_look_at_given ds cs R XX → den_p_look_at_given { nx := fun c => R .non c.cs, rt := R, xx := fun x c => XX x c.cs } ⟨env0 2 ds, cs⟩ := by
  rintro ds cs R XX ⟨d, b, rfl, h, q⟩
  unfold den_p_look_at_given
  rw [e_if]
  unfold te_p_look_at_given_1
  rw [e_orT]
  rcases h with ⟨xs, hx, hl, hk, rfl⟩ | ⟨hk, h1, h2, rfl⟩
  · obtain ⟨k1, k2, k3⟩ := lt_kind hx
    show dTru (dIsiT ["list", "tuple"] (dVar 0)) ⟨env0 2 [d], cs⟩ _
    unfold dTru
    refine isiT_lt k1 rfl k2 ⟨true, rfl, if_nt ?_⟩
    rw [e_orT, e_tb]
    refine ⟨_, rfl, ?_⟩
    dsimp only [dNil]
    refine k3 ?_
    by_cases z : xs.length ≤ 16
    · simp only [dC, dGt, e_int2, true_and]
      rw [decide_eq_false (by omega), onB_f, if_neg Bool.false_ne_true]
      show dTru (dCall fAll (dCons ex_p_look_at_given_1 dNil)) _ _
      unfold dTru ex_p_look_at_given_1
      refine all_lc (L := xs) (a := fun x => x) (f := worthD 16) (fun Q h => ⟨_, rfl, xs, hx, by rw [List.map_id'] at h; exact h⟩) (by omega) (fun x hm => ⟨_, rfl, fun c Q h => ⟨x, rfl, rfl, hk x hm, by decide, h⟩⟩) ?_
      rw [decide_eq_true z, Bool.true_and] at q
      refine ⟨_, rfl, ?_⟩
      cases e : xs.all (worthD 16) with
      | true => rw [e, if_pos rfl] at q; exact q
      | false => rw [e, if_neg Bool.false_ne_true] at q; exact ⟨rfl, by decide, q⟩
    · simp only [dC, dGt, e_int2, true_and]
      rw [decide_eq_true (by omega), onB_t, if_pos True.intro, if_pos True.intro]
      rw [decide_eq_false z, Bool.false_and, if_neg Bool.false_ne_true] at q
      exact ⟨rfl, by decide, q⟩
  · show dTru (dIsiT ["list", "tuple"] (dVar 0)) ⟨env0 2 [d], cs⟩ _
    unfold dTru
    refine isiT_lt hk rfl (b := false) (by rw [h1, h2]; rfl) ⟨false, rfl, ?_⟩
    exact ⟨rfl, by decide, q⟩
def sem_p_look_at_answers : SemX := fun ds cs R XX => ∃ d b, ds = [d] ∧ LtIs wholeD 1000 d b ∧ if b = true then R .non cs else XX (noIn "answers") cs
theorem len_p_look_at_answers : ∀ ds cs R XX, sem_p_look_at_answers ds cs R XX → ds.length = 1 := by rintro ds cs R XX ⟨_, _, rfl, _⟩; rfl
def ex_p_look_at_answers_1 : DE :=
  (dLc (iLT (dVar 0)) (.one 1) dYes (dFn 1 sem_p_is_whole (fun ds _ => ds) (dCons (dVar 1) dNil)))
def te_p_look_at_answers_1 : DT :=
  (dOrT (dNotT (dTru (dIsiT ["list", "tuple"] (dVar 0)))) (dNotT (dTru (dCall fAll (dCons ex_p_look_at_answers_1 dNil)))))
/-- look_at_answers: slots 0=answers 1=one -/
def den_p_look_at_answers : DS :=
  (sIf te_p_look_at_answers_1 (sRaiseF "NoInput" ["part"] (dCons (dC (.str "answers")) dNil)) sNext)
theorem okd_p_look_at_answers : ∀ ds cs R XX, sem_p_look_at_answers ds cs R XX → den_p_look_at_answers { nx := fun c => R .non c.cs, rt := R, xx := fun x c => XX x c.cs } ⟨env0 2 ds, cs⟩ := by
  rintro ds cs R XX ⟨d, b, rfl, h, q⟩
  unfold den_p_look_at_answers
  rw [e_if]
  unfold te_p_look_at_answers_1
  rw [e_orT]
  rcases h with ⟨xs, hx, hl, hk, rfl⟩ | ⟨hk, h1, h2, rfl⟩
  · obtain ⟨k1, k2, k3⟩ := lt_kind hx
    show dTru (dIsiT ["list", "tuple"] (dVar 0)) ⟨env0 2 [d], cs⟩ _
    unfold dTru
    refine isiT_lt k1 rfl k2 ⟨true, rfl, ?_⟩
    show dTru (dCall fAll (dCons ex_p_look_at_answers_1 dNil)) _ _
    unfold dTru ex_p_look_at_answers_1
    refine all_lc (L := xs) (a := fun x => x) (f := wholeD) (fun Q h => ⟨_, rfl, xs, hx, by rw [List.map_id'] at h; exact h⟩) (by omega) (fun x hm => ⟨_, rfl, fun c Q h => ⟨x, rfl, rfl, hk x hm, h⟩⟩) ?_
    rw [decide_eq_true hl, Bool.true_and] at q
    refine ⟨_, rfl, ?_⟩
    cases e : xs.all wholeD with
    | true => rw [e, if_pos rfl] at q; exact q
    | false => rw [e, if_neg Bool.false_ne_true] at q; exact ⟨rfl, by decide, q⟩
  · show dTru (dIsiT ["list", "tuple"] (dVar 0)) ⟨env0 2 [d], cs⟩ _
    unfold dTru
    refine isiT_lt hk rfl (b := false) (by rw [h1, h2]; rfl) ⟨false, rfl, ?_⟩
    exact ⟨rfl, by decide, q⟩
/-- a shelf that are_shelves lets by can be copied -/
theorem ws_true {n : Int} {d : D} (h : WsIs n d true) : ∃ xs, d = .lst xs := by
  rcases h with ⟨xs, rfl, _⟩ | ⟨_, _, e⟩
  · exact ⟨xs, rfl⟩
  · cases e
theorem rm_true {n : Int} {d : D} (h : RmIs n d true) : ∃ L : List (L2.Key × List D), d = .dic (L.map fun q => (q.1, .lst q.2)) ∧ L.length ≤ 100 ∧ (L.map (·.1)).Nodup := by
  rcases h with ⟨L, rfl, hl, hn, hw, e⟩ | ⟨_, _, _, e⟩ | ⟨_, _, e⟩
  · have ha := List.all_eq_true.mp e.symm
    have lk : ∀ x ∈ L, ∃ xs, x.2.1 = .lst xs := fun x hx => by
      have := Bool.and_eq_true_iff.mp (ha x hx)
      have hq := hw x hx this.1
      rw [this.2] at hq
      exact ws_true hq
    let f : L2.Key × D × Bool → L2.Key × List D := fun x => (x.1, match x.2.1 with | .lst xs => xs | _ => [])
    refine ⟨L.map f, ?_, by rw [List.length_map]; exact hl, by rw [List.map_map]; exact hn⟩
    rw [List.map_map]
    refine congrArg D.dic (List.map_congr_left fun x hx => ?_)
    obtain ⟨xs, hxs⟩ := lk x hx
    show (x.1, x.2.1) = (x.1, D.lst (match x.2.1 with | .lst xs => xs | _ => []))
    rw [hxs]
  · cases e
  · cases e
theorem sh_true {sz : Int} {d : D} (h : ShIs sz d true) : ∃ L, d = cpD L ∧ CpOk L := by
  rcases h with ⟨_, _, _, e⟩ | ⟨_, _, e⟩ | ⟨x, y, bx, b1, rfl, hx, hy, e⟩ | ⟨_, _, _, _, _, e⟩
  · cases e
  · cases e
  · have e' := Bool.and_eq_true_iff.mp e.symm
    rw [e'.1] at hx
    rw [e'.2] at hy
    obtain ⟨L1, rfl, l1, n1⟩ := rm_true hx
    obtain ⟨L2, rfl, l2, n2⟩ := rm_true hy
    refine ⟨[("rooms", L1), ("bits", L2)], rfl, ⟨ble rfl, by show (["rooms", "bits"] : List Str).Nodup; decide +kernel, fun p hp => ?_⟩⟩
    simp only [List.mem_cons, List.not_mem_nil, or_false] at hp
    rcases hp with rfl | rfl
    · exact ⟨l1, n1⟩
    · exact ⟨l2, n2⟩
  · cases e
def noSh : D := .dic [(.inr "rooms", .dic []), (.inr "bits", .dic [])]
def sem_p_shelves_of : SemX := fun ds cs R XX => ∃ sz cl d b, ds = [conD sz cl, d] ∧ ((d = .non ∧ R noSh cs) ∨ (kindly d ∧ d ≠ .non ∧ ShIs sz d b ∧ if b = true then R d cs else XX (noIn "shelves") cs))
theorem len_p_shelves_of : ∀ ds cs R XX, sem_p_shelves_of ds cs R XX → ds.length = 2 := by rintro ds cs R XX ⟨_, _, _, _, rfl, _⟩; rfl
def ex_p_shelves_of_1 : DE :=
  (dDc (iSeq (dBin dIxF (dVar 0) (dC (.int 0)))) (.tup [2, 3]) dYes (dVar 2) dDNew)
/-- shelves_of: slots 0=contract 1=thing 2=name 3=size -/
def den_p_shelves_of : DS :=
  (sSeq (sIf (dTB (dIsN (dVar 1))) (sRet ex_p_shelves_of_1) sNext)
    (sSeq (sIf (dNotT (dTru (dFn 2 sem_p_are_shelves (fun ds _ => ds) (dCons (dVar 0) (dCons (dVar 1) dNil))))) (sRaiseF "NoInput" ["part"] (dCons (dC (.str "shelves")) dNil)) sNext)
    (sRet (dFn 1 sem_p_copied (fun ds _ => ds) (dCons (dVar 1) dNil)))))
theorem okd_p_shelves_of : ∀ ds cs R XX, sem_p_shelves_of ds cs R XX → den_p_shelves_of { nx := fun c => R .non c.cs, rt := R, xx := fun x c => XX x c.cs } ⟨env0 4 ds, cs⟩ := by
  rintro ds cs R XX ⟨sz, cl, d, b, rfl, h⟩
  unfold den_p_shelves_of sSeq
  rw [e_if, e_tb]
  rcases h with ⟨rfl, q⟩ | ⟨hk, hn, hs, q⟩
  · refine ⟨_, rfl, ?_⟩
    show onB (.bl true) _ _
    rw [onB_t, if_pos rfl]
    unfold sRet ex_p_shelves_of_1 dDc
    refine ⟨_, rfl, _, rfl, _, rfl, fun k hk => ?_⟩
    show dcGo k (.tup [2, 3]) dYes (dVar 2) dDNew _ ([(("rooms" : Str), sz), ("bits", 1)].map fun p => D.tup [.str p.1, .int p.2]) [] _ _
    refine dc_gen (g := .tup [2, 3]) (dk := dVar 2) (dv := dDNew) (env := [some (conD sz cl), some .non, none, none]) (L := [(("rooms" : Str), sz), ("bits", 1)]) (a := fun p => D.tup [.str p.1, .int p.2]) (f := fun p : Str × Int => ((.inr p.1 : L2.Key), .dic [])) hk
      (fun p hp => ⟨_, rfl, fun c Q (h : Q (.str p.1) _) => ⟨.str p.1, rfl, h⟩, fun c Q h => h⟩) (by show ([.inr "rooms", .inr "bits"] : List L2.Key).Nodup; decide +kernel) (fun _ _ _ h => absurd h List.not_mem_nil) (ble rfl) (R := fun acc cs' => R (.dic acc) cs') q
  · refine ⟨_, rfl, ?_⟩
    have e0 : isNon d = false := by cases d <;> first | rfl | exact absurd rfl hn
    show onB (.bl (isNon d)) _ _
    rw [e0, onB_f, if_neg Bool.false_ne_true]
    dsimp only [sNext]
    rw [e_if]
    show dTru (dFn 2 sem_p_are_shelves (fun ds _ => ds) (dCons (dVar 0) (dCons (dVar 1) dNil))) _ _
    refine ⟨_, rfl, _, rfl, rfl, sz, cl, d, b, rfl, hs, ?_⟩
    cases b with
    | true =>
      rw [if_pos rfl] at q
      refine ⟨true, rfl, ?_⟩
      obtain ⟨L, rfl, hc⟩ := sh_true hs
      exact ⟨_, rfl, rfl, L, rfl, hc, q⟩
    | false =>
      rw [if_neg Bool.false_ne_true] at q
      exact ⟨false, rfl, rfl, by decide, q⟩
def Frd (cs cs' : Cells) : Prop := ∀ j o, cs j = some o → cs' j = some o
theorem Frd.refl {cs : Cells} : Frd cs cs := fun _ _ h => h
theorem Frd.trans {a b c : Cells} (h : Frd a b) (g : Frd b c) : Frd a c := fun j o e => g j o (h j o e)
theorem Frd.new {a b : Cells} {k : Nat} {o : Co} (h : Frd a b) (hk : b k = none) : Frd a (put b k o) := fun j u e => by
  rw [put_ne fun z => by rw [z] at e; rw [h _ _ e] at hk; cases hk]
  exact h j u e
theorem Frd.at {b : Cells} {k : Nat} {o : Co} : put b k o k = some o := put_same
/-! ### a runner as data -/
structure Rn where
  pg : List D
  cn : D
  gs : List D
  rm : D
  an : List D
  at_ : Int
  bx : List D
  rows : Int
  en : D
  pn : Nat
def pileD : D := .lst (List.replicate 8 .non)
def rnF (r : Rn) (b p : Nat) : List (Str × D) := [("own_program", .lst r.pg), ("own_contract", r.cn), ("own_given", .lst r.gs), ("rooms", r.rm), ("own_answers", .lst r.an), ("at_row", .int r.at_), ("own_boxes", .cel b), ("own_pile", pileD), ("lent_keys", .dic []), ("asks_many", .int 0), ("used", .int 0), ("rows_done", .int r.rows), ("own_end", r.en), ("past", .cel p)]
/-- all of c0 still stands; the runner of cell k is r -/
structure RnK (c0 cs : Cells) (k : Nat) (r : Rn) : Prop where
  fr : Frd c0 cs
  nk : c0 k = none
  ex : ∃ b p ps, cs k = some (.ins "Runner" (rnF r b p)) ∧ cs b = some (.lst r.bx) ∧ cs p = some (.lst ps) ∧ ps.length = r.pn ∧ c0 b = none ∧ c0 p = none ∧ k ≠ b ∧ k ≠ p ∧ b ≠ p
section
variable {r : Rn} {b p : Nat} {d : D} {v : Int}
theorem lk_pg : (rnF r b p).lookup ("own_program" : Str) = some (.lst r.pg) := rfl
theorem lk_rm : (rnF r b p).lookup ("rooms" : Str) = some r.rm := rfl
theorem lk_at : (rnF r b p).lookup ("at_row" : Str) = some (.int r.at_) := rfl
theorem lk_bx : (rnF r b p).lookup ("own_boxes" : Str) = some (.cel b) := rfl
theorem lk_pl : (rnF r b p).lookup ("own_pile" : Str) = some pileD := rfl
theorem lk_ln : (rnF r b p).lookup ("lent_keys" : Str) = some (.dic []) := rfl
theorem lk_am : (rnF r b p).lookup ("asks_many" : Str) = some (.int 0) := rfl
theorem lk_us : (rnF r b p).lookup ("used" : Str) = some (.int 0) := rfl
theorem lk_rw : (rnF r b p).lookup ("rows_done" : Str) = some (.int r.rows) := rfl
theorem lk_en : (rnF r b p).lookup ("own_end" : Str) = some r.en := rfl
theorem lk_ps : (rnF r b p).lookup ("past" : Str) = some (.cel p) := rfl
theorem no_by : (rnF r b p).lookup ("by_of" : Str) = none := rfl
theorem no_box : (rnF r b p).lookup ("box_of" : Str) = none := rfl
theorem no_fin : (rnF r b p).lookup ("finish" : Str) = none := rfl
theorem no_kept : (rnF r b p).lookup ("kept" : Str) = none := rfl
theorem no_step : (rnF r b p).lookup ("step" : Str) = none := rfl
theorem no_steps : (rnF r b p).lookup ("steps" : Str) = none := rfl
theorem no_told : (rnF r b p).lookup ("told" : Str) = none := rfl
theorem no_dorow : (rnF r b p).lookup ("do_row" : Str) = none := rfl
theorem pf_en : putFD "own_end" d (rnF r b p) = rnF { r with en := d } b p := rfl
theorem pf_at : putFD "at_row" (.int v) (rnF r b p) = rnF { r with at_ := v } b p := rfl
theorem pf_rw : putFD "rows_done" (.int v) (rnF r b p) = rnF { r with rows := v } b p := rfl
end
def sem_p_Runner_steps : Sem := fun ds cs R => ∃ c0 k r, ds = [.cel k] ∧ RnK c0 cs k r ∧ R (.int r.rows) cs
theorem len_p_Runner_steps : ∀ ds cs R, sem_p_Runner_steps ds cs R → ds.length = 1 := by rintro ds cs R ⟨_, _, _, rfl, _⟩; rfl
/-- Runner.steps: slots 0=self -/
def den_p_Runner_steps : DS :=
  (sRet (dFld "Runner" (dVar 0) "rows_done"))
theorem okd_p_Runner_steps : ∀ ds cs R, sem_p_Runner_steps ds cs R → den_p_Runner_steps { nx := fun c => R .non c.cs, rt := R } ⟨env0 1 ds, cs⟩ := by
  rintro ds cs R ⟨c0, k, r, rfl, ⟨_, _, b, p, ps, e1, _⟩, q⟩
  exact ⟨_, rfl, _, _, e1, lk_rw, q⟩
def endD (w : Str) (v : D) : D := .tup [.str w, v]
def sem_p_Runner_told : Sem := fun ds cs R => ∃ c0 k r, ds = [.cel k] ∧ RnK c0 cs k r ∧ ((r.en = .non ∧ R .non cs) ∨ ∃ w v L, r.en = endD w v ∧ r.rm = cpD L ∧ CpOk L ∧ R (.tup [.str w, v, .int r.rows, r.rm]) cs)
theorem len_p_Runner_told : ∀ ds cs R, sem_p_Runner_told ds cs R → ds.length = 1 := by rintro ds cs R ⟨_, _, _, rfl, _⟩; rfl
/-- Runner.told: slots 0=self -/
def den_p_Runner_told : DS :=
  (sSeq (sIf (dTB (dIsN (dFld "Runner" (dVar 0) "own_end"))) (sRet (dC .non)) sNext)
    (sRet (dBin dAddA (dFld "Runner" (dVar 0) "own_end") (dTup (dCons (dFld "Runner" (dVar 0) "rows_done") (dCons (dFn 1 sem_p_copied (fun ds _ => ds) (dCons (dFld "Runner" (dVar 0) "rooms") dNil)) dNil))))))
theorem okd_p_Runner_told : ∀ ds cs R, sem_p_Runner_told ds cs R → den_p_Runner_told { nx := fun c => R .non c.cs, rt := R } ⟨env0 1 ds, cs⟩ := by
  rintro ds cs R ⟨c0, k, r, rfl, ⟨_, _, b, p, ps, e1, _⟩, h⟩
  unfold den_p_Runner_told sSeq
  rw [e_if, e_tb]
  rcases h with ⟨he, q⟩ | ⟨w, v, L, he, hr, hc, q⟩
  · refine ⟨_, rfl, _, _, e1, lk_en, ?_⟩
    rw [he]
    dsimp only [isNon]
    rw [onB_t, if_pos rfl]
    exact q
  · refine ⟨_, rfl, _, _, e1, lk_en, ?_⟩
    rw [he]
    dsimp only [isNon, endD]
    rw [onB_f, if_neg Bool.false_ne_true]
    dsimp only [sNext]
    refine ⟨_, rfl, _, _, e1, lk_en, _, rfl, _, _, e1, lk_rw, _, rfl, _, _, e1, lk_rm, rfl, L, by rw [hr], hc, ?_⟩
    rw [hr] at q
    refine ⟨ble rfl, ?_⟩
    show dAddA r.en _ _ _
    rw [he]
    exact ⟨ble rfl, q⟩
def boxV (i : Int) : D := .tup [.str "box", .int i]
def sem_p_Runner_by_of : Sem := fun ds cs R => ∃ c0 k r i d, ds = [.cel k, boxV i] ∧ RnK c0 cs k r ∧ L2.atI r.bx i = some d ∧ isNon d = false ∧ R d cs
theorem len_p_Runner_by_of : ∀ ds cs R, sem_p_Runner_by_of ds cs R → ds.length = 2 := by rintro ds cs R ⟨_, _, _, _, _, rfl, _⟩; rfl
def ex_p_Runner_by_of_1 : DE :=
  (dIfE (dTB (dBin dEq (dBin dIxF (dVar 1) (dC (.int 0))) (dC (.str "worth")))) (dTup (dCons (dC (.str "number")) (dCons (dBin dIxF (dVar 1) (dC (.int 1))) dNil))) (dBin dIxF (dFld "Runner" (dVar 0) "own_boxes") (dBin dIxF (dVar 1) (dC (.int 1)))))
/-- Runner.by_of: slots 0=self 1=by 2=found -/
def den_p_Runner_by_of : DS :=
  (sSeq (sAsg ex_p_Runner_by_of_1 2)
    (sSeq (sIf (dTB (dIsN (dVar 2))) sNever sNext)
    (sRet (dVar 2))))
theorem okd_p_Runner_by_of : ∀ ds cs R, sem_p_Runner_by_of ds cs R → den_p_Runner_by_of { nx := fun c => R .non c.cs, rt := R } ⟨env0 3 ds, cs⟩ := by
  rintro ds cs R ⟨c0, k, r, i, d, rfl, ⟨_, _, b, p, ps, e1, e2, _⟩, ha, hd, q⟩
  unfold den_p_Runner_by_of sSeq sAsg ex_p_Runner_by_of_1
  rw [e_ifE, e_tb]
  refine ⟨_, rfl, _, rfl, ?_⟩
  simp only [dC, e_eq_ss]
  rw [decide_eq_false (by decide), onB_f, if_neg Bool.false_ne_true]
  refine ⟨_, rfl, _, _, e1, lk_bx, _, rfl, _, rfl, r.bx, d, e2, ha, ?_⟩
  dsimp only
  rw [e_if, e_tb]
  refine ⟨_, rfl, ?_⟩
  dsimp only
  rw [hd, onB_f, if_neg Bool.false_ne_true]
  exact ⟨_, rfl, q⟩
def sem_p_Runner_box_of : Sem := fun ds cs R => ∃ c0 k r i d, ds = [.cel k, .int i] ∧ RnK c0 cs k r ∧ L2.atI r.bx i = some d ∧ isNon d = false ∧ R d cs
theorem len_p_Runner_box_of : ∀ ds cs R, sem_p_Runner_box_of ds cs R → ds.length = 2 := by rintro ds cs R ⟨_, _, _, _, _, rfl, _⟩; rfl
/-- Runner.box_of: slots 0=self 1=box -/
def den_p_Runner_box_of : DS :=
  (sRet (dMeth "Runner" "by_of" 2 sem_p_Runner_by_of (fun ds _ => ds) (dVar 0) (dCons (dTup (dCons (dC (.str "box")) (dCons (dVar 1) dNil))) dNil)))
theorem okd_p_Runner_box_of : ∀ ds cs R, sem_p_Runner_box_of ds cs R → den_p_Runner_box_of { nx := fun c => R .non c.cs, rt := R } ⟨env0 2 ds, cs⟩ := by
  rintro ds cs R ⟨c0, k, r, i, d, rfl, h, ha, hd, q⟩
  obtain ⟨_, _, b, p, ps, e1, e2, _⟩ := id h
  unfold den_p_Runner_box_of sRet dMeth
  refine ⟨_, rfl, _, e1, no_by, _, rfl, ble rfl, rfl, c0, k, r, i, d, rfl, h, ha, hd, q⟩
def numV (v : Int) : D := .tup [.str "number", .int v]
theorem rnk_at {c0 cs : Cells} {k b p : Nat} {r : Rn} (h : RnK c0 cs k r) (hk : cs k = some (.ins "Runner" (rnF r b p))) :
    cs b = some (.lst r.bx) ∧ ∃ ps, cs p = some (.lst ps) ∧ ps.length = r.pn ∧ c0 b = none ∧ c0 p = none ∧ k ≠ b ∧ k ≠ p ∧ b ≠ p := by
  obtain ⟨fr, nk, b', p', ps, e1, e2, e3, e4, e5, e6, n1, n2, n3⟩ := h
  rw [hk] at e1
  have e1' := e1
  simp only [Option.some.injEq, Co.ins.injEq, true_and] at e1'
  have eb : b = b' := by
    have := congrArg (fun f => List.lookup ("own_boxes" : Str) f) e1'
    simpa [lk_bx] using this
  have ep : p = p' := by
    have := congrArg (fun f => List.lookup ("past" : Str) f) e1'
    simpa [lk_ps] using this
  subst eb ep
  exact ⟨e2, ps, e3, e4, e5, e6, n1, n2, n3⟩
theorem rnk_fld {c0 cs : Cells} {k b p : Nat} {r r2 : Rn} (h : RnK c0 cs k r) (hk : cs k = some (.ins "Runner" (rnF r b p))) (hb : r2.bx = r.bx) (hp : r2.pn = r.pn) : RnK c0 (put cs k (.ins "Runner" (rnF r2 b p))) k r2 := by
  obtain ⟨e2, ps, e3, e4, e5, e6, n1, n2, n3⟩ := rnk_at h hk
  refine ⟨fun j o e => ?_, h.nk, b, p, ps, put_same, by rw [put_ne n1.symm, hb]; exact e2, by rw [put_ne n2.symm]; exact e3, by rw [hp]; exact e4, e5, e6, n1, n2, n3⟩
  rw [put_ne fun z => by rw [z, h.nk] at e; cases e]
  exact h.fr j o e
theorem rnk_box {c0 cs : Cells} {k b p : Nat} {r : Rn} {ds : List D} (h : RnK c0 cs k r) (hk : cs k = some (.ins "Runner" (rnF r b p))) : RnK c0 (put cs b (.lst ds)) k { r with bx := ds } := by
  obtain ⟨e2, ps, e3, e4, e5, e6, n1, n2, n3⟩ := rnk_at h hk
  refine ⟨fun j o e => ?_, h.nk, b, p, ps, by rw [put_ne n1]; exact hk, put_same, by rw [put_ne n3.symm]; exact e3, e4, e5, e6, n1, n2, n3⟩
  rw [put_ne fun z => by rw [z, e5] at e; cases e]
  exact h.fr j o e
theorem rnk_past {c0 cs : Cells} {k b p : Nat} {r : Rn} {ds : List D} (h : RnK c0 cs k r) (hk : cs k = some (.ins "Runner" (rnF r b p))) : RnK c0 (put cs p (.lst ds)) k { r with pn := ds.length } := by
  obtain ⟨e2, ps, e3, e4, e5, e6, n1, n2, n3⟩ := rnk_at h hk
  refine ⟨fun j o e => ?_, h.nk, b, p, ds, by rw [put_ne n2]; exact hk, by rw [put_ne n3]; exact e2, put_same, rfl, e5, e6, n1, n2, n3⟩
  rw [put_ne fun z => by rw [z, e6] at e; cases e]
  exact h.fr j o e
def sem_p_Runner_finish : Sem := fun ds cs R => ∃ c0 k r v, ds = [.cel k] ∧ RnK c0 cs k r ∧ L2.atI r.bx 0 = some (numV v) ∧ ∀ cs', RnK c0 cs' k { r with en := endD "end" (.int v) } → R .non cs'
theorem len_p_Runner_finish : ∀ ds cs R, sem_p_Runner_finish ds cs R → ds.length = 1 := by rintro ds cs R ⟨_, _, _, _, rfl, _⟩; rfl
/-- Runner.finish: slots 0=self 1=found -/
def den_p_Runner_finish : DS :=
  (sSeq (sAsg (dMeth "Runner" "box_of" 2 sem_p_Runner_box_of (fun ds _ => ds) (dVar 0) (dCons (dC (.int 0)) dNil)) 1)
    (sSeq (sIf (dTB (dBin dNe (dBin dIxF (dVar 1) (dC (.int 0))) (dC (.str "number")))) sNever sNext)
    (sSeq (sIf (dTB (dBin dNeEm (dFld "Runner" (dVar 0) "lent_keys") dDNew)) sNever sNext)
    (sFldD "Runner" (dVar 0) (dTup (dCons (dC (.str "end")) (dCons (dBin dIxF (dVar 1) (dC (.int 1))) dNil))) "own_end"))))
theorem okd_p_Runner_finish : ∀ ds cs R, sem_p_Runner_finish ds cs R → den_p_Runner_finish { nx := fun c => R .non c.cs, rt := R } ⟨env0 2 ds, cs⟩ := by
  rintro ds cs R ⟨c0, k, r, v, rfl, h, ha, q⟩
  obtain ⟨_, _, b, p, ps, e1, e2, _⟩ := id h
  unfold den_p_Runner_finish sSeq sAsg
  refine ⟨_, rfl, _, e1, no_box, rfl, c0, k, r, 0, numV v, rfl, h, ha, rfl, ?_⟩
  dsimp only
  rw [e_if, e_tb]
  refine ⟨_, rfl, _, rfl, ?_⟩
  simp only [dC, e_ne_ss, decide_true, Bool.not_true]
  rw [onB_f, if_neg (by simp)]
  dsimp only [sNext]
  rw [e_if, e_tb]
  refine ⟨_, rfl, _, _, e1, lk_ln, [], .inl rfl, rfl, ?_⟩
  dsimp only [List.isEmpty_nil]
  rw [Bool.not_true, onB_f, if_neg Bool.false_ne_true]
  dsimp only [sNext]
  refine ⟨_, rfl, _, rfl, ble rfl, _, rfl, _, e1, ble rfl, q _ ?_⟩
  rw [pf_en]
  exact rnk_fld h e1 rfl rfl
/-- what a row of the law's programs does: set 0, 1, then the end -/
def rowR (w : Str) (r : Rn) : Rn := if w = "set" then { r with bx := r.bx.set 0 (numV 1) } else { r with en := endD "end" (.int 1) }
def sem_p_Runner_do_row : Sem := fun ds cs R => ∃ c0 k r, ((ds = [.cel k, .str "set", .lst [.int 0, .int 1]] ∧ r.bx.length = 6 ∧ ∀ cs', RnK c0 cs' k (rowR "set" r) → R (.tup [.int (r.at_ + 1), .non]) cs') ∨
    (ds = [.cel k, .str "end", .lst []] ∧ L2.atI r.bx 0 = some (numV 1) ∧ ∀ cs', RnK c0 cs' k (rowR "end" r) → R (.tup [.int (r.at_ + 1), .non]) cs')) ∧ RnK c0 cs k r
theorem len_p_Runner_do_row : ∀ ds cs R, sem_p_Runner_do_row ds cs R → ds.length = 3 := by rintro ds cs R ⟨_, _, _, ⟨rfl, _⟩ | ⟨rfl, _⟩, _⟩ <;> rfl
def if_p_Runner_do_row_1 : DS :=
  (sIf (dTB (dBin dEq (dVar 1) (dC (.str "call")))) sNever (sDrop (dMeth "Runner" "finish" 1 sem_p_Runner_finish (fun ds _ => ds) (dVar 0) dNil)))
def if_p_Runner_do_row_2 : DS :=
  (sIf (dTB (dBin dEq (dVar 1) (dC (.str "store")))) sNever if_p_Runner_do_row_1)
def if_p_Runner_do_row_3 : DS :=
  (sIf (dTB (dBin dEq (dVar 1) (dC (.str "load")))) sNever if_p_Runner_do_row_2)
def if_p_Runner_do_row_4 : DS :=
  (sIf (dTB (dBin dEq (dVar 1) (dC (.str "go")))) sNever if_p_Runner_do_row_3)
def if_p_Runner_do_row_5 : DS :=
  (sIf (dTB (dBin dEq (dVar 1) (dC (.str "jump")))) sNever if_p_Runner_do_row_4)
def if_p_Runner_do_row_6 : DS :=
  (sIf (dTB (dBin dEq (dVar 1) (dC (.str "do")))) sNever if_p_Runner_do_row_5)
def if_p_Runner_do_row_7 : DS :=
  (sIf (dTB (dBin dEq (dVar 1) (dC (.str "move")))) sNever if_p_Runner_do_row_6)
def if_p_Runner_do_row_8 : DS :=
  (sIf (dTB (dBin dEq (dVar 1) (dC (.str "set")))) (sAsgG (dTup (dCons (dC (.str "number")) (dCons (dBin dIxF (dVar 2) (dC (.int 1))) dNil))) (gIx (dFld "Runner" (dVar 0) "own_boxes") (dBin dIxF (dVar 2) (dC (.int 0))))) if_p_Runner_do_row_7)
/-- Runner.do_row: slots 0=self 1=word 2=rest 3=later 4=elder -/
def den_p_Runner_do_row : DS :=
  (sSeq (sPar 3 4 (dCons (dBin dAdd (dFld "Runner" (dVar 0) "at_row") (dC (.int 1))) (dCons (dC .non) dNil)))
    (sSeq if_p_Runner_do_row_8
    (sRet (dTup (dCons (dVar 3) (dCons (dVar 4) dNil))))))
theorem ifw_no {w x : Str} {s1 s2 : DS} {DD : DEnds} {env : List (Option D)} {cs : Cells} (e : env[1]? = some (some (.str w))) (h : decide (w = x) = false) (q : s2 DD ⟨env, cs⟩) : sIf (dTB (dBin dEq (dVar 1) (dC (.str x)))) s1 s2 DD ⟨env, cs⟩ := by
  rw [e_if, e_tb]
  refine ⟨_, e, ?_⟩
  simp only [dC, e_eq_ss]
  rw [h, onB_f, if_neg Bool.false_ne_true]
  exact q
theorem ifw_yes {w x : Str} {s1 s2 : DS} {DD : DEnds} {env : List (Option D)} {cs : Cells} (e : env[1]? = some (some (.str w))) (h : decide (w = x) = true) (q : s1 DD ⟨env, cs⟩) : sIf (dTB (dBin dEq (dVar 1) (dC (.str x)))) s1 s2 DD ⟨env, cs⟩ := by
  rw [e_if, e_tb]
  refine ⟨_, e, ?_⟩
  simp only [dC, e_eq_ss]
  rw [h, onB_t, if_pos (by simp)]
  exact q
theorem okd_p_Runner_do_row : ∀ ds cs R, sem_p_Runner_do_row ds cs R → den_p_Runner_do_row { nx := fun c => R .non c.cs, rt := R } ⟨env0 5 ds, cs⟩ := by
  rintro ds cs R ⟨c0, k, r, h, g⟩
  obtain ⟨_, _, b, p, ps, e1, e2, _⟩ := id g
  unfold den_p_Runner_do_row sSeq
  rcases h with ⟨rfl, hl, q⟩ | ⟨rfl, ha, q⟩
  · rw [e_par]
    refine ⟨_, rfl, _, _, e1, lk_at, ?_⟩
    unfold if_p_Runner_do_row_8
    refine ifw_yes rfl (by decide) ?_
    refine ⟨_, rfl, _, rfl, ble rfl, ?_⟩
    refine ⟨_, rfl, _, _, e1, lk_bx, _, rfl, _, rfl, r.bx, 0, e2, ?_, _, rfl, _, rfl, ble rfl, ?_⟩
    · rw [hl]; rfl
    · exact q _ (rnk_box g e1)
  · rw [e_par]
    refine ⟨_, rfl, _, _, e1, lk_at, ?_⟩
    unfold if_p_Runner_do_row_8
    refine ifw_no rfl (by decide) ?_
    unfold if_p_Runner_do_row_7
    refine ifw_no rfl (by decide) ?_
    unfold if_p_Runner_do_row_6
    refine ifw_no rfl (by decide) ?_
    unfold if_p_Runner_do_row_5
    refine ifw_no rfl (by decide) ?_
    unfold if_p_Runner_do_row_4
    refine ifw_no rfl (by decide) ?_
    unfold if_p_Runner_do_row_3
    refine ifw_no rfl (by decide) ?_
    unfold if_p_Runner_do_row_2
    refine ifw_no rfl (by decide) ?_
    unfold if_p_Runner_do_row_1
    refine ifw_no rfl (by decide) ?_
    refine ⟨_, rfl, _, e1, no_fin, rfl, c0, k, r, 1, rfl, g, ha, fun cs' h' => ?_⟩
    exact ⟨_, rfl, _, rfl, ble rfl, q _ h'⟩
def sem_p_Runner_kept : Sem := fun ds cs R => ∃ c0 k r, ds = [.cel k] ∧ RnK c0 cs k r ∧ R (.tup [.int r.at_, .lst r.bx, pileD, .dic [], .int 0, .int 0, .int r.rows]) cs
theorem len_p_Runner_kept : ∀ ds cs R, sem_p_Runner_kept ds cs R → ds.length = 1 := by rintro ds cs R ⟨_, _, _, rfl, _⟩; rfl
/-- Runner.kept: slots 0=self 1=boxes 2=pile -/
def den_p_Runner_kept : DS :=
  (sSeq (sPar 1 2 (dCons (dCall fLstOfX (dCons (dFld "Runner" (dVar 0) "own_boxes") dNil)) (dCons (dCall fLstOf (dCons (dFld "Runner" (dVar 0) "own_pile") dNil)) dNil)))
    (sRet (dTup (dCons (dFld "Runner" (dVar 0) "at_row") (dCons (dVar 1) (dCons (dVar 2) (dCons (dCall fDictD (dCons (dFld "Runner" (dVar 0) "lent_keys") dNil)) (dCons (dFld "Runner" (dVar 0) "asks_many") (dCons (dFld "Runner" (dVar 0) "used") (dCons (dFld "Runner" (dVar 0) "rows_done") dNil))))))))))
theorem okd_p_Runner_kept : ∀ ds cs R, sem_p_Runner_kept ds cs R → den_p_Runner_kept { nx := fun c => R .non c.cs, rt := R } ⟨env0 3 ds, cs⟩ := by
  rintro ds cs R ⟨c0, k, r, rfl, g, q⟩
  obtain ⟨_, _, b, p, ps, e1, e2, _⟩ := id g
  unfold den_p_Runner_kept sSeq
  rw [e_par]
  refine ⟨_, rfl, _, _, e1, lk_bx, r.bx, e2, _, rfl, _, _, e1, lk_pl, ?_⟩
  exact ⟨_, rfl, _, _, e1, lk_at, _, rfl, _, rfl, _, rfl, _, _, e1, lk_ln, _, rfl, _, _, e1, lk_am, _, rfl, _, _, e1, lk_us, _, rfl, _, _, e1, lk_rw, ble rfl, q⟩
def sem_p_Runner_step : Sem := fun ds cs R => ∃ c0 k r w rest, ds = [.cel k] ∧ RnK c0 cs k r ∧ r.en = .non ∧ 0 ≤ r.at_ ∧ r.pg.length ≤ 1000 ∧ r.at_ < r.pg.length ∧ L2.atI r.pg r.at_ = some (.tup (.str w :: rest)) ∧
  ((w = "set" ∧ rest = [.int 0, .int 1] ∧ r.bx.length = 6) ∨ (w = "end" ∧ rest = [] ∧ L2.atI r.bx 0 = some (numV 1))) ∧ r.pn ≤ 900 ∧
  ∀ b cs', RnK c0 cs' k { rowR w { r with rows := r.rows + 1 } with at_ := r.at_ + 1, pn := r.pn + 1 } → R (.bl b) cs'
theorem len_p_Runner_step : ∀ ds cs R, sem_p_Runner_step ds cs R → ds.length = 1 := by rintro ds cs R ⟨_, _, _, _, _, rfl, _⟩; rfl
def if_p_Runner_step_1 : DS :=
  (sIf (dTB (dBin dEq (dFld "Runner" (dVar 0) "at_row") (dCall fLen (dCons (dFld "Runner" (dVar 0) "own_program") dNil)))) (sFldD "Runner" (dVar 0) (dTup (dCons (dC (.str "off")) (dCons (dC .non) dNil))) "own_end") (sSeq (sFldAugD "Runner" dAddI (dVar 0) (dC (.int 1)) "rows_done")
    (sSeq (sAsgG (dBin dIxF (dFld "Runner" (dVar 0) "own_program") (dFld "Runner" (dVar 0) "at_row")) (gStarD 1 ((gNm 3) :: ((gNm 4) :: []))))
    (sTryAs (fun _ => none) 5 (sAsgG (dMeth "Runner" "do_row" 3 sem_p_Runner_do_row (fun ds _ => ds) (dVar 0) (dCons (dVar 3) (dCons (dVar 4) dNil))) (gTp ((gFldD "Runner" (dVar 0) "at_row") :: ((gNm 2) :: [])))) (fun _ _ => sNever)))))
/-- Runner.step: slots 0=self 1=ahead 2=elder 3=word 4=rest 5=e -/
def den_p_Runner_step : DS :=
  (sSeq (sIf (dTB (dIsNotN (dFld "Runner" (dVar 0) "own_end"))) (sRet (dC (.bl false))) sNext)
    (sSeq (sPar 1 2 (dCons (dMeth "Runner" "kept" 1 sem_p_Runner_kept (fun ds _ => ds) (dVar 0) dNil) (dCons (dC .non) dNil)))
    (sSeq if_p_Runner_step_1
    (sSeq (sDrop (dApp (dFld "Runner" (dVar 0) "past") (dTup (dCons (dVar 1) (dCons (dVar 2) dNil)))))
    (sRet (dIsN (dFld "Runner" (dVar 0) "own_end")))))))
theorem step_end {c0 c2 : Cells} {k : Nat} {r r2 : Rn} {R : D → Cells → Prop} {env : List (Option D)} {ahead : D} (h : RnK c0 c2 k r2) (e0 : env[0]? = some (some (.cel k))) (e1 : env[1]? = some (some ahead)) (h9 : r2.pn ≤ 900) (he : env.length = 6)
    (q : ∀ b cs', RnK c0 cs' k { r2 with at_ := r.at_ + 1, pn := r2.pn + 1 } → R (.bl b) cs') :
    gTp [gFldD "Runner" (dVar 0) "at_row", gNm 2] (.tup [.int (r.at_ + 1), .non]) ⟨env, c2⟩ fun c => sDrop (dApp (dFld "Runner" (dVar 0) "past") (dTup (dCons (dVar 1) (dCons (dVar 2) dNil)))) { nx := fun c => sRet (dIsN (dFld "Runner" (dVar 0) "own_end")) { nx := fun c => R .non c.cs, rt := R } c, rt := R } c := by
  obtain ⟨_, _, b, p, ps, f1, f2, f3, f4, f5, f6, n1, n2, n3⟩ := id h
  refine ⟨_, rfl, rfl, ?_⟩
  simp only [gList, gNm]
  refine ⟨_, e0, _, f1, ble rfl, ?_⟩
  rw [pf_at]
  have g1 := rnk_fld (r2 := { r2 with at_ := r.at_ + 1 }) h f1 rfl rfl
  generalize hc1 : put c2 k (.ins "Runner" (rnF { r2 with at_ := r.at_ + 1 } b p)) = c3 at g1 ⊢
  have k1 : c3 k = some (.ins "Runner" (rnF { r2 with at_ := r.at_ + 1 } b p)) := by rw [← hc1]; exact put_same
  have k2 := (rnk_at g1 k1).2
  obtain ⟨ps2, k3, k4, _⟩ := k2
  have x0 : (env.set 2 (some D.non))[0]? = some (some (.cel k)) := by rw [List.getElem?_set_ne (by decide)]; exact e0
  have x1 : (env.set 2 (some D.non))[1]? = some (some ahead) := by rw [List.getElem?_set_ne (by decide)]; exact e1
  have x2 : (env.set 2 (some D.non))[2]? = some (some .non) := by rw [List.getElem?_set_self (by omega)]
  refine ⟨_, x0, _, _, k1, lk_ps, ⟨ps2, k3⟩, _, x1, _, x2, ble rfl, ps2, k3, by rw [k4, sizeLine_eq]; show r2.pn < _; omega, ?_⟩
  have g2 := rnk_past (ds := ps2 ++ [.tup [ahead, .non]]) g1 k1
  obtain ⟨_, _, b3, p3, ps3, m1, _⟩ := id g2
  refine ⟨_, x0, _, _, m1, lk_en, q _ _ ?_⟩
  have el : (ps2 ++ [D.tup [ahead, .non]]).length = r2.pn + 1 := by rw [List.length_append, k4]; rfl
  rw [el] at g2
  exact g2
theorem okd_p_Runner_step : ∀ ds cs R, sem_p_Runner_step ds cs R → den_p_Runner_step { nx := fun c => R .non c.cs, rt := R } ⟨env0 6 ds, cs⟩ := by
  rintro ds cs R ⟨c0, k, r, w, rest, rfl, g, he, h0, hp, hl, ha, hw, h9, q⟩
  obtain ⟨_, _, b, p, ps, e1, e2, _⟩ := id g
  unfold den_p_Runner_step sSeq
  rw [e_if, e_tb]
  refine ⟨_, rfl, _, _, e1, lk_en, ?_⟩
  rw [he]
  dsimp only [isNon]
  rw [Bool.not_true, onB_f, if_neg Bool.false_ne_true]
  dsimp only [sNext]
  rw [e_par]
  refine ⟨_, rfl, _, e1, no_kept, rfl, c0, k, r, rfl, g, ?_⟩
  show if_p_Runner_step_1 _ ⟨_, cs⟩
  unfold if_p_Runner_step_1
  rw [e_if, e_tb]
  refine ⟨_, rfl, _, _, e1, lk_at, _, rfl, _, _, e1, lk_pg, ?_⟩
  show onB (.bl (decide (r.at_ = (r.pg.length : Int)))) _ _
  rw [decide_eq_false (by omega), onB_f, if_neg Bool.false_ne_true]
  unfold sSeq
  refine ⟨_, rfl, _, _, e1, lk_rw, ?_⟩
  show ∃ fs', cs k = some (.ins "Runner" fs') ∧ fs'.length < 1000 ∧ _
  refine ⟨_, e1, ble rfl, ?_⟩
  rw [pf_rw]
  have g1 := rnk_fld (r2 := { r with rows := r.rows + 1 }) g e1 rfl rfl
  generalize hc1 : put cs k (.ins "Runner" (rnF { r with rows := r.rows + 1 } b p)) = c1 at g1 ⊢
  have f1 : c1 k = some (.ins "Runner" (rnF { r with rows := r.rows + 1 } b p)) := by rw [← hc1]; exact put_same
  refine ⟨_, rfl, _, _, f1, lk_pg, _, rfl, _, _, f1, lk_at, _, ha, ?_⟩
  refine ⟨_, rfl, ⟨by rw [List.length_cons]; omega, ?_⟩, ?_⟩
  · rcases hw with ⟨_, rfl, _⟩ | ⟨_, rfl, _⟩ <;> exact ble rfl
  simp only [List.take_succ_cons, List.take_zero, List.drop_succ_cons, List.drop_zero, List.cons_append, List.nil_append, gList, gNm]
  unfold sTryAs sAsgG
  refine ⟨_, rfl, _, f1, no_dorow, _, rfl, _, rfl, rfl, c0, k, { r with rows := r.rows + 1 }, ?_, g1⟩
  rcases hw with ⟨rfl, rfl, hb⟩ | ⟨rfl, rfl, hb⟩
  · refine .inl ⟨rfl, hb, fun cs' h' => ?_⟩
    exact step_end (r := r) h' (by exact rfl) (by exact rfl) h9 (by exact rfl) q
  · refine .inr ⟨rfl, hb, fun cs' h' => ?_⟩
    exact step_end (r := r) h' (by exact rfl) (by exact rfl) h9 (by exact rfl) q
/-! ### a runner is made -/
structure Ini (c0 cs : Cells) (k : Nat) (fs : List (Str × D)) : Prop where
  fr : Frd c0 cs
  nk : c0 k = none
  at_ : cs k = some (.ins "Runner" fs)
theorem Ini.fld {c0 cs : Cells} {k : Nat} {fs fs2 : List (Str × D)} (h : Ini c0 cs k fs) : Ini c0 (put cs k (.ins "Runner" fs2)) k fs2 :=
  ⟨fun j o e => by rw [put_ne fun z => by rw [z, h.nk] at e; cases e]; exact h.fr j o e, h.nk, put_same⟩
theorem fld_ini {c0 cs : Cells} {k : Nat} {fs : List (Str × D)} {env : List (Option D)} {f : Str} {dv : DE} {DD : DEnds} {v : D} (h : Ini c0 cs k fs) (e0 : env[0]? = some (some (.cel k))) (hl : fs.length < 1000) (hd : ∀ Q, Q v ⟨env, cs⟩ → dv ⟨env, cs⟩ Q)
    (q : ∀ cs', Ini c0 cs' k (putFD f v fs) → (∀ j, j ≠ k → cs' j = cs j) → DD.nx ⟨env, cs'⟩) : sFldD "Runner" (dVar 0) dv f DD ⟨env, cs⟩ :=
  hd _ ⟨_, e0, fs, h.at_, hl, q _ h.fld fun j hj => put_ne hj⟩
theorem fld_iniC {c0 cs : Cells} {k : Nat} {fs : List (Str × D)} {env : List (Option D)} {f : Str} {dv : DE} {DD : DEnds} {bx : List D} (h : Ini c0 cs k fs) (e0 : env[0]? = some (some (.cel k))) (hl : fs.length < 1000)
    (hd : ∀ Q, (∀ b cs1, Ini c0 cs1 k fs → cs1 b = some (.lst bx) → cs b = none → (∀ j o, cs j = some o → cs1 j = some o) → Q (.cel b) ⟨env, cs1⟩) → dv ⟨env, cs⟩ Q)
    (q : ∀ b cs', Ini c0 cs' k (putFD f (.cel b) fs) → cs' b = some (.lst bx) → cs b = none → (∀ j o, j ≠ k → cs j = some o → cs' j = some o) → DD.nx ⟨env, cs'⟩) : sFldD "Runner" (dVar 0) dv f DD ⟨env, cs⟩ :=
  hd _ fun b cs1 h1 h2 h3 h4 => ⟨_, e0, fs, h1.at_, hl, q b _ h1.fld (by
    rw [put_ne fun z => by rw [z, h.at_] at h3; cases h3]; exact h2) h3 fun j o hj e => by rw [put_ne hj]; exact h4 j o e⟩
def ShP (sz : Int) (d : D) (b : Bool) (rm : D) : Prop := (d = .non ∧ b = true ∧ rm = noSh) ∨ (kindly d ∧ d ≠ .non ∧ ShIs sz d b ∧ rm = d)
def bx0 (n : Int) : List D := [.tup [.str "pile", .int 0], .tup [.str "input", .int 0], numV n, .non, .non, .non]
def rn0 (pg : List D) (sz : Int) (cl gs : List D) (rm : D) (an : List D) : Rn := ⟨pg, conD sz cl, gs, rm, an, 0, bx0 gs.length, 0, .non, 0⟩
/-- what stops the making: the first of the three -/
def due3 (b1 b2 b3 : Bool) : Option Str := if b1 = false then some "input" else if b2 = false then some "shelves" else if b3 = false then some "answers" else none
def sem_p_Runner___init__ : SemX := fun ds cs R XX => ∃ c0 k pg sz cl gv sh an b1 b2 b3 rm gs as, ds = [.cel k, .lst pg, conD sz cl, gv, sh, an] ∧ c0 k = none ∧ cs = put c0 k (.ins "Runner" []) ∧
  LtIs (worthD 16) 16 gv b1 ∧ ShP sz sh b2 rm ∧ LtIs wholeD 1000 an b3 ∧ (b1 = true → ltD gv = some gs) ∧ (b3 = true → ltD an = some as) ∧
  ((∃ s, due3 b1 b2 b3 = some s ∧ ∀ cs', Frd c0 cs' → XX (noIn s) cs') ∨ (due3 b1 b2 b3 = none ∧ ∀ cs', RnK c0 cs' k (rn0 pg sz cl gs rm as) → R .non cs'))
theorem len_p_Runner___init__ : ∀ ds cs R XX, sem_p_Runner___init__ ds cs R XX → ds.length = 6 := by rintro ds cs R XX ⟨_, _, _, _, _, _, _, _, _, _, _, _, _, _, rfl, _⟩; rfl
/-- Runner.__init__: slots 0=self 1=program 2=contract 3=given 4=shelves 5=answers -/
def den_p_Runner___init__ : DS :=
  (sSeq (sDropX (dFnX 1 sem_p_look_at_given (fun ds _ => ds) (dCons (dVar 3) dNil)))
    (sSeq (sFldD "Runner" (dVar 0) (dCall fLstOf (dCons (dVar 1) dNil)) "own_program")
    (sSeq (sFldD "Runner" (dVar 0) (dTup (dCons (dCall fLstOf (dCons (dBin dIxF (dVar 2) (dC (.int 0))) dNil)) (dCons (dCall fLstOf (dCons (dBin dIxF (dVar 2) (dC (.int 1))) dNil)) dNil))) "own_contract")
    (sSeq (sFldD "Runner" (dVar 0) (dCall fLstOf (dCons (dVar 3) dNil)) "own_given")
    (sSeq (sFldDX "Runner" (dVar 0) (dFnX 2 sem_p_shelves_of (fun ds _ => ds) (dCons (dVar 2) (dCons (dVar 4) dNil))) "rooms")
    (sSeq (sDropX (dFnX 1 sem_p_look_at_answers (fun ds _ => ds) (dCons (dVar 5) dNil)))
    (sSeq (sFldD "Runner" (dVar 0) (dCall fLstOf (dCons (dVar 5) dNil)) "own_answers")
    (sSeq (sFldD "Runner" (dVar 0) (dC (.int 0)) "at_row")
    (sSeq (sFldD "Runner" (dVar 0) (dBin dAddCel (dLstC (dCons (dTup (dCons (dC (.str "pile")) (dCons (dC (.int 0)) dNil))) (dCons (dTup (dCons (dC (.str "input")) (dCons (dC (.int 0)) dNil))) (dCons (dTup (dCons (dC (.str "number")) (dCons (dCall fLen (dCons (dVar 3) dNil)) dNil))) dNil)))) (dBin dRepL (dLst (dCons (dC .non) dNil)) (dBin dSub (dC (.int 6)) (dC (.int 3))))) "own_boxes")
    (sSeq (sFldD "Runner" (dVar 0) (dBin dRepL (dLst (dCons (dC .non) dNil)) (dC (.int 8))) "own_pile")
    (sSeq (sFldD "Runner" (dVar 0) dDNew "lent_keys")
    (sSeq (sFldD "Runner" (dVar 0) (dC (.int 0)) "asks_many")
    (sSeq (sFldD "Runner" (dVar 0) (dC (.int 0)) "used")
    (sSeq (sFldD "Runner" (dVar 0) (dC (.int 0)) "rows_done")
    (sSeq (sFldD "Runner" (dVar 0) (dC .non) "own_end")
    (sFldD "Runner" (dVar 0) (dLstC dNil) "past"))))))))))))))))
def init_tail : DS :=
  (sSeq (sDropX (dFnX 1 sem_p_look_at_answers (fun ds _ => ds) (dCons (dVar 5) dNil)))
    (sSeq (sFldD "Runner" (dVar 0) (dCall fLstOf (dCons (dVar 5) dNil)) "own_answers")
    (sSeq (sFldD "Runner" (dVar 0) (dC (.int 0)) "at_row")
    (sSeq (sFldD "Runner" (dVar 0) (dBin dAddCel (dLstC (dCons (dTup (dCons (dC (.str "pile")) (dCons (dC (.int 0)) dNil))) (dCons (dTup (dCons (dC (.str "input")) (dCons (dC (.int 0)) dNil))) (dCons (dTup (dCons (dC (.str "number")) (dCons (dCall fLen (dCons (dVar 3) dNil)) dNil))) dNil)))) (dBin dRepL (dLst (dCons (dC .non) dNil)) (dBin dSub (dC (.int 6)) (dC (.int 3))))) "own_boxes")
    (sSeq (sFldD "Runner" (dVar 0) (dBin dRepL (dLst (dCons (dC .non) dNil)) (dC (.int 8))) "own_pile")
    (sSeq (sFldD "Runner" (dVar 0) dDNew "lent_keys")
    (sSeq (sFldD "Runner" (dVar 0) (dC (.int 0)) "asks_many")
    (sSeq (sFldD "Runner" (dVar 0) (dC (.int 0)) "used")
    (sSeq (sFldD "Runner" (dVar 0) (dC (.int 0)) "rows_done")
    (sSeq (sFldD "Runner" (dVar 0) (dC .non) "own_end")
    (sFldD "Runner" (dVar 0) (dLstC dNil) "past")))))))))))
theorem init_tail_ok {c0 cs : Cells} {k : Nat} {pg : List D} {sz : Int} {cl : List D} {gv sh an : D} {b3 : Bool} {rm : D} {gs as : List D} {R : D → Cells → Prop} {XX : DX → Cells → Prop}
    (i5 : Ini c0 cs k (putFD "rooms" rm (putFD "own_given" (.lst gs) (putFD "own_contract" (conD sz cl) (putFD "own_program" (.lst pg) []))))) (h3 : LtIs wholeD 1000 an b3) (eg : ltD gv = some gs) (g3 : b3 = true → ltD an = some as)
    (q : (∃ s, due3 true true b3 = some s ∧ ∀ cs', Frd c0 cs' → XX (noIn s) cs') ∨ (due3 true true b3 = none ∧ ∀ cs', RnK c0 cs' k (rn0 pg sz cl gs rm as) → R .non cs')) :
    init_tail { nx := fun c => R .non c.cs, rt := R, xx := fun x c => XX x c.cs } ⟨env0 6 [.cel k, .lst pg, conD sz cl, gv, sh, an], cs⟩ := by
  unfold init_tail sSeq
  refine ⟨_, rfl, rfl, an, b3, rfl, h3, ?_⟩
  cases b3 with
  | false =>
    rw [if_neg Bool.false_ne_true]
    rcases q with ⟨s, e, q⟩ | ⟨e, _⟩
    · cases e; exact q _ i5.fr
    · cases e
  | true =>
    rw [if_pos rfl]
    have ea := g3 rfl
    have q' : ∀ cs', RnK c0 cs' k (rn0 pg sz cl gs rm as) → R .non cs' := by
      rcases q with ⟨s, e, q⟩ | ⟨_, q⟩
      · cases e
      · exact q
    have lst : ∀ {d : D} {xs : List D} {c : Z} {Q : D → Z → Prop}, ltD d = some xs → Q (.lst xs) c → fLstOf [d] c Q := fun {d xs c Q} e h => by
      cases d <;> first | (cases e; exact h) | cases e
    dsimp only
    refine fld_ini (v := .lst as) i5 (by exact rfl) (ble rfl) (fun Q h => ?_) fun c6 i6 _ => ?_
    · exact ⟨_, rfl, lst ea h⟩
    dsimp only
    refine fld_ini (v := .int 0) i6 (by exact rfl) (ble rfl) (fun Q h => h) fun c7 i7 _ => ?_
    dsimp only
    refine fld_iniC (bx := bx0 gs.length) i7 (by exact rfl) (ble rfl) (fun Q h => ?_) fun b c8 i8 f8 n8 k8 => ?_
    · refine ⟨ble rfl, ble rfl, _, rfl, ?_⟩
      dsimp only [dNil]
      refine (lt_kind eg).2.2 ?_
      refine ⟨ble rfl, ble rfl, fun j hj => ?_⟩
      have hj' : c7 j = none := hj
      refine ⟨ble rfl, True.intro, ⟨by decide, by decide⟩, ble rfl, ?_⟩
      refine ⟨_, _, put_same, rfl, ble rfl, fun b hb => ?_⟩
      have hb' : put c7 j _ b = none := hb
      have hb7 : c7 b = none := by
        by_cases z : b = j
        · rw [z]; exact hj'
        · rw [put_ne z] at hb'; exact hb'
      have nj : ∀ i o, c7 i = some o → i ≠ j := fun i o e z => by rw [z, hj'] at e; cases e
      have nb : ∀ i o, c7 i = some o → i ≠ b := fun i o e z => by rw [z, hb7] at e; cases e
      refine h b _ ⟨(i7.fr.new hj').new hb', i7.nk, ?_⟩ put_same hb7 fun i o e => ?_
      · rw [put_ne (nb _ _ i7.at_)]
        show put c7 j _ k = _
        rw [put_ne (nj _ _ i7.at_)]; exact i7.at_
      · rw [put_ne (nb _ _ e)]
        show put c7 j _ i = _
        rw [put_ne (nj _ _ e)]; exact e
    dsimp only
    refine fld_ini (v := pileD) i8 (by exact rfl) (ble rfl) (fun Q h => ?_) fun c9 i9 o9 => ?_
    · exact ⟨ble rfl, ⟨by decide, by decide⟩, ble rfl, h⟩
    dsimp only
    refine fld_ini (v := .dic []) i9 (by exact rfl) (ble rfl) (fun Q h => h) fun c10 i10 o10 => ?_
    dsimp only
    refine fld_ini (v := .int 0) i10 (by exact rfl) (ble rfl) (fun Q h => h) fun c11 i11 o11 => ?_
    dsimp only
    refine fld_ini (v := .int 0) i11 (by exact rfl) (ble rfl) (fun Q h => h) fun c12 i12 o12 => ?_
    dsimp only
    refine fld_ini (v := .int 0) i12 (by exact rfl) (ble rfl) (fun Q h => h) fun c13 i13 o13 => ?_
    dsimp only
    refine fld_ini (v := .non) i13 (by exact rfl) (ble rfl) (fun Q h => h) fun c14 i14 o14 => ?_
    dsimp only
    refine fld_iniC (bx := []) i14 (by exact rfl) (ble rfl) (fun Q h => ?_) fun p c15 i15 f15 n15 k15 => ?_
    · refine ⟨Nat.zero_le _, fun p hp => ?_⟩
      have hp' : c14 p = none := hp
      refine h p _ ⟨i14.fr.new hp', i14.nk, ?_⟩ put_same hp' fun j o e => ?_
      · rw [put_ne fun z => by rw [← z, i14.at_] at hp'; cases hp']; exact i14.at_
      · rw [put_ne fun z => by rw [← z, e] at hp'; cases hp']; exact e
    · have nb : b ≠ k := fun z => by rw [z, i7.at_] at n8; cases n8
      have b14 : c14 b = some (.lst (bx0 gs.length)) := by rw [o14 b nb, o13 b nb, o12 b nb, o11 b nb, o10 b nb, o9 b nb]; exact f8
      refine q' _ ⟨i15.fr, i15.nk, b, p, [], i15.at_, k15 b _ nb b14, f15, rfl, ?_, ?_, nb.symm, ?_, ?_⟩
      · cases e : c0 b with
        | none => rfl
        | some o => rw [i7.fr _ _ e] at n8; cases n8
      · cases e : c0 p with
        | none => rfl
        | some o => rw [i14.fr _ _ e] at n15; cases n15
      · intro z; rw [← z, i14.at_] at n15; cases n15
      · intro z; rw [← z, b14] at n15; cases n15
theorem okd_p_Runner___init__ : ∀ ds cs R XX, sem_p_Runner___init__ ds cs R XX → den_p_Runner___init__ { nx := fun c => R .non c.cs, rt := R, xx := fun x c => XX x c.cs } ⟨env0 6 ds, cs⟩ := by
  rintro ds cs R XX ⟨c0, k, pg, sz, cl, gv, sh, an, b1, b2, b3, rm, gs, as, rfl, hk, rfl, h1, h2, h3, g1, g3, q⟩
  have i0 : Ini c0 (put c0 k (.ins "Runner" [])) k [] := ⟨Frd.refl.new hk, hk, put_same⟩
  generalize put c0 k (.ins "Runner" []) = c1 at i0 ⊢
  unfold den_p_Runner___init__ sSeq
  refine ⟨_, rfl, rfl, gv, b1, rfl, h1, ?_⟩
  cases b1 with
  | false =>
    rw [if_neg Bool.false_ne_true]
    rcases q with ⟨s, e, q⟩ | ⟨e, _⟩
    · cases e; exact q _ i0.fr
    · cases e
  | true =>
    rw [if_pos rfl]
    dsimp only
    refine fld_ini (v := .lst pg) i0 (by exact rfl) (ble rfl) (fun Q h => ?_) fun c2 i2 _ => ?_
    · exact ⟨_, rfl, h⟩
    dsimp only
    refine fld_ini (v := conD sz cl) i2 (by exact rfl) (ble rfl) (fun Q h => ?_) fun c3 i3 _ => ?_
    · exact ⟨_, rfl, _, rfl, _, rfl, _, rfl, ble rfl, h⟩
    have eg := g1 rfl
    have lst : ∀ {d : D} {xs : List D} {c : Z} {Q : D → Z → Prop}, ltD d = some xs → Q (.lst xs) c → fLstOf [d] c Q := fun {d xs c Q} e h => by
      cases d <;> first | (cases e; exact h) | cases e
    dsimp only
    refine fld_ini (v := .lst gs) i3 (by exact rfl) (ble rfl) (fun Q h => ?_) fun c4 i4 _ => ?_
    · exact ⟨_, rfl, lst eg h⟩
    dsimp only
    refine ⟨_, rfl, _, rfl, rfl, sz, cl, sh, b2, rfl, ?_⟩
    cases b2 with
    | false =>
      rcases h2 with ⟨_, e, _⟩ | ⟨k1, k2, k3, rfl⟩
      · cases e
      · refine .inr ⟨k1, k2, k3, ?_⟩
        rw [if_neg Bool.false_ne_true]
        rcases q with ⟨s, e, q⟩ | ⟨e, _⟩
        · cases e; exact q _ i4.fr
        · cases e
    | true =>
      have go := fun c5 i5 => init_tail_ok (c0 := c0) (k := k) (pg := pg) (sz := sz) (cl := cl) (gv := gv) (sh := sh) (an := an) (b3 := b3) (rm := rm) (gs := gs) (as := as) (cs := c5) (R := R) (XX := XX) i5 h3 eg g3 q
      rcases h2 with ⟨rfl, e, rfl⟩ | ⟨k1, k2, k3, rfl⟩
      · exact .inl ⟨rfl, _, rfl, _, i4.at_, ble rfl, go _ i4.fld⟩
      · refine .inr ⟨k1, k2, k3, ?_⟩
        rw [if_pos rfl]
        exact ⟨_, rfl, _, i4.at_, ble rfl, go _ i4.fld⟩
/-! ### a run of the law's program -/
def prgD : List D := [.tup [.str "set", .int 0, .int 1], .tup [.str "end"]]
def sem_p_run : SemX := fun ds cs R XX => ∃ sz cl gv sh an b1 b2 b3 rm gs as, ds = [.lst prgD, conD sz cl, gv, sh, an, .int 1000] ∧
  LtIs (worthD 16) 16 gv b1 ∧ ShP sz sh b2 rm ∧ LtIs wholeD 1000 an b3 ∧ (b1 = true → ltD gv = some gs) ∧ (b3 = true → ltD an = some as) ∧
  ((∃ s, due3 b1 b2 b3 = some s ∧ ∀ cs', Frd cs cs' → XX (noIn s) cs') ∨ (due3 b1 b2 b3 = none ∧ ∀ d cs', Frd cs cs' → R d cs'))
theorem len_p_run : ∀ ds cs R XX, sem_p_run ds cs R XX → ds.length = 6 := by rintro ds cs R XX ⟨_, _, _, _, _, _, _, _, _, _, _, rfl, _⟩; rfl
def bd_p_run_1 : DS :=
  (sSeq (sIf (dTB (dBin dEq (dMeth "Runner" "steps" 1 sem_p_Runner_steps (fun ds _ => ds) (dVar 6) dNil) (dVar 5))) (sRet (dTup (dCons (dC (.str "over")) (dCons (dC .non) (dCons (dVar 5) (dCons (dFn 1 sem_p_copied (fun ds _ => ds) (dCons (dFld "Runner" (dVar 6) "rooms") dNil)) dNil)))))) sNext)
    (sDrop (dMeth "Runner" "step" 1 sem_p_Runner_step (fun ds _ => ds) (dVar 6) dNil)))
/-- run: slots 0=program 1=contract 2=given 3=shelves 4=answers 5=most 6=runner -/
def den_p_run : DS :=
  (sSeq (sAsgX (dMakeKX "Runner" 3 3 sem_p_Runner___init__ (fun ds es => ds ++ es) (dCons (dVar 0) (dCons (dVar 1) dNil)) (dCons (dVar 2) (dCons (dVar 3) (dCons (dVar 4) dNil)))) 6)
    (sSeq (sWhile (dTB (dIsN (dMeth "Runner" "told" 1 sem_p_Runner_told (fun ds _ => ds) (dVar 6) dNil))) bd_p_run_1)
    (sRet (dMeth "Runner" "told" 1 sem_p_Runner_told (fun ds _ => ds) (dVar 6) dNil))))
theorem shp_cp {sz : Int} {sh rm : D} (h : ShP sz sh true rm) : ∃ L, rm = cpD L ∧ CpOk L := by
  rcases h with ⟨_, _, rfl⟩ | ⟨_, _, h, rfl⟩
  · refine ⟨[("rooms", []), ("bits", [])], rfl, ⟨ble rfl, by show (["rooms", "bits"] : List Str).Nodup; decide +kernel, fun p hp => ?_⟩⟩
    simp only [List.mem_cons, List.not_mem_nil, or_false] at hp
    rcases hp with rfl | rfl <;> exact ⟨ble rfl, List.nodup_nil⟩
  · exact sh_true h
def rn1 (r : Rn) : Rn := { rowR "set" { r with rows := r.rows + 1 } with at_ := r.at_ + 1, pn := r.pn + 1 }
def rn2 (r : Rn) : Rn := { rowR "end" { rn1 r with rows := (rn1 r).rows + 1 } with at_ := (rn1 r).at_ + 1, pn := (rn1 r).pn + 1 }
def rnI (r : Rn) : Nat → Rn | 2 => r | 1 => rn1 r | _ => rn2 r
theorem okd_p_run : ∀ ds cs R XX, sem_p_run ds cs R XX → den_p_run { nx := fun c => R .non c.cs, rt := R, xx := fun x c => XX x c.cs } ⟨env0 7 ds, cs⟩ := by
  rintro ds cs R XX ⟨sz, cl, gv, sh, an, b1, b2, b3, rm, gs, as, rfl, h1, h2, h3, g1, g3, q⟩
  unfold den_p_run sSeq sAsgX
  refine ⟨_, rfl, _, rfl, _, rfl, _, rfl, _, rfl, rfl, fun k hk => ⟨rfl, ?_⟩⟩
  have hk' : cs k = none := hk
  refine ⟨cs, k, prgD, sz, cl, gv, sh, an, b1, b2, b3, rm, gs, as, rfl, hk', rfl, h1, h2, h3, g1, g3, ?_⟩
  rcases q with ⟨s, e, q⟩ | ⟨e, q⟩
  · exact .inl ⟨s, e, q⟩
  · refine .inr ⟨e, fun c1 k1 => ⟨rfl, ?_⟩⟩
    have eb : b2 = true := by cases b1 <;> cases b2 <;> cases b3 <;> first | rfl | cases e
    subst eb
    obtain ⟨L, el, hc⟩ := shp_cp h2
    refine ⟨fun m c => c.env = [some (.lst prgD), some (conD sz cl), some gv, some sh, some an, some (.int 1000), some (.cel k)] ∧ m ≤ 2 ∧ RnK cs c.cs k (rnI (rn0 prgD sz cl gs rm as) m), ⟨2, rfl, Nat.le_refl _, k1⟩, fun m c ⟨ee, hm, hr⟩ => ?_⟩
    obtain ⟨env, c2⟩ := c
    dsimp only at ee hr
    subst ee
    rw [e_tb]
    obtain ⟨_, _, b, p, ps, f1, _⟩ := id hr
    refine ⟨_, rfl, _, f1, no_told, rfl, cs, k, _, rfl, hr, ?_⟩
    match m, hm, hr with
    | 0, _, hr =>
      refine .inr ⟨"end", .int 1, L, rfl, el, hc, ?_⟩
      dsimp only [isNon]
      rw [onB_f]
      refine ⟨_, rfl, _, f1, no_told, rfl, cs, k, _, rfl, hr, .inr ⟨"end", .int 1, L, rfl, el, hc, ?_⟩⟩
      exact q _ _ hr.fr
    | 1, _, hr =>
      refine .inl ⟨rfl, ?_⟩
      dsimp only [isNon]
      rw [onB_t]
      unfold bd_p_run_1 sSeq
      rw [e_if, e_tb]
      refine ⟨_, rfl, _, f1, no_steps, rfl, cs, k, _, rfl, hr, _, rfl, ?_⟩
      simp only [e_eq_ii]
      have z : decide ((rnI (rn0 prgD sz cl gs rm as) 1).rows = 1000) = false := decide_eq_false (by show ¬ ((1 : Int) = 1000); decide)
      rw [z, onB_f, if_neg Bool.false_ne_true]
      dsimp only [sNext]
      refine ⟨_, rfl, _, f1, no_step, rfl, cs, k, _, "end", [], rfl, hr, rfl, (by show (0 : Int) ≤ 1; decide), ble rfl, (by show (1 : Int) < 2; decide), rfl, .inr ⟨rfl, rfl, rfl⟩, ble rfl, fun b cs' h' => ?_⟩
      exact ⟨0, by decide, rfl, by decide, h'⟩
    | 2, _, hr =>
      refine .inl ⟨rfl, ?_⟩
      dsimp only [isNon]
      rw [onB_t]
      unfold bd_p_run_1 sSeq
      rw [e_if, e_tb]
      refine ⟨_, rfl, _, f1, no_steps, rfl, cs, k, _, rfl, hr, _, rfl, ?_⟩
      simp only [e_eq_ii]
      have z : decide ((rnI (rn0 prgD sz cl gs rm as) 2).rows = 1000) = false := decide_eq_false (by show ¬ ((0 : Int) = 1000); decide)
      rw [z, onB_f, if_neg Bool.false_ne_true]
      dsimp only [sNext]
      refine ⟨_, rfl, _, f1, no_step, rfl, cs, k, _, "set", [.int 0, .int 1], rfl, hr, rfl, (by show (0 : Int) ≤ 0; decide), ble rfl, (by show (0 : Int) < 2; decide), rfl, .inl ⟨rfl, rfl, rfl⟩, ble rfl, fun b cs' h' => ?_⟩
      exact ⟨1, by decide, rfl, by decide, h'⟩
def subT_GateError (r : Str) : Option Bool := if r = "NoInput" then some true else none
open Classical in
open Classical in
def isK_NoInput (r : Str) : Option Bool := if r = "NoInput" then some true else none
def isKn_NoContract_NoProgram_NoText (r : Str) : Option Bool := if r = "NoInput" then some false else none
def fldT_part (r : Str) : Bool := if r = "NoInput" then true else false
def dueS (b1 b2 b3 : Bool) : Str := (due3 b1 b2 b3).getD "good"
def sem_l_told : Sem := fun ds cs R => ∃ (i : Int) (sz : Int) (cl : List D) (gv sh an : D) (b1 b2 b3 : Bool) (rm : D) (gs as : List D), ds = [.int i, conD sz cl, gv, sh, an] ∧
  LtIs (worthD 16) 16 gv b1 ∧ ShP sz sh b2 rm ∧ LtIs wholeD 1000 an b3 ∧ (b1 = true → ltD gv = some gs) ∧ (b3 = true → ltD an = some as) ∧ ∀ cs', Frd cs cs' → R (.str (dueS b1 b2 b3)) cs'
theorem len_l_told : ∀ ds cs R, sem_l_told ds cs R → ds.length = 5 := by rintro ds cs R ⟨_, _, _, _, _, _, _, _, _, _, _, _, rfl, _⟩; rfl
def if_l_told_1 : DS :=
  (sIf (dTB (dBin dEq (dVar 0) (dC (.int 0)))) (sDropX (dMakeKX "Runner" 3 3 sem_p_Runner___init__ (fun ds es => ds ++ es) (dCons (dLst (dCons (dTup (dCons (dC (.str "end")) dNil)) dNil)) (dCons (dVar 1) dNil)) (dCons (dVar 2) (dCons (dVar 3) (dCons (dVar 4) dNil))))) (sDropX (dFnKX 2 3 sem_p_run (fun ds es => (fun us mv ws => match mv, ws with | [m0], [w0, w1, w2] => us ++ [w1, w2, w0, m0] | _, _ => []) ds [.int 1000] es) (dCons (dLst (dCons (dTup (dCons (dC (.str "set")) (dCons (dC (.int 0)) (dCons (dC (.int 1)) dNil)))) (dCons (dTup (dCons (dC (.str "end")) dNil)) dNil))) (dCons (dVar 1) dNil)) (dCons (dVar 4) (dCons (dVar 2) (dCons (dVar 3) dNil))))))
def te_l_told_1 : DT :=
  (dOrT (dNotT (dTru (dIsX isK_NoInput (dVar 5)))) (dTru (dIsX isKn_NoContract_NoProgram_NoText (dVar 5))))
/-- _law_told: slots 0=_law_door 1=_law_contract_here 2=_law_cells 3=_law_rooms 4=_law_replies 5=_law_error 6=e -/
def den_l_told : DS :=
  (sSeq (sAsg (dC .non) 5)
    (sSeq (sTryKeep subT_GateError 6 if_l_told_1 (sAsg (dVar 6) 5))
    (sSeq (sIf (dTB (dIsN (dVar 5))) (sRet (dC (.str "good"))) sNext)
    (sSeq (sIf te_l_told_1 (sRet (dC (.str "odd"))) sNext)
    (sRet (dXF fldT_part "part" (dVar 5)))))))
def told_tail : DS :=
  (sSeq (sIf (dTB (dIsN (dVar 5))) (sRet (dC (.str "good"))) sNext)
    (sSeq (sIf te_l_told_1 (sRet (dC (.str "odd"))) sNext)
    (sRet (dXF fldT_part "part" (dVar 5)))))
theorem told_good {env : List (Option D)} {cs : Cells} {R : D → Cells → Prop} (e : env[5]? = some (some .non)) (q : R (.str "good") cs) : told_tail { nx := fun c => R .non c.cs, rt := R } ⟨env, cs⟩ := by
  unfold told_tail sSeq
  rw [e_if, e_tb]
  refine ⟨_, e, ?_⟩
  dsimp only [isNon]
  rw [onB_t, if_pos rfl]
  exact q
theorem told_bad {env : List (Option D)} {cs : Cells} {R : D → Cells → Prop} {j : Nat} {s : Str} (e : env[5]? = some (some (.cel j))) (h : cs j = some (.exc (noIn s))) (q : R (.str s) cs) : told_tail { nx := fun c => R .non c.cs, rt := R } ⟨env, cs⟩ := by
  unfold told_tail sSeq
  rw [e_if, e_tb]
  refine ⟨_, e, ?_⟩
  dsimp only [isNon]
  rw [onB_f, if_neg Bool.false_ne_true]
  dsimp only [sNext]
  rw [e_if]
  unfold te_l_told_1
  rw [e_orT]
  refine ⟨_, e, _, true, h, rfl, true, rfl, if_nt ?_⟩
  refine ⟨_, e, _, false, h, rfl, false, rfl, ?_⟩
  exact ⟨_, e, _, _, _, h, rfl, rfl, rfl, q⟩
theorem okd_l_told : ∀ ds cs R, sem_l_told ds cs R → den_l_told { nx := fun c => R .non c.cs, rt := R } ⟨env0 7 ds, cs⟩ := by
  rintro ds cs R ⟨i, sz, cl, gv, sh, an, b1, b2, b3, rm, gs, as, rfl, h1, h2, h3, g1, g3, q⟩
  unfold den_l_told sSeq sAsg
  dsimp only [dC]
  unfold sTryKeep if_l_told_1
  rw [e_if, e_tb]
  refine ⟨_, rfl, ?_⟩
  simp only [dC, e_eq_ii]
  have good : ∀ cs', Frd cs cs' → due3 b1 b2 b3 = none → R (.str "good") cs' := fun cs' f e => by
    have := q cs' f
    unfold dueS at this
    rw [e] at this
    exact this
  have bad : ∀ cs' s, Frd cs cs' → due3 b1 b2 b3 = some s → R (.str s) cs' := fun cs' s f e => by
    have := q cs' f
    unfold dueS at this
    rw [e] at this
    exact this
  have rz : ∀ {s : Str} {cs' : Cells} {env : List (Option D)}, env[0]? = some (some (.int i)) → env.length = 7 → due3 b1 b2 b3 = some s → Frd cs cs' → ∃ b, subT_GateError (noIn s).cls = some b ∧
      (b = true → ∀ k, cs' k = none → dVar 6 ⟨env.set 6 (some (.cel k)), put cs' k (.exc (noIn s))⟩ fun d c1 => told_tail { nx := fun c => R .non c.cs, rt := R } ⟨(c1.env.set 5 (some d)).set 6 none, c1.cs⟩) ∧ (b = false → False) := fun {s cs' env} e0 el es f => by
    refine ⟨true, rfl, fun _ k hk => ?_, fun z => by cases z⟩
    refine ⟨.cel k, by rw [List.getElem?_set_self (by omega)], ?_⟩
    refine told_bad (j := k) (s := s) ?_ put_same (bad _ _ (f.new hk) es)
    rw [List.getElem?_set_ne (by decide), List.getElem?_set_self (by rw [List.length_set]; omega)]
  by_cases hi : i = 0
  · rw [decide_eq_true hi, onB_t]
    rw [if_pos (by simp)]
    refine ⟨ble rfl, ble rfl, _, rfl, _, rfl, _, rfl, _, rfl, rfl, fun k hk => ⟨rfl, ?_⟩⟩
    have hk' : cs k = none := hk
    refine ⟨cs, k, [.tup [.str "end"]], sz, cl, gv, sh, an, b1, b2, b3, rm, gs, as, rfl, hk', rfl, h1, h2, h3, g1, g3, ?_⟩
    cases e : due3 b1 b2 b3 with
    | none => exact .inr ⟨rfl, fun c1 k1 => ⟨rfl, told_good rfl (good _ k1.fr e)⟩⟩
    | some s => exact .inl ⟨s, rfl, fun c1 f1 => rz rfl rfl e f1⟩
  · rw [decide_eq_false hi, onB_f, if_neg Bool.false_ne_true]
    refine ⟨ble rfl, ble rfl, ble rfl, _, rfl, _, rfl, _, rfl, _, rfl, rfl, rfl, ?_⟩
    refine ⟨sz, cl, gv, sh, an, b1, b2, b3, rm, gs, as, rfl, h1, h2, h3, g1, g3, ?_⟩
    cases e : due3 b1 b2 b3 with
    | none => exact .inr ⟨rfl, fun d c1 f1 => told_good rfl (good _ f1 e)⟩
    | some s => exact .inl ⟨s, rfl, fun c1 f1 => rz rfl rfl e f1⟩
local macro_rules | `(tactic| k_search $t) => `(tactic| simp only [$t:term, sNext, sSeq, sAsg, sRet, sRetN, sDrop, e_if, sBreak, sCont, sAsgG, e_par, e_par3, gNm, e_set, e_setC, gList, dVar, dC, dBin, e_int2, e_add_ii, e_add_ib, e_add_ss, e_add_ll, e_add_tt, dSub, dMul, dDiv, dMod, dPow, dShl, dShr, dAnd, dOr, dXor, e_neg, dLt, dLe, dGt, dGe, e_eq_ii, e_eq_bb, e_eq_ss, e_ne_ii, e_ne_bb, e_ne_ss, e_eq_l, e_eq_sl, e_eq_t, e_eq_n, e_ne_l, e_ne_sl, e_ne_t, e_ne_n, e_chain, dTru, e_tb, e_tru_n, e_tru_b, e_tru_i, e_tru_l, e_tru_sl, e_tru_t, e_tru_d, e_andT, e_orT, dNotT, e_andV, e_orV, dNotV, e_ifE, onB_t, onB_f, onB_dec, onB_ndec, onB_not, onI_i, dNil, dCons, dTup, dLst, dLstC, dCall, dFn, dFnK, e_abs, e_max, e_min, e_int_i, e_int_b, e_len_l, e_len_sl, e_len_t, e_len_d, e_len_s, e_len_c, e_sum_l, e_ix_l, e_ix_sl, e_ix_t, e_ix_c, e_ix_s, e_ix_di, e_ix_ds, dSl, e_sl_l, e_sl_sl, e_sl_t, e_sl_s, dNoPart, e_part, iSeq, iTp, e_rng1, iRng2, sFor, sWhile, dDNew, dIsN, dIsNotN, isNon, env0,
  List.map_cons, List.map_nil, List.length_cons, List.length_nil, List.replicate, List.cons_append, List.nil_append, List.append_nil, Nat.sub_self, Nat.reduceSub, Nat.reduceAdd, List.getElem?_cons_zero, List.getElem?_cons_succ, List.set_cons_zero, List.set_cons_succ, Option.some.injEq, Co.lst.injEq, exists_eq_left', exists_eq_left, exists_and_left, List.cons.injEq, decide_eq_true_eq, true_and, and_true, decide_true, decide_false, if_true, if_false, Bool.false_eq_true, Bool.not_true, Bool.not_false, listD, intsOf_map, put_same, put_put, at0, at1, at2, at3, at4, at5, ix20, ix21, sizeLine_eq, Nat.reduceLeDiff, Int.reduceLT, Int.reduceLE, Int.reduceNeg, gt_iff_lt, ge_iff_le, Int.one_mul, wipeD, TgN.vs, List.foldr_cons, List.foldr_nil, tgSet, fStr_i, fReprD_d, e_gtp, onCel_c, onDic_d, onKey_i, onKey_s, dIxC, dInC, dNotInC, dInCN, dUpd, dFrz, dFrzD, e_isB, cellD_dic, cellD_fdic, dBits, dDNewC, Co.dic.injEq, exists_eq', eq_self, and_self, e_enum, e_zip])
local macro_rules | `(tactic| walk_at "dl") => `(tactic| k_search put_same)
local macro_rules | `(tactic| walk_at "nd") => `(tactic| (simp only [List.map_cons, List.map_nil, List.cons_append, List.nil_append, List.append_nil]; decide +kernel))
local macro_rules | `(tactic| walk_at "asm") => `(tactic| repeat (refine And.intro (by assumption) ?_))
/-! ### draws -/
/-- all but j that stands stays -/
def FrB (j : Nat) (cs cs' : Cells) : Prop := ∀ i o, i ≠ j → cs i = some o → cs' i = some o
theorem FrB.refl {j : Nat} {cs : Cells} : FrB j cs cs := fun _ _ _ h => h
theorem FrB.trans {j : Nat} {a b c : Cells} (h : FrB j a b) (g : FrB j b c) : FrB j a c := fun i o n e => g i o n (h i o n e)
theorem FrB.of {j : Nat} {a b : Cells} (h : But j a b) : FrB j a b := fun i o n e => by rw [h i n]; exact e
theorem FrB.ofF {j : Nat} {a b : Cells} (h : Frd a b) : FrB j a b := fun i o _ e => h i o e
theorem Pool.frd {j : Nat} {a b : Cells} (p : Pool a j) (h : Frd a b) : Pool b j := by
  obtain ⟨x, y, e, r⟩ := p
  exact ⟨x, y, h _ _ e, r⟩
def Wr (v : Int) : Prop := 0 ≤ v ∧ v < 65536
/-- a drawn thing -/
def DrawD (j : Nat) (P : D → Prop) (cs : Cells) (R : D → Cells → Prop) : Prop := ∀ d cs', P d → Pool cs' j → FrB j cs cs' → R d cs'
def IsWr (d : D) : Prop := ∃ v, d = .int v ∧ Wr v
def sem_l_number : Sem := fun ds cs R => ∃ j, ds = [.cel j] ∧ Pool cs j ∧ DrawD j IsWr cs R
theorem len_l_number : ∀ ds cs R, sem_l_number ds cs R → ds.length = 1 := by rintro ds cs R ⟨_, rfl, _⟩; rfl
/-- _law_number: slots 0=_law_pool_here -/
def den_l_number : DS :=
  (sRet (dBin dIxF (dLst (dCons (dC (.int 0)) (dCons (dC (.int 1)) (dCons (dC (.int 2)) (dCons (dC (.int 7)) (dCons (dC (.int 8)) (dCons (dC (.int 255)) (dCons (dC (.int 32767)) (dCons (dC (.int 32768)) (dCons (dC (.int 65535)) (dCons (dFn 2 sem_l_take (fun ds _ => ds) (dCons (dVar 0) (dCons (dC (.int 65536)) dNil))) dNil))))))))))) (dFn 2 sem_l_take (fun ds _ => ds) (dCons (dVar 0) (dCons (dC (.int 10)) dNil)))))
theorem take_do {j n : Nat} {env : List (Option D)} {cs : Cells} {Q : D → Z → Prop} {i : Nat} (e : env[i]? = some (some (.cel j))) (hn : 0 < n ∧ n < 1000000) (hp : Pool cs j) (q : ∀ v cs', 0 ≤ v → v < (n : Int) → Pool cs' j → But j cs cs' → Q (.int v) ⟨env, cs'⟩) :
    dFn 2 sem_l_take (fun ds _ => ds) (dCons (dVar i) (dCons (dC (.int (n : Int))) dNil)) ⟨env, cs⟩ Q :=
  ⟨_, e, rfl, ⟨by omega, by omega⟩, hp, fun v cs' h1 h2 h3 h4 => q v cs' h1 h2 h3 h4⟩
theorem okd_l_number : ∀ ds cs R, sem_l_number ds cs R → den_l_number { nx := fun c => R .non c.cs, rt := R } ⟨env0 1 ds, cs⟩ := by
  rintro ds cs R ⟨j, rfl, hp, q⟩
  unfold den_l_number
  refine take_do (n := 65536) rfl (by decide) hp fun v c1 v1 v2 p1 b1 => ?_
  dsimp only [dNil]
  refine ⟨ble rfl, ?_⟩
  refine take_do (n := 10) rfl (by decide) p1 fun i c2 i1 i2 p2 b2 => ?_
  obtain ⟨d, e, hd⟩ := at_all (P := IsWr) (xs := [.int 0, .int 1, .int 2, .int 7, .int 8, .int 255, .int 32767, .int 32768, .int 65535, .int v]) i1 i2 (fun d hd => by
    simp only [List.mem_cons, List.not_mem_nil, or_false] at hd
    rcases hd with rfl | rfl | rfl | rfl | rfl | rfl | rfl | rfl | rfl | rfl
    all_goals first | exact ⟨_, rfl, by decide, by decide⟩ | exact ⟨_, rfl, v1, v2⟩)
  exact ⟨d, e, q _ _ hd p2 (FrB.of (b1.trans b2))⟩
def sem_l_contract : Sem := fun ds cs R => ∃ n, ds = [.int n] ∧ ∀ cl cs', Frd cs cs' → R (conD n cl) cs'
theorem len_l_contract : ∀ ds cs R, sem_l_contract ds cs R → ds.length = 1 := by rintro ds cs R ⟨_, rfl, _⟩; rfl
/-- _law_contract: slots 0=_law_size 1=_law_number_here 2=_law_calls -/
def den_l_contract : DS :=
  (sSeq (sAsg (dTup (dCons (dC (.str "number")) (dCons (dC (.int 0)) (dCons (dC (.int 65535)) dNil)))) 1)
    (sSeq (sAsg (dLstC (dCons (dTup (dCons (dC (.str "find")) (dCons (dTup (dCons (dVar 1) dNil)) (dCons (dTup (dCons (dC (.str "lent")) (dCons (dC (.str "rooms")) dNil))) dNil)))) (dCons (dTup (dCons (dC (.str "back")) (dCons (dTup (dCons (dTup (dCons (dC (.str "room")) (dCons (dC (.str "rooms")) dNil))) dNil)) (dCons (dTup (dCons (dC (.str "back")) dNil)) dNil)))) dNil))) 2)
    (sSeq (sDrop (dApp (dVar 2) (dTup (dCons (dC (.str "tell")) (dCons (dTup (dCons (dTup (dCons (dC (.str "number")) (dCons (dC (.int 0)) (dCons (dC (.int 255)) dNil)))) (dCons (dTup (dCons (dC (.str "cells")) (dCons (dC (.int 2)) dNil))) dNil))) (dCons (dTup (dCons (dC (.str "number")) (dCons (dC (.int 0)) (dCons (dC (.int 7)) dNil)))) dNil))))))
    (sSeq (sAsg (dBin dAddCel (dVar 2) (dLst (dCons (dTup (dCons (dC (.str "ask")) (dCons (dTup dNil) (dCons (dTup (dCons (dC (.str "number")) (dCons (dC (.int 3)) (dCons (dC (.int 65535)) dNil)))) dNil)))) (dCons (dTup (dCons (dC (.str "seek")) (dCons (dTup (dCons (dTup (dCons (dC (.str "number")) (dCons (dC (.int 0)) (dCons (dC (.int 9)) dNil)))) dNil)) (dCons (dTup (dCons (dC (.str "lent")) (dCons (dC (.str "bits")) dNil))) dNil)))) dNil)))) 2)
    (sSeq (sDrop (dApp (dVar 2) (dTup (dCons (dC (.str "give")) (dCons (dTup (dCons (dTup (dCons (dC (.str "room")) (dCons (dC (.str "bits")) dNil))) (dCons (dTup (dCons (dC (.str "cells")) (dCons (dC (.int 1)) dNil))) dNil))) (dCons (dTup (dCons (dC (.str "back")) dNil)) dNil))))))
    (sRet (dTup (dCons (dLst (dCons (dTup (dCons (dC (.str "rooms")) (dCons (dVar 0) dNil))) (dCons (dTup (dCons (dC (.str "bits")) (dCons (dC (.int 1)) dNil))) dNil))) (dCons (dFrz (dVar 2)) dNil)))))))))
theorem okd_l_contract : ∀ ds cs R, sem_l_contract ds cs R → den_l_contract { nx := fun c => R .non c.cs, rt := R } ⟨env0 3 ds, cs⟩ := by
  rintro ds cs R ⟨n, rfl, q⟩
  unfold den_l_contract
  k_search dApp
  refine fun k hk => ⟨ble rfl, ?_⟩
  refine ⟨_, _, put_same, rfl, ble rfl, fun m hm => ?_⟩
  refine ⟨_, rfl, ⟨_, put_same⟩, _, put_same, ble rfl, _, rfl, _, rfl, _, put_same, ?_⟩
  rw [put_put, del_put hm]
  exact q _ _ (Frd.refl.new hk)
def IsIn (d : D) : Prop := ∃ ws : List Int, d = .lst (ws.map .int) ∧ ws.length ≤ 16 ∧ ∀ w ∈ ws, Wr w
def sem_l_input : Sem := fun ds cs R => ∃ j, ds = [.cel j] ∧ Pool cs j ∧ DrawD j IsIn cs R
theorem len_l_input : ∀ ds cs R, sem_l_input ds cs R → ds.length = 1 := by rintro ds cs R ⟨_, rfl, _⟩; rfl
def ex_l_input_1 : DE :=
  (dLc (iRng1 (dCons (dBin dIxF (dLst (dCons (dC (.int 0)) (dCons (dC (.int 1)) (dCons (dC (.int 2)) (dCons (dC (.int 4)) (dCons (dC (.int 16)) dNil)))))) (dFn 2 sem_l_take (fun ds _ => ds) (dCons (dVar 0) (dCons (dC (.int 5)) dNil)))) dNil)) (.one 1) dYes (dFn 1 sem_l_number (fun ds _ => ds) (dCons (dVar 0) dNil)))
/-- _law_input: slots 0=_law_pool_here 1=_law_k -/
def den_l_input : DS :=
  (sRet ex_l_input_1)
/-- [number for k in range(n)] -/
theorem lc_num {j k : Nat} {g : Nat} {env : List (Option D)} {R : List D → Cells → Prop} {i : Nat} (e0 : ∀ d, (env.set g (some d))[i]? = some (some (.cel j))) : ∀ {ds : List D} {acc : List Int} {cs : Cells},
    cs k = none → j ≠ k → Pool cs j → acc.length + ds.length ≤ 1000 → (∀ w ∈ acc, Wr w) → (∀ (ws : List Int) cs', ws.length = acc.length + ds.length → (∀ w ∈ ws, Wr w) → Pool cs' j → (∀ i o, i ≠ j → i ≠ k → cs i = some o → cs' i = some o) → R (ws.map .int) cs') →
    lcGo k (.one g) dYes (dFn 1 sem_l_number (fun ds _ => ds) (dCons (dVar i) dNil)) env ds (acc.map .int) cs R
  | [], acc, cs, hk, nj, hp, hl, ha, q => q acc cs rfl ha hp fun _ _ _ _ h => h
  | d :: ds, acc, cs, hk, nj, hp, hl, ha, q => by
    rw [List.length_cons] at hl
    refine ⟨_, rfl, ?_⟩
    refine ⟨_, e0 d, rfl, j, rfl, ?_, fun d2 c2 hd2 p2 f2 => ?_⟩
    · obtain ⟨a, b, e, r⟩ := hp
      exact ⟨a, b, by show put cs k _ j = _; rw [put_ne nj]; exact e, r⟩
    · obtain ⟨v, rfl, hv⟩ := hd2
      have hk2 : c2 k = some (.lst (acc.map .int)) := f2 k _ nj.symm put_same
      refine ⟨hk2, by rw [List.length_map, sizeLine_eq]; omega, ?_⟩
      have em : acc.map D.int ++ [D.int v] = (acc ++ [v]).map D.int := by rw [List.map_append]; rfl
      rw [em]
      refine lc_num e0 (acc := acc ++ [v]) del_self nj ?_ (by rw [List.length_append]; simp only [List.length_cons, List.length_nil]; omega) ?_ fun ws cs' hw h1 h2 h3 => ?_
      · obtain ⟨a, b, e, r⟩ := p2
        exact ⟨a, b, by unfold del; rw [if_neg nj]; exact e, r⟩
      · intro w hw
        rcases List.mem_append.mp hw with m | m
        · exact ha w m
        · rw [List.mem_singleton.mp m]; exact hv
      · refine q ws cs' (by rw [hw, List.length_append]; simp only [List.length_cons, List.length_nil]; omega) h1 h2 fun i o n1 n2 e => h3 i o n1 n2 ?_
        unfold del
        rw [if_neg n2]
        exact f2 i o n1 (by show put cs k _ i = _; rw [put_ne n2]; exact e)
theorem okd_l_input : ∀ ds cs R, sem_l_input ds cs R → den_l_input { nx := fun c => R .non c.cs, rt := R } ⟨env0 2 ds, cs⟩ := by
  rintro ds cs R ⟨j, rfl, hp, q⟩
  unfold den_l_input sRet ex_l_input_1 dLc
  refine ⟨ble rfl, ?_⟩
  refine take_do (n := 5) rfl (by decide) hp fun i c1 i1 i2 p1 b1 => ?_
  obtain ⟨d, e, hd⟩ := at_all (P := fun d => ∃ n : Nat, d = .int (n : Int) ∧ n ≤ 16) (xs := [.int 0, .int 1, .int 2, .int 4, .int 16]) i1 i2 (fun d hd => by
    simp only [List.mem_cons, List.not_mem_nil, or_false] at hd
    rcases hd with rfl | rfl | rfl | rfl | rfl
    · exact ⟨0, rfl, by decide⟩
    · exact ⟨1, rfl, by decide⟩
    · exact ⟨2, rfl, by decide⟩
    · exact ⟨4, rfl, by decide⟩
    · exact ⟨16, rfl, by decide⟩)
  obtain ⟨n, rfl, hn⟩ := hd
  refine ⟨_, e, by omega, by omega, fun k hk => ?_⟩
  have hk' : c1 k = none := hk
  refine lc_num (j := j) (acc := []) (fun d => rfl) hk' (p1.ne hk') p1 (by rw [rangeD_length]; simp only [List.length_nil]; omega) (fun w hw => by cases hw) fun ws cs' hl hw p2 f2 => ?_
  refine q _ _ ⟨ws, rfl, by rw [hl, rangeD_length]; simp only [List.length_nil]; omega, hw⟩ p2 fun i o n1 e => f2 i o n1 (fun z => ?_) (FrB.of b1 i o n1 e)
  have := FrB.of b1 i o n1 e
  rw [z, hk'] at this
  cases this
/-! ### drawn shelves -/
def ksR : List Int := [0, 1, 7, 65535]
def rmK (L : List (Int × List Int)) : List (L2.Key × D) := L.map fun p => (.inl p.1, .lst (p.2.map .int))
structure Rml (n i : Nat) (L : List (Int × List Int)) : Prop where
  l : L.length ≤ i
  u : (L.map (·.1)).Nodup
  k : ∀ p ∈ L, p.1 ∈ ksR.take i ∧ p.2.length = n ∧ ∀ v ∈ p.2, Wr v
theorem put_new {L : List (Int × List Int)} {q : Int} {d : D} (h : ∀ p ∈ L, p.1 ≠ q) : putD (rmK L) (.inl q) d = rmK L ++ [(.inl q, d)] := by
  unfold putD
  rw [if_neg]
  rw [List.any_eq_true]
  rintro ⟨x, hm, e⟩
  unfold rmK at hm
  obtain ⟨p, hp, rfl⟩ := List.mem_map.mp hm
  exact h p hp (Sum.inl.inj (of_decide_eq_true e))
theorem take_new : ∀ {i : Nat} {q : Int}, ksR[i]? = some q → ∀ k ∈ ksR.take i, k ≠ q
  | 0, _, _, k, h => by cases h
  | 1, _, e, k, h => by cases e; simp only [ksR, List.take_succ_cons, List.take_zero, List.mem_cons, List.not_mem_nil, or_false] at h; subst h; decide
  | 2, _, e, k, h => by cases e; simp only [ksR, List.take_succ_cons, List.take_zero, List.mem_cons, List.not_mem_nil, or_false] at h; rcases h with rfl | rfl <;> decide
  | 3, _, e, k, h => by cases e; simp only [ksR, List.take_succ_cons, List.take_zero, List.mem_cons, List.not_mem_nil, or_false] at h; rcases h with rfl | rfl | rfl <;> decide
  | i + 4, _, e, k, h => by cases e
theorem take_more {i : Nat} {q : Int} (e : ksR[i]? = some q) : ∀ k, k ∈ ksR.take i ∨ k = q → k ∈ ksR.take (i + 1) := by
  rintro k (h | rfl)
  · rw [List.take_add_one]; exact List.mem_append_left _ h
  · rw [List.take_add_one, e]; exact List.mem_append_right _ (List.mem_singleton.mpr rfl)
theorem Rml.up {n i : Nat} {L : List (Int × List Int)} (h : Rml n i L) {q : Int} (e : ksR[i]? = some q) : Rml n (i + 1) L :=
  ⟨Nat.le_succ_of_le h.l, h.u, fun p hp => let ⟨a, b⟩ := h.k p hp; ⟨take_more e _ (.inl a), b⟩⟩
theorem Rml.add {n i : Nat} {L : List (Int × List Int)} (h : Rml n i L) {q : Int} {ws : List Int} (e : ksR[i]? = some q) (hl : ws.length = n) (hw : ∀ v ∈ ws, Wr v) : Rml n (i + 1) (L ++ [(q, ws)]) := by
  refine ⟨by rw [List.length_append]; exact Nat.succ_le_succ h.l, ?_, fun p hp => ?_⟩
  · rw [List.map_append, List.nodup_append]
    refine ⟨h.u, List.nodup_cons.mpr ⟨List.not_mem_nil, List.nodup_nil⟩, fun a ha b hb => ?_⟩
    obtain ⟨p, hp, rfl⟩ := List.mem_map.mp ha
    have : b = q := List.mem_singleton.mp hb
    rw [this]
    exact take_new e _ (h.k p hp).1
  · rcases List.mem_append.mp hp with m | m
    · let ⟨a, b⟩ := h.k p m; exact ⟨take_more e _ (.inl a), b⟩
    · rw [List.mem_singleton.mp m]; exact ⟨take_more e _ (.inr rfl), hl, hw⟩
def FrC (j a : Nat) (cs cs' : Cells) : Prop := ∀ i o, i ≠ j → i ≠ a → cs i = some o → cs' i = some o
def ex_l_shelves_1 : DE :=
  (dDisp (((dC (.str "rooms")), dDNewC) :: (((dC (.str "bits")), dDNewC) :: [])))
def ex_l_shelves_2 : DE :=
  (dLc (iRng1 (dCons (dVar 4) dNil)) (.one 6) dYes (dFn 1 sem_l_number (fun ds _ => ds) (dCons (dVar 0) dNil)))
def if_l_shelves_1 : DS :=
  (sIf (dTB (dBin dGt (dFn 2 sem_l_take (fun ds _ => ds) (dCons (dVar 0) (dCons (dC (.int 3)) dNil))) (dC (.int 0)))) (sAsgG ex_l_shelves_2 (gIxC (dBin dIxF (dVar 2) (dVar 3)) (dVar 5))) sNext)
def bd_l_shelves_1 : DS :=
  if_l_shelves_1
def bd_l_shelves_2 : DS :=
  (sFor (iSeq (dLst (dCons (dC (.int 0)) (dCons (dC (.int 1)) (dCons (dC (.int 7)) (dCons (dC (.int 65535)) dNil)))))) (gNm 5) bd_l_shelves_1)
/-- _law_shelves: slots 0=_law_pool_here 1=_law_size 2=_law_found 3=_law_name 4=_law_many 5=_law_key 6=_law_k -/
def den_l_shelves : DS :=
  (sSeq (sAsg ex_l_shelves_1 2)
    (sSeq (sFor (iSeq (dLst (dCons (dTup (dCons (dC (.str "rooms")) (dCons (dVar 1) dNil))) (dCons (dTup (dCons (dC (.str "bits")) (dCons (dC (.int 1)) dNil))) dNil)))) (gTp ((gNm 3) :: ((gNm 4) :: []))) bd_l_shelves_2)
    (sFrzK 2 0 (sFrzK 2 1 (sRet (dVar 2))))))
theorem shelf_in {j a n : Nat} {sz : Int} {nm : Str} {F : List (L2.Key × D)} {x5 x6 : Option D} {cs : Cells} {DD : DEnds} (hF : lookD F (.inr nm) = some (.cel a)) (hn : n ≤ 100) (hp : Pool cs j) (nj : j ≠ a) (ha : cs a = some (.dic []))
    (q : ∀ L cs' y5 y6, Rml n 4 L → cs' a = some (.dic (rmK L)) → Pool cs' j → FrC j a cs cs' → DD.nx ⟨[some (.cel j), some (.int sz), some (.dic F), some (.str nm), some (.int (n : Int)), y5, y6], cs'⟩) :
    bd_l_shelves_2 DD ⟨[some (.cel j), some (.int sz), some (.dic F), some (.str nm), some (.int (n : Int)), x5, x6], cs⟩ := by
  unfold bd_l_shelves_2
  refine ⟨ble rfl, _, rfl, fun i c => ∃ L cs' y5 y6, c = ⟨[some (.cel j), some (.int sz), some (.dic F), some (.str nm), some (.int (n : Int)), y5, y6], cs'⟩ ∧ Rml n i L ∧ cs' a = some (.dic (rmK L)) ∧ Pool cs' j ∧ FrC j a cs cs',
    ⟨[], cs, x5, x6, rfl, ⟨Nat.zero_le _, List.nodup_nil, fun p hp => by cases hp⟩, ha, hp, fun _ _ _ _ h => h⟩, fun i d c2 hd ⟨L, c1, y5, y6, hc, h1, h2, h3, h4⟩ => ?_, fun c2 ⟨L, c1, y5, y6, hc, h1, h2, h3, h4⟩ => by subst hc; exact q L c1 y5 y6 h1 h2 h3 h4⟩
  subst hc
  have hq : ∃ v, ksR[i]? = some v ∧ d = .int v := by
    match i, hd with
    | 0, hd => cases hd; exact ⟨_, rfl, rfl⟩
    | 1, hd => cases hd; exact ⟨_, rfl, rfl⟩
    | 2, hd => cases hd; exact ⟨_, rfl, rfl⟩
    | 3, hd => cases hd; exact ⟨_, rfl, rfl⟩
    | i + 4, hd => cases hd
  obtain ⟨v, ev, rfl⟩ := hq
  have hi : L.length ≤ 100 := Nat.le_trans h1.l (by
    have : i < 4 := by
      rcases Nat.lt_or_ge i 4 with z | z
      · exact z
      · rw [List.getElem?_eq_none z] at ev; cases ev
    omega)
  unfold gNm bd_l_shelves_1 if_l_shelves_1
  dsimp only
  rw [e_if, e_tb]
  refine take_do (n := 3) rfl (by decide) h3 fun w c3 w1 w2 p3 b3 => ?_
  have h23 : c3 a = some (.dic (rmK L)) := by rw [b3 a nj.symm]; exact h2
  have h43 : FrC j a cs c3 := fun i o n1 n2 e => by rw [b3 i n1]; exact h4 i o n1 n2 e
  simp only [dC, dGt, e_int2, true_and]
  by_cases hw : (0 : Int) < w
  · rw [decide_eq_true hw, onB_t, if_pos (by simp)]
    unfold ex_l_shelves_2 sAsgG dLc
    refine ⟨_, rfl, by omega, by omega, fun k hk => ?_⟩
    have hk' : c3 k = none := hk
    have ka : k ≠ a := fun z => by rw [z, h23] at hk'; cases hk'
    refine lc_num (j := j) (acc := []) (fun d => rfl) hk' (p3.ne hk') p3 (by rw [rangeD_length]; simp only [List.length_nil]; omega) (fun w hw => by cases hw) fun ws c4 hl hws p4 f4 => ?_
    have ha4 : c4 a = some (.dic (rmK L)) := f4 a _ nj.symm ka.symm h23
    have fr : ∀ i o, i ≠ j → i ≠ a → cs i = some o → c4 i = some o := fun i o n1 n2 e => by
      have e3 := h43 i o n1 n2 e
      exact f4 i o n1 (fun z => by rw [z, hk'] at e3; cases e3) e3
    refine ⟨_, rfl, _, rfl, _, hF, _, rfl, _, ha4, by unfold rmK; rw [List.length_map, sizeLine_eq]; omega, ?_⟩
    refine ⟨L ++ [(v, ws)], _, _, _, rfl, h1.add ev (by rw [hl, rangeD_length]; simp only [List.length_nil]; omega) hws, ?_, ?_, ?_⟩
    · show put c4 a _ a = _
      rw [put_same, put_new fun p hp => take_new ev _ (h1.k p hp).1]
      unfold rmK
      rw [List.map_append]; rfl
    · obtain ⟨x, y, e, r⟩ := p4
      exact ⟨x, y, by show put c4 a _ j = _; rw [put_ne nj]; exact e, r⟩
    · intro i o n1 n2 e
      show put c4 a _ i = _
      rw [put_ne n2]
      exact fr i o n1 n2 e
  · rw [decide_eq_false hw, onB_f, if_neg (by simp)]
    exact ⟨L, _, _, _, rfl, h1.up ev, h23, p3, h43⟩
def GSh (n : Nat) (d : D) : Prop := ∃ L1 L2, Rml n 4 L1 ∧ Rml 1 4 L2 ∧ d = .dic [(.inr "rooms", .dic (rmK L1)), (.inr "bits", .dic (rmK L2))]
def sem_l_shelves : Sem := fun ds cs R => ∃ (j n : Nat), ds = [.cel j, .int (n : Int)] ∧ n ≤ 100 ∧ Pool cs j ∧ DrawD j (GSh n) cs R
theorem len_l_shelves : ∀ ds cs R, sem_l_shelves ds cs R → ds.length = 2 := by rintro ds cs R ⟨_, _, rfl, _⟩; rfl
def shF (a b : Nat) : List (L2.Key × D) := [(.inr "rooms", .cel a), (.inr "bits", .cel b)]
def shelf_tail : DS :=
  (sSeq (sFor (iSeq (dLst (dCons (dTup (dCons (dC (.str "rooms")) (dCons (dVar 1) dNil))) (dCons (dTup (dCons (dC (.str "bits")) (dCons (dC (.int 1)) dNil))) dNil)))) (gTp ((gNm 3) :: ((gNm 4) :: []))) bd_l_shelves_2)
    (sFrzK 2 0 (sFrzK 2 1 (sRet (dVar 2)))))
theorem shelf_tail_ok {j n a b : Nat} {cs c0 : Cells} {R : D → Cells → Prop} (hn : n ≤ 100) (ja : j ≠ a) (jb : j ≠ b) (ba : b ≠ a) (a0 : cs a = none) (b0 : cs b = none) (k0 : c0 a = some (.dic [])) (kb : c0 b = some (.dic [])) (p0 : Pool c0 j) (fr0 : ∀ i o, cs i = some o → c0 i = some o) (q : DrawD j (GSh n) cs R) :
    shelf_tail { nx := fun c => R .non c.cs, rt := R } ⟨[some (.cel j), some (.int (n : Int)), some (.dic (shF a b)), none, none, none, none], c0⟩ := by
  unfold shelf_tail sSeq
  refine ⟨_, rfl, ble rfl, ble rfl, ble rfl, _, rfl, ?_⟩
  refine ⟨fun i c => (i = 0 ∧ c = ⟨[some (.cel j), some (.int (n : Int)), some (.dic (shF a b)), none, none, none, none], c0⟩) ∨
    (i = 1 ∧ ∃ L1 c1 y3 y4 y5 y6, c = ⟨[some (.cel j), some (.int (n : Int)), some (.dic (shF a b)), y3, y4, y5, y6], c1⟩ ∧ Rml n 4 L1 ∧ c1 a = some (.dic (rmK L1)) ∧ c1 b = some (.dic []) ∧ Pool c1 j ∧ FrC j a c0 c1) ∨
    (i = 2 ∧ ∃ L1 L2 c1 y3 y4 y5 y6, c = ⟨[some (.cel j), some (.int (n : Int)), some (.dic (shF a b)), y3, y4, y5, y6], c1⟩ ∧ Rml n 4 L1 ∧ Rml 1 4 L2 ∧ c1 a = some (.dic (rmK L1)) ∧ c1 b = some (.dic (rmK L2)) ∧ Pool c1 j ∧ ∀ i o, cs i = some o → i ≠ j → c1 i = some o),
    .inl ⟨rfl, rfl⟩, fun i d c2 hd hI => ?_, fun c2 hI => ?_⟩
  · rcases hI with ⟨rfl, rfl⟩ | ⟨rfl, L1, c1, y3, y4, y5, y6, rfl, h1, h2, h3, h4, h5⟩ | ⟨rfl, _⟩
    · cases hd
      refine ⟨_, rfl, rfl, ?_⟩
      simp only [gList, gNm]
      refine shelf_in (a := a) (nm := "rooms") (n := n) rfl hn p0 ja k0 fun L c1 y5 y6 h1 h2 h3 h4 => ?_
      exact .inr (.inl ⟨by trivial, L, c1, _, _, y5, y6, rfl, h1, h2, h4 b _ jb.symm ba kb, h3, h4⟩)
    · cases hd
      refine ⟨_, rfl, rfl, ?_⟩
      simp only [gList, gNm]
      refine shelf_in (a := b) (nm := "bits") (n := 1) rfl (by decide) h4 jb h3 fun L c3 y5 y6 g1 g2 g3 g4 => ?_
      refine .inr (.inr ⟨by trivial, L1, L, c3, _, _, y5, y6, rfl, h1, g1, g4 a _ ja.symm ba.symm h2, g2, g3, fun i o e nj => ?_⟩)
      exact g4 i o nj (fun z => by rw [z, b0] at e; cases e) (h5 i o nj (fun z => by rw [z, a0] at e; cases e) (fr0 i o e))
    · cases hd
  · rcases hI with ⟨z, _⟩ | ⟨z, _⟩ | ⟨_, L1, L2, c1, y3, y4, y5, y6, rfl, h1, g1, h2, h3, h4, h5⟩
    · cases z
    · cases z
    · refine ⟨_, _, _, _, rfl, rfl, h2, ?_⟩
      refine ⟨_, _, _, _, rfl, rfl, by show del c1 a b = _; unfold del; rw [if_neg ba]; exact h3, ?_⟩
      refine ⟨_, rfl, q _ _ ⟨L1, L2, h1, g1, rfl⟩ ?_ fun i o nj e => ?_⟩
      · exact h4.other (by show del (del c1 a) b j = _; unfold del; rw [if_neg jb, if_neg ja])
      · show del (del c1 a) b i = _
        unfold del
        rw [if_neg (fun z => by rw [z, b0] at e; cases e), if_neg (fun z => by rw [z, a0] at e; cases e)]
        exact h5 i o e nj
theorem okd_l_shelves : ∀ ds cs R, sem_l_shelves ds cs R → den_l_shelves { nx := fun c => R .non c.cs, rt := R } ⟨env0 7 ds, cs⟩ := by
  rintro ds cs R ⟨j, n, rfl, hn, hp, q⟩
  unfold den_l_shelves sSeq sAsg ex_l_shelves_1
  intro k hk
  have hk' : cs k = none := hk
  intro a ha
  have ha' : put cs k (.dic []) a = none := ha
  intro b hb
  have hb' : put (put cs k (.dic [])) a (.dic []) b = none := hb
  have ak : a ≠ k := fun z => by rw [z, put_same] at ha'; cases ha'
  have ba : b ≠ a := fun z => by rw [z, put_same] at hb'; cases hb'
  have bk : b ≠ k := fun z => by rw [z, put_ne ak.symm, put_same] at hb'; cases hb'
  have a0 : cs a = none := by rw [put_ne ak] at ha'; exact ha'
  have b0 : cs b = none := by rw [put_ne ba, put_ne bk] at hb'; exact hb'
  have ja : j ≠ a := hp.ne a0
  have jb : j ≠ b := hp.ne b0
  have jk : j ≠ k := hp.ne hk'
  refine ⟨?_, [(.inr "rooms", .cel a), (.inr "bits", .cel b)], rfl, ble rfl, ?_⟩
  · show put (put (put cs k _) a _) b _ k = _
    rw [put_ne bk.symm, put_ne ak.symm, put_same]
  show shelf_tail { nx := fun c => R .non c.cs, rt := R } ⟨[some (.cel j), some (.int (n : Int)), some (.dic (shF a b)), none, none, none, none], del (put (put (put cs k (.dic [])) a (.dic [])) b (.dic [])) k⟩
  generalize hc : del (put (put (put cs k (.dic [])) a (.dic [])) b (.dic [])) k = c0
  have k0 : c0 a = some (.dic []) := by rw [← hc]; unfold del; rw [if_neg ak, put_ne ba.symm, put_same]
  have kb : c0 b = some (.dic []) := by rw [← hc]; unfold del; rw [if_neg bk, put_same]
  have oth : ∀ i, i ≠ a → i ≠ b → i ≠ k → c0 i = cs i := fun i n1 n2 n3 => by rw [← hc]; unfold del; rw [if_neg n3, put_ne n2, put_ne n1, put_ne n3]
  have p0 : Pool c0 j := hp.other (oth j ja jb jk)
  have fr0 : ∀ i o, cs i = some o → c0 i = some o := fun i o e => by
    rw [oth i (fun z => by rw [z, a0] at e; cases e) (fun z => by rw [z, b0] at e; cases e) (fun z => by rw [z, hk'] at e; cases e)]; exact e
  exact shelf_tail_ok hn ja jb ba a0 b0 k0 kb p0 fr0 q
/-! ### what is shown: small, shallow, light -/
structure RP (k w : Nat) (d : D) : Prop where
  s : smG d
  p : (pyG d).depth ≤ k
  w : wg d ≤ w
theorem RP.mono {k w k' w' : Nat} {d : D} (h : RP k w d) (hk : k ≤ k') (hw : w ≤ w') : RP k' w' d := ⟨h.s, Nat.le_trans h.p hk, Nat.le_trans h.w hw⟩
theorem rp_all {k w : Nat} : ∀ {ds : List D}, (∀ e ∈ ds, RP k w e) → smGA ds ∧ PyData.depthAll (pyGA ds) ≤ k ∧ wgA ds ≤ ds.length * (w + 2)
  | [], _ => ⟨True.intro, Nat.zero_le _, Nat.zero_le _⟩
  | d :: ds, h => by
    obtain ⟨a, b, c⟩ := h d List.mem_cons_self
    obtain ⟨a2, b2, c2⟩ := rp_all (ds := ds) fun e he => h e (List.mem_cons_of_mem _ he)
    refine ⟨⟨a, a2⟩, ?_, ?_⟩
    · show max (pyG d).depth (PyData.depthAll (pyGA ds)) ≤ k
      omega
    · show wg d + 2 + wgA ds ≤ (ds.length + 1) * (w + 2)
      rw [Nat.succ_mul]; omega
theorem rp_lst {k w m w' : Nat} {ds : List D} (h : ∀ e ∈ ds, RP k w e) (hl : ds.length ≤ m) (hw : 3 + m * (w + 2) ≤ w') : RP (k + 1) w' (.lst ds) := by
  obtain ⟨a, b, c⟩ := rp_all h
  refine ⟨a, ?_, ?_⟩
  · show (PyData.list (pyGA ds)).depth ≤ k + 1
    simp only [PyData.depth]; omega
  · show 3 + wgA ds ≤ w'
    have := Nat.mul_le_mul_right (w + 2) hl
    omega
theorem rp_tup {k w m w' : Nat} {ds : List D} (h : ∀ e ∈ ds, RP k w e) (hl : ds.length ≤ m) (hw : 3 + m * (w + 2) ≤ w') : RP (k + 1) w' (.tup ds) := by
  obtain ⟨a, b, c⟩ := rp_all h
  refine ⟨a, ?_, ?_⟩
  · show (PyData.tuple (pyGA ds)).depth ≤ k + 1
    simp only [PyData.depth]; omega
  · show 3 + wgA ds ≤ w'
    have := Nat.mul_le_mul_right (w + 2) hl
    omega
theorem rp_wr {i : Int} (h : -10 < i ∧ i < 70000) : RP 0 25 (.int i) := ⟨⟨by omega, by omega⟩, Nat.le_refl _, by show iw i ≤ 25; unfold iw; rw [if_pos ⟨by omega, by omega⟩]; decide⟩
theorem rp_non : RP 0 25 .non := ⟨True.intro, Nat.le_refl _, by show 5 ≤ 25; decide⟩
theorem rp_keys {k w wk : Nat} : ∀ {ks : List (L2.Key × D)}, (∀ e ∈ ks, (smKey e.1 ∧ wq (kyG e.1) ≤ wk) ∧ RP k w e.2) → smGK ks ∧ PyData.depthKv (pyGK ks) ≤ k ∧ wgK ks ≤ ks.length * (wk + w + 4)
  | [], _ => ⟨True.intro, Nat.zero_le _, Nat.zero_le _⟩
  | (q, d) :: ks, h => by
    obtain ⟨⟨a0, a1⟩, a, b, c⟩ := h (q, d) List.mem_cons_self
    obtain ⟨a2, b2, c2⟩ := rp_keys (ks := ks) fun e he => h e (List.mem_cons_of_mem _ he)
    refine ⟨⟨a0, a, a2⟩, ?_, ?_⟩
    · show PyData.depthKv ((keyG q, pyG d) :: pyGK ks) ≤ k
      simp only [PyData.depthKv]
      have : (keyG q).depth = 0 := by cases q <;> rfl
      dsimp only at b
      omega
    · show wq (kyG q) + 2 + wg d + 2 + wgK ks ≤ (ks.length + 1) * (wk + w + 4)
      rw [Nat.succ_mul]
      dsimp only at c a1
      omega
theorem rp_dic {k w wk m w' : Nat} {ks : List (L2.Key × D)} (h : ∀ e ∈ ks, (smKey e.1 ∧ wq (kyG e.1) ≤ wk) ∧ RP k w e.2) (hl : ks.length ≤ m) (hw : 2 + m * (wk + w + 4) ≤ w') : RP (k + 1) w' (.dic ks) := by
  obtain ⟨a, b, c⟩ := rp_keys h
  refine ⟨a, ?_, ?_⟩
  · show (PyData.dict (pyGK ks)).depth ≤ k + 1
    simp only [PyData.depth]; omega
  · show 2 + wgK ks ≤ w'
    have := Nat.mul_le_mul_right (wk + w + 4) hl
    omega
theorem rp_dicB {k w : Nat} {b : Bool} {d : D} (h : RP k w d) : RP (k + 1) (11 + w) (.dicB b d) := by
  obtain ⟨a, p, c⟩ := h
  refine ⟨a, ?_, ?_⟩
  · show (PyData.dict [(.bool b, pyG d)]).depth ≤ k + 1
    simp only [PyData.depth, PyData.depthKv]; omega
  · show 11 + wg d ≤ 11 + w
    omega
theorem key_i {i : Int} (h : -10 < i ∧ i < 70000) : smKey (.inl i) ∧ wq (kyG (.inl i)) ≤ 400 := ⟨⟨by omega, by omega⟩, by show iw i ≤ 400; unfold iw; split <;> omega⟩
theorem key_s {s : String} (h : (Nat.ble (Str.ofString s).length 20 && (Str.ofString s).cps.toList.all fun c => Nat.blt c (16 ^ 8)) = true := by decide +kernel) : smKey (.inr (Str.ofString s)) ∧ wq (kyG (.inr (Str.ofString s))) ≤ 400 := by
  obtain ⟨h1, h2⟩ := Bool.and_eq_true_iff.mp h
  refine ⟨fun c hc => Nat.le_of_ble_eq_true (List.all_eq_true.mp h2 c hc), ?_⟩
  show 10 * (Str.ofString s).length + 2 ≤ 400
  have := Nat.le_of_ble_eq_true h1
  omega
/-! ### odd things -/
def ltB (p : D → Bool) (m : Nat) (d : D) : Option Bool := match ltD d with
  | some xs => if (decide (xs.length ≤ 1000) && xs.all fun x => (tyN x).isSome) = true then some (decide (xs.length ≤ m) && xs.all p) else none
  | none => if ((tyN d).isSome && !isLst d && !isTup d) = true then some false else none
theorem ltB_ok {p : D → Bool} {m : Nat} {d : D} {b : Bool} (h : ltB p m d = some b) : LtIs p m d b := by
  unfold ltB at h
  split at h
  · rename_i xs e
    by_cases z : (decide (xs.length ≤ 1000) && xs.all fun x => (tyN x).isSome) = true
    · rw [if_pos z] at h
      cases h
      obtain ⟨z1, z2⟩ := Bool.and_eq_true_iff.mp z
      exact .inl ⟨xs, e, of_decide_eq_true z1, fun x hx => List.all_eq_true.mp z2 x hx, rfl⟩
    · rw [if_neg z] at h; cases h
  · by_cases z : ((tyN d).isSome && !isLst d && !isTup d) = true
    · rw [if_pos z] at h
      cases h
      obtain ⟨z1, z2⟩ := Bool.and_eq_true_iff.mp z
      obtain ⟨z3, z4⟩ := Bool.and_eq_true_iff.mp z1
      exact .inr ⟨z3, by simpa using z4, by simpa using z2, rfl⟩
    · rw [if_neg z] at h; cases h
local macro_rules | `(tactic| walk_at "rp") => `(tactic| (refine ⟨?_, by decide +kernel, by decide +kernel⟩; repeat' (first | exact True.intro | decide +kernel | (simp only [smG]; decide +kernel) | (simp only [smKey]; decide +kernel) | refine ⟨?_, ?_⟩)))
def OIn (d : D) : Prop := LtIs (worthD 16) 16 d false ∧ RP 3 40000 d
def OAn (d : D) : Prop := LtIs wholeD 1000 d false ∧ RP 3 40000 d
def sem_l_odd_input : Sem := fun ds cs R => ∃ j, ds = [.cel j] ∧ Pool cs j ∧ DrawD j OIn cs R
theorem len_l_odd_input : ∀ ds cs R, sem_l_odd_input ds cs R → ds.length = 1 := by rintro ds cs R ⟨_, rfl, _⟩; rfl
/-- _law_odd_input: slots 0=_law_pool_here 1=_law_some -/
def den_l_odd_input : DS :=
  (sSeq (sAsg (dLst (dCons (dC .non) (dCons (dBin dRepL (dLst (dCons (dC (.int 0)) dNil)) (dC (.int 17))) (dCons (dLst (dCons (dC (.int 65536)) dNil)) (dCons (dLst (dCons (dNeg (dC (.int 1))) dNil)) (dCons (dLst (dCons (dC (.bl true)) dNil)) (dCons (dC (.str "12")) (dCons dDNew (dCons (dC (.int 5)) (dCons (dLst (dCons (dC .non) dNil)) (dCons (dLst (dCons (dLst (dCons (dC (.int 0)) dNil)) dNil)) (dCons (dLst (dCons (dC (.str "1")) dNil)) (dCons (dTup (dCons (dC (.int 0)) (dCons (dC (.int 65536)) dNil))) (dCons (dLst (dCons (dC (.int 0)) (dCons (dTup (dCons (dC (.int 1)) dNil)) dNil))) dNil)))))))))))))) 1)
    (sRet (dBin dIxF (dVar 1) (dFn 2 sem_l_take (fun ds _ => ds) (dCons (dVar 0) (dCons (dC (.int 13)) dNil))))))
theorem okd_l_odd_input : ∀ ds cs R, sem_l_odd_input ds cs R → den_l_odd_input { nx := fun c => R .non c.cs, rt := R } ⟨env0 2 ds, cs⟩ := by
  rintro ds cs R ⟨j, rfl, hp, q⟩
  unfold den_l_odd_input sSeq sAsg
  refine ⟨ble rfl, ⟨by decide, by decide⟩, ble rfl, ble rfl, ble rfl, ble rfl, ble rfl, ble rfl, ble rfl, ble rfl, ble rfl, ble rfl, ble rfl, ble rfl, ?_⟩
  refine ⟨_, rfl, ?_⟩
  refine take_do (n := 13) rfl (by decide) hp fun i c2 i1 i2 p2 b2 => ?_
  obtain ⟨d, e, hd⟩ := at_all (P := OIn) (xs := [.non, .lst (List.replicate 17 [D.int 0]).flatten, .lst [.int 65536], .lst [.int (-1)], .lst [.bl true], .str "12", .dic [], .int 5, .lst [.non], .lst [.lst [.int 0]], .lst [.str "1"], .tup [.int 0, .int 65536], .lst [.int 0, .tup [.int 1]]]) i1 i2 (fun d hd => by
    simp only [List.mem_cons, List.not_mem_nil, or_false] at hd
    rcases hd with rfl | rfl | rfl | rfl | rfl | rfl | rfl | rfl | rfl | rfl | rfl | rfl | rfl
    all_goals exact ⟨ltB_ok (by decide +kernel), by walk_at "rp"⟩)
  exact ⟨d, e, q _ _ hd p2 (FrB.of b2)⟩
theorem disp_p {ps : List (DE × DE)} {xs : List (D × D)} {kvs : List (L2.Key × D)} {env : List (Option D)} {cs : Cells} {R : D → Z → Prop} (hp : ∀ (c : Cells) Q, Q xs ⟨env, c⟩ → dPairs ps ⟨env, c⟩ Q) (hk : keysD xs = some kvs) (hl : kvs.length ≤ 15) (q : R (.dic (mergeD [] kvs)) ⟨env, cs⟩) : dDisp ps ⟨env, cs⟩ R := fun k h => by
  have h' : cs k = none := h
  refine hp _ _ ⟨put_same, kvs, hk, hl, ?_⟩
  show R _ ⟨env, del (put cs k _) k⟩
  rw [del_put h']
  exact q
theorem dispB_p {ps : List (DE × DE)} {b : Bool} {d : D} {env : List (Option D)} {cs : Cells} {R : D → Z → Prop} (hp : ∀ (c : Cells) Q, Q [(.bl b, d)] ⟨env, c⟩ → dPairs ps ⟨env, c⟩ Q) (q : R (.dicB b d) ⟨env, cs⟩) : dDispB ps ⟨env, cs⟩ R := fun k h => by
  have h' : cs k = none := h
  refine hp _ _ ⟨put_same, b, d, rfl, ?_⟩
  show R _ ⟨env, del (put cs k _) k⟩
  rw [del_put h']
  exact q
def sem_l_odd_answers : Sem := fun ds cs R => ∃ j, ds = [.cel j] ∧ Pool cs j ∧ DrawD j OAn cs R
theorem len_l_odd_answers : ∀ ds cs R, sem_l_odd_answers ds cs R → ds.length = 1 := by rintro ds cs R ⟨_, rfl, _⟩; rfl
def ex_l_odd_answers_1 : DE :=
  (dDisp (((dC (.int 1)), (dC (.int 2))) :: []))
/-- _law_odd_answers: slots 0=_law_pool_here -/
def den_l_odd_answers : DS :=
  (sRet (dBin dIxF (dLst (dCons (dC .non) (dCons (dLst (dCons (dC .non) dNil)) (dCons (dLst (dCons (dC (.bl true)) dNil)) (dCons (dC (.str "1")) (dCons dDNew (dCons (dC (.int 0)) (dCons (dLst (dCons (dC (.int 1)) (dCons (dC (.str "2")) dNil))) (dCons (dLst (dCons (dTup (dCons (dC (.int 1)) dNil)) dNil)) (dCons ex_l_odd_answers_1 (dCons (dLst (dCons (dC (.int 0)) (dCons (dLst (dCons (dC (.int 1)) dNil)) dNil))) dNil))))))))))) (dFn 2 sem_l_take (fun ds _ => ds) (dCons (dVar 0) (dCons (dC (.int 10)) dNil)))))
theorem okd_l_odd_answers : ∀ ds cs R, sem_l_odd_answers ds cs R → den_l_odd_answers { nx := fun c => R .non c.cs, rt := R } ⟨env0 1 ds, cs⟩ := by
  rintro ds cs R ⟨j, rfl, hp, q⟩
  unfold den_l_odd_answers sRet
  refine ⟨ble rfl, ble rfl, ble rfl, ble rfl, ble rfl, ?_⟩
  unfold ex_l_odd_answers_1
  refine disp_p (xs := [(.int 1, .int 2)]) (kvs := [(.inl 1, .int 2)]) (fun c Q h => h) rfl (by decide) ?_
  refine ⟨ble rfl, ble rfl, ble rfl, ?_⟩
  refine take_do (n := 10) rfl (by decide) hp fun i c2 i1 i2 p2 b2 => ?_
  obtain ⟨d, e, hd⟩ := at_all (P := OAn) (xs := [.non, .lst [.non], .lst [.bl true], .str "1", .dic [], .int 0, .lst [.int 1, .str "2"], .lst [.tup [.int 1]], .dic [(.inl 1, .int 2)], .lst [.int 0, .lst [.int 1]]]) i1 i2 (fun d hd => by
    simp only [List.mem_cons, List.not_mem_nil, or_false] at hd
    rcases hd with rfl | rfl | rfl | rfl | rfl | rfl | rfl | rfl | rfl | rfl
    all_goals exact ⟨ltB_ok (by decide +kernel), by walk_at "rp"⟩)
  exact ⟨d, e, q _ _ hd p2 (FrB.of b2)⟩
/-! ### odd shelves -/
def OSh (n : Int) (d : D) : Prop := kindly d ∧ isNon d = false ∧ ShIs n d false ∧ RP 3 40000 d
theorem rp_ws {ws : List D} (h : ∀ e ∈ ws, RP 0 25 e) (hl : ws.length ≤ 100) : RP 1 2703 (.lst ws) := rp_lst h hl (by decide)
theorem wr_wd {v : Int} (h : Wr v) : worthD 16 (.int v) = true := by
  show (decide (0 ≤ v) && decide (v < pw 16)) = true
  rw [decide_eq_true h.1, decide_eq_true (show v < pw 16 from h.2)]; rfl
theorem ws_good {n : Nat} {ws : List Int} (hl : ws.length = n) (hn : n ≤ 100) (hw : ∀ v ∈ ws, Wr v) : WsIs (n : Int) (.lst (ws.map .int)) true := by
  refine .inl ⟨_, rfl, by rw [List.length_map]; omega, fun x hx => ?_, ?_⟩
  · obtain ⟨v, _, rfl⟩ := List.mem_map.mp hx; rfl
  · rw [List.length_map, hl, decide_eq_true rfl, Bool.true_and]
    refine (List.all_eq_true.mpr fun x hx => ?_).symm
    obtain ⟨v, hv, rfl⟩ := List.mem_map.mp hx
    exact wr_wd (hw v hv)
theorem rm_good {n i : Nat} {L : List (Int × List Int)} (h : Rml n i L) (hi : i ≤ 4) (hn : n ≤ 100) : RmIs (n : Int) (.dic (rmK L)) true := by
  refine .inl ⟨L.map fun p => (.inl p.1, .lst (p.2.map .int), true), ?_, by rw [List.length_map]; have := h.l; omega, ?_, fun x hx _ => ?_, ?_⟩
  · unfold rmK; rw [List.map_map]; rfl
  · rw [List.map_map]
    have : ∀ {M : List Int}, M.Nodup → (M.map fun q => (Sum.inl q : L2.Key)).Nodup := fun {M} => by
      induction M with
      | nil => intro _; exact List.nodup_nil
      | cons q M ih =>
        intro hM
        rw [List.nodup_cons] at hM
        rw [List.map_cons, List.nodup_cons]
        refine ⟨fun m => ?_, ih hM.2⟩
        obtain ⟨t, ht, e⟩ := List.mem_map.mp m
        cases e; exact hM.1 ht
    have := this h.u
    rw [List.map_map] at this
    exact this
  · obtain ⟨p, hp, rfl⟩ := List.mem_map.mp hx
    obtain ⟨_, h2, h3⟩ := h.k p hp
    exact ws_good h2 hn h3
  · refine (List.all_eq_true.mpr fun x hx => ?_).symm
    obtain ⟨p, hp, rfl⟩ := List.mem_map.mp hx
    obtain ⟨h1, _, _⟩ := h.k p hp
    have hk : p.1 ∈ ksR := List.mem_of_mem_take h1
    simp only [ksR, List.mem_cons, List.not_mem_nil, or_false] at hk
    show (worthD 16 (.int p.1) && true) = true
    rw [Bool.and_true]
    rcases hk with e | e | e | e <;> rw [e] <;> exact wr_wd ⟨by decide, by decide⟩
theorem rm_rp {n i : Nat} {L : List (Int × List Int)} (h : Rml n i L) (hi : i ≤ 4) (hn : n ≤ 100) : RP 2 12430 (.dic (rmK L)) := by
  refine rp_dic (k := 1) (w := 2703) (wk := 400) (m := 4) (fun e he => ?_) (by unfold rmK; rw [List.length_map]; have := h.l; omega) (by decide)
  unfold rmK at he
  obtain ⟨p, hp, rfl⟩ := List.mem_map.mp he
  obtain ⟨h1, h2, h3⟩ := h.k p hp
  have hk : p.1 ∈ ksR := List.mem_of_mem_take h1
  simp only [ksR, List.mem_cons, List.not_mem_nil, or_false] at hk
  refine ⟨key_i (by rcases hk with e | e | e | e <;> rw [e] <;> decide), rp_ws (fun e he => ?_) (by rw [List.length_map]; omega)⟩
  obtain ⟨v, hv, rfl⟩ := List.mem_map.mp he
  have := h3 v hv
  exact rp_wr ⟨by have := this.1; omega, by have := this.2; omega⟩
def rmD (x y : D) : D := .dic [(.inr "rooms", x), (.inr "bits", y)]
theorem rmD_rp {x y : D} (hx : RP 2 12430 x) (hy : RP 2 12430 y) : RP 3 40000 (rmD x y) :=
  rp_dic (k := 2) (w := 12430) (wk := 400) (m := 2) (fun e he => by
    simp only [List.mem_cons, List.not_mem_nil, or_false] at he
    rcases he with rfl | rfl
    · exact ⟨key_s, hx⟩
    · exact ⟨key_s, hy⟩) (ble rfl) (by decide)
theorem osh_r {n : Int} {x y : D} {b1 b2 : Bool} (h1 : RmIs n x b1) (h2 : RmIs 1 y b2) (hb : (b1 && b2) = false) (hx : RP 2 12430 x) (hy : RP 2 12430 y) : OSh n (rmD x y) :=
  ⟨rfl, rfl, .inr (.inr (.inl ⟨x, y, b1, b2, rfl, h1, h2, hb.symm⟩)), rmD_rp hx hy⟩
/-- a dict of one key -/
theorem rm_one {n : Int} {k : L2.Key} {v : D} {b : Bool} (h : worthD 16 (kD k) = true → WsIs n v b) : RmIs n (.dic [(k, v)]) (worthD 16 (kD k) && b) :=
  .inl ⟨[(k, v, b)], rfl, ble rfl, List.nodup_cons.mpr ⟨List.not_mem_nil, List.nodup_nil⟩, fun x hx hw => by rw [List.mem_singleton.mp hx] at hw ⊢; exact h hw, by simp⟩
theorem flat_rep {x : D} : ∀ n : Nat, (List.replicate n [x]).flatten = List.replicate n x
  | 0 => rfl
  | n + 1 => by rw [List.replicate_succ, List.flatten_cons, flat_rep n]; rfl
theorem rep_rp {n : Nat} {i : Int} (hn : n ≤ 100) (hi : -10 < i ∧ i < 70000) : RP 1 2703 (.lst (List.replicate n (.int i))) :=
  rp_ws (fun e he => by rw [List.eq_of_mem_replicate he]; exact rp_wr hi) (by rw [List.length_replicate]; exact hn)
theorem rept_rp {n : Nat} {i : Int} (hn : n ≤ 100) (hi : -10 < i ∧ i < 70000) : RP 1 2703 (.tup (List.replicate n (.int i))) :=
  rp_tup (k := 0) (w := 25) (m := 100) (fun e he => by rw [List.eq_of_mem_replicate he]; exact rp_wr hi) (by rw [List.length_replicate]; exact hn) (by decide)
theorem one_rp {k : L2.Key} {v : D} (hk : smKey k ∧ wq (kyG k) ≤ 400) (hv : RP 1 2703 v) : RP 2 12430 (.dic [(k, v)]) :=
  rp_dic (k := 1) (w := 2703) (wk := 400) (m := 4) (fun e he => by rw [List.mem_singleton.mp he]; exact ⟨hk, hv⟩) (ble rfl) (by decide)
local macro_rules | `(tactic| walk_at "rp") => `(tactic| (refine ⟨?_, by decide +kernel, by decide +kernel⟩; repeat' (first | exact True.intro | decide +kernel | (simp only [smG]; decide +kernel) | (simp only [smKey]; decide +kernel) | refine ⟨?_, ?_⟩)))
def sem_l_odd_rooms : Sem := fun ds cs R => ∃ (j n : Nat) (rm : D), ds = [.cel j, rm, .int (n : Int)] ∧ (1 ≤ n ∧ n ≤ 8) ∧ GSh n rm ∧ Pool cs j ∧ DrawD j (OSh n) cs R
theorem len_l_odd_rooms : ∀ ds cs R, sem_l_odd_rooms ds cs R → ds.length = 3 := by rintro ds cs R ⟨_, _, _, rfl, _⟩; rfl
def ex_l_odd_rooms_1 : DE :=
  (dDisp (((dC (.str "rooms")), dDNew) :: []))
def ex_l_odd_rooms_2 : DE :=
  (dDisp (((dC (.str "bits")), (dVar 3)) :: []))
def ex_l_odd_rooms_3 : DE :=
  (dDisp (((dC (.str "rooms")), dDNew) :: (((dC (.str "bits")), dDNew) :: (((dC (.str "more")), dDNew) :: []))))
def ex_l_odd_rooms_4 : DE :=
  (dDisp (((dC (.str "rooms")), dDNew) :: (((dC (.str "bit")), dDNew) :: [])))
def ex_l_odd_rooms_5 : DE :=
  (dDisp (((dC (.str "rooms")), (dLst dNil)) :: (((dC (.str "bits")), (dVar 3)) :: [])))
def ex_l_odd_rooms_6 : DE :=
  (dDisp (((dC (.int 65536)), (dBin dRepL (dLst (dCons (dC (.int 0)) dNil)) (dVar 2))) :: []))
def ex_l_odd_rooms_7 : DE :=
  (dDisp (((dC (.str "rooms")), ex_l_odd_rooms_6) :: (((dC (.str "bits")), (dVar 3)) :: [])))
def ex_l_odd_rooms_8 : DE :=
  (dDisp (((dNeg (dC (.int 1))), (dBin dRepL (dLst (dCons (dC (.int 0)) dNil)) (dVar 2))) :: []))
def ex_l_odd_rooms_9 : DE :=
  (dDisp (((dC (.str "rooms")), ex_l_odd_rooms_8) :: (((dC (.str "bits")), (dVar 3)) :: [])))
def ex_l_odd_rooms_10 : DE :=
  (dDispB (((dC (.bl true)), (dBin dRepL (dLst (dCons (dC (.int 0)) dNil)) (dVar 2))) :: []))
def ex_l_odd_rooms_11 : DE :=
  (dDisp (((dC (.str "rooms")), ex_l_odd_rooms_10) :: (((dC (.str "bits")), (dVar 3)) :: [])))
def ex_l_odd_rooms_12 : DE :=
  (dDisp (((dC (.int 0)), (dBin dRepL (dLst (dCons (dC (.int 0)) dNil)) (dBin dAdd (dVar 2) (dC (.int 1))))) :: []))
def ex_l_odd_rooms_13 : DE :=
  (dDisp (((dC (.str "rooms")), ex_l_odd_rooms_12) :: (((dC (.str "bits")), (dVar 3)) :: [])))
def ex_l_odd_rooms_14 : DE :=
  (dDisp (((dC (.int 0)), (dBin dRepL (dLst (dCons (dC (.int 0)) dNil)) (dBin dSub (dVar 2) (dC (.int 1))))) :: []))
def ex_l_odd_rooms_15 : DE :=
  (dDisp (((dC (.str "rooms")), ex_l_odd_rooms_14) :: (((dC (.str "bits")), (dVar 3)) :: [])))
def ex_l_odd_rooms_16 : DE :=
  (dDisp (((dC (.int 0)), (dBin dRepTA (dTup (dCons (dC (.int 0)) dNil)) (dVar 2))) :: []))
def ex_l_odd_rooms_17 : DE :=
  (dDisp (((dC (.str "rooms")), ex_l_odd_rooms_16) :: (((dC (.str "bits")), (dVar 3)) :: [])))
def ex_l_odd_rooms_18 : DE :=
  (dDisp (((dC (.int 0)), (dBin dRepL (dLst (dCons (dC (.int 65536)) dNil)) (dVar 2))) :: []))
def ex_l_odd_rooms_19 : DE :=
  (dDisp (((dC (.str "rooms")), ex_l_odd_rooms_18) :: (((dC (.str "bits")), (dVar 3)) :: [])))
def ex_l_odd_rooms_20 : DE :=
  (dDisp (((dC (.int 0)), (dC .non)) :: []))
def ex_l_odd_rooms_21 : DE :=
  (dDisp (((dC (.str "rooms")), ex_l_odd_rooms_20) :: (((dC (.str "bits")), (dVar 3)) :: [])))
def ex_l_odd_rooms_22 : DE :=
  (dDisp (((dC (.str "0")), (dBin dRepL (dLst (dCons (dC (.int 0)) dNil)) (dVar 2))) :: []))
def ex_l_odd_rooms_23 : DE :=
  (dDisp (((dC (.str "rooms")), ex_l_odd_rooms_22) :: (((dC (.str "bits")), (dVar 3)) :: [])))
def ex_l_odd_rooms_24 : DE :=
  (dDisp (((dC (.int 0)), (dLst (dCons (dC (.bl true)) dNil))) :: []))
def ex_l_odd_rooms_25 : DE :=
  (dDisp (((dC (.str "rooms")), dDNew) :: (((dC (.str "bits")), ex_l_odd_rooms_24) :: [])))
def ex_l_odd_rooms_26 : DE :=
  (dDisp (((dC (.int 0)), (dLst (dCons (dC (.int 0)) dNil))) :: (((dC (.int 1)), (dLst (dCons (dC (.int 0)) (dCons (dC (.int 0)) dNil)))) :: [])))
def ex_l_odd_rooms_27 : DE :=
  (dDisp (((dC (.str "rooms")), dDNew) :: (((dC (.str "bits")), ex_l_odd_rooms_26) :: [])))
def ex_l_odd_rooms_28 : DE :=
  (dDisp (((dC (.str "rooms")), dDNew) :: (((dC (.str "bits")), (dC .non)) :: [])))
/-- _law_odd_rooms: slots 0=_law_pool_here 1=_law_rooms 2=_law_size 3=_law_good 4=_law_some -/
def den_l_odd_rooms : DS :=
  (sSeq (sAsg (dBin dIxF (dVar 1) (dC (.str "bits"))) 3)
    (sSeq (sAsg (dLstC (dCons dDNew (dCons (dLst dNil) (dCons ex_l_odd_rooms_1 (dCons ex_l_odd_rooms_2 (dCons ex_l_odd_rooms_3 (dCons (dC (.int 0)) (dCons (dC (.str "x")) dNil)))))))) 4)
    (sSeq (sDrop (dApp (dVar 4) ex_l_odd_rooms_4))
    (sSeq (sAsg (dBin dAddCel (dVar 4) (dLst (dCons ex_l_odd_rooms_5 (dCons ex_l_odd_rooms_7 dNil)))) 4)
    (sSeq (sAsg (dBin dAddCel (dVar 4) (dLst (dCons ex_l_odd_rooms_9 (dCons ex_l_odd_rooms_11 dNil)))) 4)
    (sSeq (sAsg (dBin dAddCel (dVar 4) (dLst (dCons ex_l_odd_rooms_13 (dCons ex_l_odd_rooms_15 dNil)))) 4)
    (sSeq (sAsg (dBin dAddCel (dVar 4) (dLst (dCons ex_l_odd_rooms_17 (dCons ex_l_odd_rooms_19 dNil)))) 4)
    (sSeq (sAsg (dBin dAddCel (dVar 4) (dLst (dCons ex_l_odd_rooms_21 (dCons ex_l_odd_rooms_23 dNil)))) 4)
    (sSeq (sAsg (dBin dAddCel (dVar 4) (dLst (dCons ex_l_odd_rooms_25 (dCons ex_l_odd_rooms_27 dNil)))) 4)
    (sSeq (sDrop (dApp (dVar 4) ex_l_odd_rooms_28))
    (sRet (dBin dIxF (dVar 4) (dFn 2 sem_l_take (fun ds _ => ds) (dCons (dVar 0) (dCons (dC (.int 21)) dNil)))))))))))))))
def ooR (n : Nat) (good : D) : List D :=
  [.dic [], .lst [], .dic [(.inr "rooms", .dic [])], .dic [(.inr "bits", good)], .dic [(.inr "rooms", .dic []), (.inr "bits", .dic []), (.inr "more", .dic [])], .int 0, .str "x", .dic [(.inr "rooms", .dic []), (.inr "bit", .dic [])],
   rmD (.lst []) good, rmD (.dic [(.inl 65536, .lst (List.replicate n (.int 0)))]) good, rmD (.dic [(.inl (-1), .lst (List.replicate n (.int 0)))]) good, rmD (.dicB true (.lst (List.replicate n (.int 0)))) good,
   rmD (.dic [(.inl 0, .lst (List.replicate (n + 1) (.int 0)))]) good, rmD (.dic [(.inl 0, .lst (List.replicate (n - 1) (.int 0)))]) good, rmD (.dic [(.inl 0, .tup (List.replicate n (.int 0)))]) good, rmD (.dic [(.inl 0, .lst (List.replicate n (.int 65536)))]) good,
   rmD (.dic [(.inl 0, .non)]) good, rmD (.dic [(.inr "0", .lst (List.replicate n (.int 0)))]) good, rmD (.dic []) (.dic [(.inl 0, .lst [.bl true])]), rmD (.dic []) (.dic [(.inl 0, .lst [.int 0]), (.inl 1, .lst [.int 0, .int 0])]), rmD (.dic []) .non]
theorem rm_nil {n : Int} : RmIs n (.dic []) true := .inl ⟨[], rfl, ble rfl, List.nodup_nil, (fun x hx => by cases hx), rfl⟩
theorem nil_rp : RP 2 12430 (.dic []) := rp_dic (k := 1) (w := 2703) (wk := 400) (m := 4) (fun e he => by cases he) (ble rfl) (by decide)
theorem ws_rep {n : Nat} {m : Int} {i : Int} (hn : n ≤ 100) (h : (n : Int) ≠ m) : WsIs m (.lst (List.replicate n (.int i))) false :=
  .inl ⟨_, rfl, by rw [List.length_replicate]; exact hn, fun x hx => by rw [List.eq_of_mem_replicate hx]; rfl, by rw [List.length_replicate, decide_eq_false h]; rfl⟩
theorem ws_bad {n : Nat} (h1 : 1 ≤ n) (hn : n ≤ 100) : WsIs (n : Int) (.lst (List.replicate n (.int 65536))) false := by
  refine .inl ⟨_, rfl, by rw [List.length_replicate]; exact hn, fun x hx => by rw [List.eq_of_mem_replicate hx]; rfl, ?_⟩
  obtain ⟨m, rfl⟩ : ∃ m, n = m + 1 := ⟨n - 1, by omega⟩
  have : (List.replicate (m + 1) (D.int 65536)).all (worthD 16) = false := by rw [List.replicate_succ]; rfl
  rw [this, Bool.and_false]
theorem ooR_ok {n : Nat} {good : D} (h1 : 1 ≤ n) (hn : n ≤ 8) (hg : RmIs 1 good true) (gr : RP 2 12430 good) : ∀ d ∈ ooR n good, OSh n d := by
  have r1 : RP 2 12430 (.lst []) := by walk_at "rp"
  have r0 : RP 2 12430 .non := by walk_at "rp"
  have hn' : n ≤ 100 := by omega
  intro d hd
  unfold ooR at hd
  simp only [List.mem_cons, List.not_mem_nil, or_false] at hd
  rcases hd with rfl | rfl | rfl | rfl | rfl | rfl | rfl | rfl | rfl | rfl | rfl | rfl | rfl | rfl | rfl | rfl | rfl | rfl | rfl | rfl | rfl
  · exact ⟨rfl, rfl, .inl ⟨[], rfl, by decide, rfl⟩, by walk_at "rp"⟩
  · exact ⟨rfl, rfl, .inr (.inl ⟨rfl, rfl, rfl⟩), by walk_at "rp"⟩
  · exact ⟨rfl, rfl, .inl ⟨_, rfl, by decide, rfl⟩, by walk_at "rp"⟩
  · refine ⟨rfl, rfl, .inl ⟨_, rfl, by show ¬ (1 = 2); decide, rfl⟩, ?_⟩
    exact rp_dic (k := 2) (w := 12430) (wk := 400) (m := 2) (fun e he => by rw [List.mem_singleton.mp he]; exact ⟨key_s, gr⟩) (ble rfl) (by decide)
  · exact ⟨rfl, rfl, .inl ⟨_, rfl, by decide, rfl⟩, by walk_at "rp"⟩
  · exact ⟨rfl, rfl, .inr (.inl ⟨rfl, rfl, rfl⟩), by walk_at "rp"⟩
  · exact ⟨rfl, rfl, .inr (.inl ⟨rfl, rfl, rfl⟩), by walk_at "rp"⟩
  · exact ⟨rfl, rfl, .inr (.inr (.inr ⟨_, _, true, rfl, rm_nil, rfl⟩)), by walk_at "rp"⟩
  · exact osh_r (b1 := false) (.inr (.inr ⟨rfl, rfl, rfl⟩)) hg rfl r1 gr
  · exact osh_r (b1 := worthD 16 (kD (.inl 65536)) && false) (rm_one fun z => by cases z) hg (by rw [Bool.and_false]; rfl) (one_rp (key_i (by decide)) (rep_rp hn' (by decide))) gr
  · exact osh_r (b1 := worthD 16 (kD (.inl (-1))) && false) (rm_one fun z => by cases z) hg (by rw [Bool.and_false]; rfl) (one_rp (key_i (by decide)) (rep_rp hn' (by decide))) gr
  · exact osh_r (b1 := false) (.inr (.inl ⟨_, _, rfl, rfl⟩)) hg rfl ((rp_dicB (rep_rp hn' (by decide))).mono (by decide) (by decide)) gr
  · exact osh_r (b1 := worthD 16 (kD (.inl 0)) && false) (rm_one fun _ => ws_rep (by omega) (by omega)) hg (by rw [Bool.and_false]; rfl) (one_rp (key_i (by decide)) (rep_rp (by omega) (by decide))) gr
  · exact osh_r (b1 := worthD 16 (kD (.inl 0)) && false) (rm_one fun _ => ws_rep (by omega) (by omega)) hg (by rw [Bool.and_false]; rfl) (one_rp (key_i (by decide)) (rep_rp (by omega) (by decide))) gr
  · exact osh_r (b1 := worthD 16 (kD (.inl 0)) && false) (rm_one fun _ => .inr ⟨rfl, rfl, rfl⟩) hg (by rw [Bool.and_false]; rfl) (one_rp (key_i (by decide)) (rept_rp hn' (by decide))) gr
  · exact osh_r (b1 := worthD 16 (kD (.inl 0)) && false) (rm_one fun _ => ws_bad h1 hn') hg (by rw [Bool.and_false]; rfl) (one_rp (key_i (by decide)) (rep_rp hn' (by decide))) gr
  · exact osh_r (b1 := worthD 16 (kD (.inl 0)) && false) (rm_one fun _ => .inr ⟨rfl, rfl, rfl⟩) hg (by rw [Bool.and_false]; rfl) (one_rp (key_i (by decide)) (rp_non.mono (by decide) (by decide))) gr
  · exact osh_r (b1 := worthD 16 (kD (.inr "0")) && false) (rm_one fun z => by cases z) hg (by rw [Bool.and_false]; rfl) (one_rp key_s (rep_rp hn' (by decide))) gr
  · refine osh_r (b2 := worthD 16 (kD (.inl 0)) && false) rm_nil (rm_one fun _ => .inl ⟨_, rfl, ble rfl, fun x hx => by rw [List.mem_singleton.mp hx]; rfl, rfl⟩) (by rw [Bool.and_false]; rfl) nil_rp (one_rp (key_i (by decide)) (by walk_at "rp"))
  · refine osh_r (b1 := true) (b2 := false) rm_nil (.inl ⟨[(.inl 0, .lst [.int 0], true), (.inl 1, .lst [.int 0, .int 0], false)], rfl, ble rfl, by decide +kernel, fun x hx _ => ?_, rfl⟩) rfl nil_rp (by walk_at "rp")
    simp only [List.mem_cons, List.not_mem_nil, or_false] at hx
    rcases hx with rfl | rfl
    · exact .inl ⟨_, rfl, ble rfl, fun x hx => by rw [List.mem_singleton.mp hx]; rfl, by decide +kernel⟩
    · exact .inl ⟨_, rfl, ble rfl, fun x hx => by simp only [List.mem_cons, List.not_mem_nil, or_false] at hx; rcases hx with rfl | rfl <;> rfl, by decide +kernel⟩
  · exact osh_r (b1 := true) (b2 := false) rm_nil (.inr (.inr ⟨rfl, rfl, rfl⟩)) rfl nil_rp r0
/-! the list is made -/
structure OoS (c0 cs : Cells) (k : Nat) (xs : List D) : Prop where
  fr : Frd c0 cs
  nk : c0 k = none
  at_ : cs k = some (.lst xs)
def Pu (env : List (Option D)) (e : DE) (d : D) : Prop := ∀ (c : Cells) (Q : D → Z → Prop), Q d ⟨env, c⟩ → e ⟨env, c⟩ Q
theorem oo_add {c0 cs : Cells} {k : Nat} {xs : List D} {a b c g : Option D} {e1 e2 : DE} {d1 d2 : D} {DD : DEnds} (h : OoS c0 cs k xs) (hl : xs.length ≤ 100) (p1 : Pu [a, b, c, g, some (.cel k)] e1 d1) (p2 : Pu [a, b, c, g, some (.cel k)] e2 d2)
    (q : ∀ m cs', OoS c0 cs' m (xs ++ [d1, d2]) → DD.nx ⟨[a, b, c, g, some (.cel m)], cs'⟩) : sAsg (dBin dAddCel (dVar 4) (dLst (dCons e1 (dCons e2 dNil)))) 4 DD ⟨[a, b, c, g, some (.cel k)], cs⟩ := by
  refine ⟨_, rfl, p1 _ _ (p2 _ _ ⟨ble rfl, _, _, h.at_, rfl, by rw [sizeLine_eq]; simp only [List.length_cons, List.length_nil]; omega, fun m hm => ?_⟩)⟩
  have hm' : cs m = none := hm
  refine q m _ ⟨h.fr.new hm', ?_, put_same⟩
  cases e : c0 m with
  | none => rfl
  | some o => rw [h.fr _ _ e] at hm'; cases hm'
theorem oo_app {c0 cs : Cells} {k : Nat} {xs : List D} {a b c g : Option D} {e1 : DE} {d1 : D} {DD : DEnds} (h : OoS c0 cs k xs) (hl : xs.length ≤ 100) (p1 : Pu [a, b, c, g, some (.cel k)] e1 d1)
    (q : ∀ cs', OoS c0 cs' k (xs ++ [d1]) → DD.nx ⟨[a, b, c, g, some (.cel k)], cs'⟩) : sDrop (dApp (dVar 4) e1) DD ⟨[a, b, c, g, some (.cel k)], cs⟩ := by
  refine ⟨_, rfl, ⟨_, h.at_⟩, p1 _ _ ⟨_, h.at_, by rw [sizeLine_eq]; omega, q _ ⟨fun j o e => ?_, h.nk, put_same⟩⟩⟩
  show put cs k _ j = _
  rw [put_ne fun z => by rw [z, h.nk] at e; cases e]
  exact h.fr j o e
theorem pu_1 {env : List (Option D)} {e : DE} {k d : D} {kk : L2.Key} (hk : keyD k = some kk) (p : Pu env e d) : Pu env (dDisp [(dC k, e)]) (.dic [(kk, d)]) := fun c Q h =>
  disp_p (xs := [(k, d)]) (kvs := [(kk, d)]) (fun c Q h => p _ _ h) (by show (match keyD k, some [] with | some k', some r' => some ((k', d) :: r') | _, _ => none) = _; rw [hk]) (ble rfl) h
theorem pu_R {env : List (Option D)} {e1 e2 : DE} {x y : D} (p1 : Pu env e1 x) (p2 : Pu env e2 y) : Pu env (dDisp [(dC (.str "rooms"), e1), (dC (.str "bits"), e2)]) (rmD x y) := fun c Q h =>
  disp_p (xs := [(.str "rooms", x), (.str "bits", y)]) (kvs := [(.inr "rooms", x), (.inr "bits", y)]) (fun c Q h => p1 _ _ (p2 _ _ h)) rfl (ble rfl) h
theorem pu_rep {env : List (Option D)} {e : DE} {m : Nat} {x : D} (hm : m ≤ 100) (p : Pu env e (.int (m : Int))) : Pu env (dBin dRepL (dLst (dCons (dC x) dNil)) e) (.lst (List.replicate m x)) := fun c Q h => by
  refine ⟨ble rfl, p _ _ ⟨⟨by omega, by omega⟩, ?_, ?_⟩⟩
  · rw [sizeLine_eq]; simp only [List.length_cons, List.length_nil, Int.toNat_natCast]; omega
  · rw [Int.toNat_natCast, flat_rep]; exact h
theorem pu_repT {env : List (Option D)} {e : DE} {m : Nat} {x : D} (h1 : 1 ≤ m) (hm : m ≤ 100) (p : Pu env e (.int (m : Int))) : Pu env (dBin dRepTA (dTup (dCons (dC x) dNil)) e) (.tup (List.replicate m x)) := fun c Q h => by
  refine ⟨ble rfl, p _ _ ⟨by simp, by omega, by omega, ble rfl, ?_⟩⟩
  rw [Int.toNat_natCast, flat_rep]; exact h
theorem pu_2 {env : List (Option D)} {e1 e2 : DE} {k1 k2 x y : D} {kvs : List (L2.Key × D)} (p1 : Pu env e1 x) (p2 : Pu env e2 y) (hk : keysD [(k1, x), (k2, y)] = some kvs) (hl : kvs.length ≤ 15) : Pu env (dDisp [(dC k1, e1), (dC k2, e2)]) (.dic (mergeD [] kvs)) := fun c Q h =>
  disp_p (xs := [(k1, x), (k2, y)]) (kvs := kvs) (fun c Q h => p1 _ _ (p2 _ _ h)) hk hl h
theorem okd_l_odd_rooms : ∀ ds cs R, sem_l_odd_rooms ds cs R → den_l_odd_rooms { nx := fun c => R .non c.cs, rt := R } ⟨env0 5 ds, cs⟩ := by
  rintro ds cs R ⟨j, n, rm, rfl, ⟨h1, h8⟩, ⟨L1, L2, g1, g2, rfl⟩, hp, q⟩
  have hg := rm_good g2 (Nat.le_refl _) (by decide)
  have gr := rm_rp g2 (Nat.le_refl _) (by decide)
  generalize (D.dic (rmK L2)) = good at hg gr ⊢
  have hn : n ≤ 100 := by omega
  unfold den_l_odd_rooms sSeq
  refine ⟨_, rfl, _, rfl, ?_⟩
  dsimp only
  have v3 : ∀ {k : Nat}, Pu [some (.cel j), some (rmD (.dic (rmK L1)) good), some (.int (n : Int)), some good, some (.cel k)] (dVar 3) good := fun c Q h => ⟨_, rfl, h⟩
  have v2 : ∀ {k : Nat}, Pu [some (.cel j), some (rmD (.dic (rmK L1)) good), some (.int (n : Int)), some good, some (.cel k)] (dVar 2) (.int (n : Int)) := fun c Q h => ⟨_, rfl, h⟩
  have v2a : ∀ {k : Nat}, Pu [some (.cel j), some (rmD (.dic (rmK L1)) good), some (.int (n : Int)), some good, some (.cel k)] (dBin dAdd (dVar 2) (dC (.int 1))) (.int ((n + 1 : Nat) : Int)) := fun c Q h => ⟨_, rfl, h⟩
  have v2s : ∀ {k : Nat}, Pu [some (.cel j), some (rmD (.dic (rmK L1)) good), some (.int (n : Int)), some good, some (.cel k)] (dBin dSub (dVar 2) (dC (.int 1))) (.int ((n - 1 : Nat) : Int)) := fun c Q h => ⟨_, rfl, True.intro, by
    have e : ((n - 1 : Nat) : Int) = (n : Int) - 1 := by omega
    show Q (.int ((n : Int) - 1)) _
    rw [← e]; exact h⟩
  have dn : ∀ {env : List (Option D)}, Pu env dDNew (.dic []) := fun c Q h => h
  have dl : ∀ {env : List (Option D)}, Pu env (dLst dNil) (.lst []) := fun c Q h => ⟨ble rfl, h⟩
  have w3 : Pu [some (.cel j), some (rmD (.dic (rmK L1)) good), some (.int (n : Int)), some good, none] (dVar 3) good := fun c Q h => ⟨_, rfl, h⟩
  have q1 : ∀ {env : List (Option D)}, Pu env ex_l_odd_rooms_1 (.dic [(.inr "rooms", .dic [])]) := pu_1 rfl dn
  have q2 : Pu [some (.cel j), some (rmD (.dic (rmK L1)) good), some (.int (n : Int)), some good, none] ex_l_odd_rooms_2 (.dic [(.inr "bits", good)]) := pu_1 rfl w3
  have q3 : ∀ {env : List (Option D)}, Pu env ex_l_odd_rooms_3 (.dic [(.inr "rooms", .dic []), (.inr "bits", .dic []), (.inr "more", .dic [])]) := fun c Q h =>
    disp_p (xs := [(.str "rooms", .dic []), (.str "bits", .dic []), (.str "more", .dic [])]) (kvs := [(.inr "rooms", .dic []), (.inr "bits", .dic []), (.inr "more", .dic [])]) (fun c Q h => h) rfl (ble rfl) h
  have q4 : ∀ {env : List (Option D)}, Pu env ex_l_odd_rooms_4 (.dic [(.inr "rooms", .dic []), (.inr "bit", .dic [])]) := fun c Q h =>
    disp_p (xs := [(.str "rooms", .dic []), (.str "bit", .dic [])]) (kvs := [(.inr "rooms", .dic []), (.inr "bit", .dic [])]) (fun c Q h => h) rfl (ble rfl) h
  refine ⟨ble rfl, q1 _ _ (q2 _ _ (q3 _ _ ⟨ble rfl, fun k hk => ?_⟩))⟩
  have hk' : cs k = none := hk
  have jk : j ≠ k := hp.ne hk'
  have s0 : OoS cs (put cs k (.lst [.dic [], .lst [], .dic [(.inr "rooms", .dic [])], .dic [(.inr "bits", good)], .dic [(.inr "rooms", .dic []), (.inr "bits", .dic []), (.inr "more", .dic [])], .int 0, .str "x"])) k _ := ⟨Frd.refl.new hk', hk', put_same⟩
  have one : ∀ {env : List (Option D)} {e : DE} {x : D} {i : Int}, Pu env e x → Pu env (dDisp [(dC (.int i), e)]) (.dic [(.inl i, x)]) := fun h => pu_1 rfl h
  have onen : ∀ {env : List (Option D)} {e : DE} {x : D}, Pu env e x → Pu env (dDisp [(dNeg (dC (.int 1)), e)]) (.dic [(.inl (-1), x)]) := fun h => pu_1 (k := .int (-1)) rfl h
  have oneB : ∀ {env : List (Option D)} {e : DE} {x : D}, Pu env e x → Pu env (dDispB [(dC (.bl true), e)]) (.dicB true x) := fun h c Q h' => dispB_p (fun c Q h2 => h _ _ h2) h'
  have non : ∀ {env : List (Option D)}, Pu env (dC .non) .non := fun c Q h => h
  have lt : ∀ {env : List (Option D)}, Pu env (dLst (dCons (dC (.bl true)) dNil)) (.lst [.bl true]) := fun c Q h => ⟨ble rfl, h⟩
  have l0 : ∀ {env : List (Option D)}, Pu env (dLst (dCons (dC (.int 0)) dNil)) (.lst [.int 0]) := fun c Q h => ⟨ble rfl, h⟩
  have l00 : ∀ {env : List (Option D)}, Pu env (dLst (dCons (dC (.int 0)) (dCons (dC (.int 0)) dNil))) (.lst [.int 0, .int 0]) := fun c Q h => ⟨ble rfl, h⟩
  have two : ∀ {env : List (Option D)}, Pu env ex_l_odd_rooms_26 (.dic [(.inl 0, .lst [.int 0]), (.inl 1, .lst [.int 0, .int 0])]) := pu_2 (kvs := [(.inl 0, .lst [.int 0]), (.inl 1, .lst [.int 0, .int 0])]) l0 l00 rfl (ble rfl)
  have p5 : ∀ {k : Nat}, Pu [some (.cel j), some (rmD (.dic (rmK L1)) good), some (.int (n : Int)), some good, some (.cel k)] ex_l_odd_rooms_5 (rmD (.lst []) good) := by
    intro k
    unfold ex_l_odd_rooms_5
    exact pu_R dl v3
  have p7 : ∀ {k : Nat}, Pu [some (.cel j), some (rmD (.dic (rmK L1)) good), some (.int (n : Int)), some good, some (.cel k)] ex_l_odd_rooms_7 (rmD (.dic [(.inl 65536, .lst (List.replicate n (.int 0)))]) good) := by
    intro k
    unfold ex_l_odd_rooms_7 ex_l_odd_rooms_6
    exact pu_R (one (pu_rep hn v2)) v3
  have p9 : ∀ {k : Nat}, Pu [some (.cel j), some (rmD (.dic (rmK L1)) good), some (.int (n : Int)), some good, some (.cel k)] ex_l_odd_rooms_9 (rmD (.dic [(.inl (-1), .lst (List.replicate n (.int 0)))]) good) := by
    intro k
    unfold ex_l_odd_rooms_9 ex_l_odd_rooms_8
    exact pu_R (onen (pu_rep hn v2)) v3
  have p11 : ∀ {k : Nat}, Pu [some (.cel j), some (rmD (.dic (rmK L1)) good), some (.int (n : Int)), some good, some (.cel k)] ex_l_odd_rooms_11 (rmD (.dicB true (.lst (List.replicate n (.int 0)))) good) := by
    intro k
    unfold ex_l_odd_rooms_11 ex_l_odd_rooms_10
    exact pu_R (oneB (pu_rep hn v2)) v3
  have p13 : ∀ {k : Nat}, Pu [some (.cel j), some (rmD (.dic (rmK L1)) good), some (.int (n : Int)), some good, some (.cel k)] ex_l_odd_rooms_13 (rmD (.dic [(.inl 0, .lst (List.replicate (n + 1) (.int 0)))]) good) := by
    intro k
    unfold ex_l_odd_rooms_13 ex_l_odd_rooms_12
    exact pu_R (one (pu_rep (by omega) v2a)) v3
  have p15 : ∀ {k : Nat}, Pu [some (.cel j), some (rmD (.dic (rmK L1)) good), some (.int (n : Int)), some good, some (.cel k)] ex_l_odd_rooms_15 (rmD (.dic [(.inl 0, .lst (List.replicate (n - 1) (.int 0)))]) good) := by
    intro k
    unfold ex_l_odd_rooms_15 ex_l_odd_rooms_14
    exact pu_R (one (pu_rep (by omega) v2s)) v3
  have p17 : ∀ {k : Nat}, Pu [some (.cel j), some (rmD (.dic (rmK L1)) good), some (.int (n : Int)), some good, some (.cel k)] ex_l_odd_rooms_17 (rmD (.dic [(.inl 0, .tup (List.replicate n (.int 0)))]) good) := by
    intro k
    unfold ex_l_odd_rooms_17 ex_l_odd_rooms_16
    exact pu_R (one (pu_repT h1 hn v2)) v3
  have p19 : ∀ {k : Nat}, Pu [some (.cel j), some (rmD (.dic (rmK L1)) good), some (.int (n : Int)), some good, some (.cel k)] ex_l_odd_rooms_19 (rmD (.dic [(.inl 0, .lst (List.replicate n (.int 65536)))]) good) := by
    intro k
    unfold ex_l_odd_rooms_19 ex_l_odd_rooms_18
    exact pu_R (one (pu_rep hn v2)) v3
  have p21 : ∀ {k : Nat}, Pu [some (.cel j), some (rmD (.dic (rmK L1)) good), some (.int (n : Int)), some good, some (.cel k)] ex_l_odd_rooms_21 (rmD (.dic [(.inl 0, .non)]) good) := by
    intro k
    unfold ex_l_odd_rooms_21 ex_l_odd_rooms_20
    exact pu_R (one non) v3
  have p23 : ∀ {k : Nat}, Pu [some (.cel j), some (rmD (.dic (rmK L1)) good), some (.int (n : Int)), some good, some (.cel k)] ex_l_odd_rooms_23 (rmD (.dic [(.inr "0", .lst (List.replicate n (.int 0)))]) good) := by
    intro k
    unfold ex_l_odd_rooms_23 ex_l_odd_rooms_22
    exact pu_R (pu_1 rfl (pu_rep hn v2)) v3
  have p25 : ∀ {k : Nat}, Pu [some (.cel j), some (rmD (.dic (rmK L1)) good), some (.int (n : Int)), some good, some (.cel k)] ex_l_odd_rooms_25 (rmD (.dic []) (.dic [(.inl 0, .lst [.bl true])])) := by
    intro k
    unfold ex_l_odd_rooms_25 ex_l_odd_rooms_24
    exact pu_R dn (one lt)
  have p27 : ∀ {k : Nat}, Pu [some (.cel j), some (rmD (.dic (rmK L1)) good), some (.int (n : Int)), some good, some (.cel k)] ex_l_odd_rooms_27 (rmD (.dic []) (.dic [(.inl 0, .lst [.int 0]), (.inl 1, .lst [.int 0, .int 0])])) := by
    intro k
    unfold ex_l_odd_rooms_27
    exact pu_R dn two
  have p28 : ∀ {k : Nat}, Pu [some (.cel j), some (rmD (.dic (rmK L1)) good), some (.int (n : Int)), some good, some (.cel k)] ex_l_odd_rooms_28 (rmD (.dic []) .non) := by
    intro k
    unfold ex_l_odd_rooms_28
    exact pu_R dn non
  dsimp only
  refine oo_app s0 (ble rfl) q4 fun c1 s1 => ?_
  dsimp only
  refine oo_add s1 (ble rfl) p5 p7 fun k1 c2 s2 => ?_
  dsimp only
  refine oo_add s2 (ble rfl) p9 p11 fun k2 c3 s3 => ?_
  dsimp only
  refine oo_add s3 (ble rfl) p13 p15 fun k3 c4 s4 => ?_
  dsimp only
  refine oo_add s4 (ble rfl) p17 p19 fun k4 c5 s5 => ?_
  dsimp only
  refine oo_add s5 (ble rfl) p21 p23 fun k5 c6 s6 => ?_
  dsimp only
  refine oo_add s6 (ble rfl) p25 p27 fun k6 c7 s7 => ?_
  dsimp only
  refine oo_app s7 (ble rfl) p28 fun c8 s8 => ?_
  dsimp only
  have s9 := s8.at_
  simp only [List.cons_append, List.nil_append] at s9
  refine ⟨_, rfl, ?_⟩
  refine take_do (n := 21) rfl (by decide) (hp.frd s8.fr) fun i c9 i1 i2 p9 b9 => ?_
  have j6 : j ≠ k6 := hp.ne s8.nk
  have hall := ooR_ok h1 h8 hg gr
  unfold ooR at hall
  obtain ⟨d, e, hd⟩ := at_all (P := OSh n) i1 (by exact i2) hall
  exact ⟨_, d, (b9 k6 j6.symm).trans s9, e, q _ _ hd p9 ((FrB.ofF s8.fr).trans (FrB.of b9))⟩
/-! ### the three things of a turn -/
def SlIn (d : D) (b : Bool) : Prop := LtIs (worthD 16) 16 d b ∧ RP 3 40000 d
def SlSh (n : Int) (d : D) (b : Bool) : Prop := (kindly d ∧ isNon d = false ∧ ShIs n d b) ∧ RP 3 40000 d
def SlAn (d : D) (b : Bool) : Prop := LtIs wholeD 1000 d b ∧ RP 3 40000 d
theorem sl_in {d : D} (h : IsIn d) : SlIn d true := by
  obtain ⟨ws, rfl, hl, hw⟩ := h
  refine ⟨.inl ⟨_, rfl, by rw [List.length_map]; omega, fun x hx => ?_, ?_⟩, ?_⟩
  · obtain ⟨v, _, rfl⟩ := List.mem_map.mp hx; rfl
  · rw [List.length_map, decide_eq_true hl, Bool.true_and]
    refine (List.all_eq_true.mpr fun x hx => ?_).symm
    obtain ⟨v, hv, rfl⟩ := List.mem_map.mp hx
    exact wr_wd (hw v hv)
  · refine (rp_ws (fun e he => ?_) (by rw [List.length_map]; omega)).mono (by decide) (by decide)
    obtain ⟨v, hv, rfl⟩ := List.mem_map.mp he
    have := hw v hv
    exact rp_wr ⟨by have := this.1; omega, by have := this.2; omega⟩
theorem sl_sh {n : Nat} {d : D} (hn : n ≤ 100) (h : GSh n d) : SlSh n d true := by
  obtain ⟨L1, L2, h1, h2, rfl⟩ := h
  exact ⟨⟨rfl, rfl, .inr (.inr (.inl ⟨_, _, true, true, rfl, rm_good h1 (Nat.le_refl _) hn, rm_good h2 (Nat.le_refl _) (by decide), rfl⟩))⟩, rmD_rp (rm_rp h1 (Nat.le_refl _) hn) (rm_rp h2 (Nat.le_refl _) (by decide))⟩
theorem sl_an {v : Int} (h : 0 ≤ v ∧ v < 9) : SlAn (.lst [.int v]) true :=
  ⟨.inl ⟨_, rfl, ble rfl, fun x hx => by rw [List.mem_singleton.mp hx]; rfl, rfl⟩, (rp_ws (fun e he => by rw [List.mem_singleton.mp he]; exact rp_wr ⟨by omega, by omega⟩) (ble rfl)).mono (by decide) (by decide)⟩
theorem sl_oin {d : D} (h : OIn d) : SlIn d false := h
theorem sl_oan {d : D} (h : OAn d) : SlAn d false := h
theorem sl_osh {n : Int} {d : D} (h : OSh n d) : SlSh n d false := ⟨⟨h.1, h.2.1, h.2.2.1⟩, h.2.2.2⟩
theorem lt_true {p : D → Bool} {m : Nat} {d : D} {b : Bool} (h : LtIs p m d b) : ∃ gs, b = true → ltD d = some gs := by
  rcases h with ⟨xs, e, _⟩ | ⟨_, _, _, e⟩
  · exact ⟨xs, fun _ => e⟩
  · exact ⟨[], fun z => by rw [e] at z; cases z⟩
theorem shp_of {n : Int} {d : D} {b : Bool} (h : SlSh n d b) : ShP n d b d := .inr ⟨h.1.1, (fun z => by have := h.1.2.1; rw [z] at this; cases this), h.1.2.2, rfl⟩
/-- _law_told asked -/
theorem told_do {i n : Int} {cl : List D} {a b c : D} {b1 b2 b3 : Bool} {cs : Cells} {R : D → Cells → Prop} (h1 : SlIn a b1) (h2 : SlSh n b b2) (h3 : SlAn c b3) (q : ∀ cs', Frd cs cs' → R (.str (dueS b1 b2 b3)) cs') : sem_l_told [.int i, conD n cl, a, b, c] cs R := by
  obtain ⟨gs, g1⟩ := lt_true h1.1
  obtain ⟨as, g3⟩ := lt_true h3.1
  exact ⟨i, n, cl, a, b, c, b1, b2, b3, b, gs, as, rfl, h1.1, shp_of h2, h3.1, g1, g3, q⟩
/-! ### the law, walked -/
def sem_p_law : Sem := fun ds cs R => ∃ ns : List Int, ds = [.slst (ns.map .int)] ∧ ns.length ≤ 63 ∧ ∀ cs', R (.bl true) cs'
theorem len_p_law : ∀ ds cs R, sem_p_law ds cs R → ds.length = 1 := by rintro ds cs R ⟨n, rfl, _⟩; rfl
theorem end_law : ∀ (ns : List Int) (R : D → Cells → Prop), ns.length ≤ 63 → (∀ cs, R (.bl true) cs) → sem_p_law [.slst (ns.map D.int)] (fun _ => none) R := fun ns R h q => ⟨ns, rfl, h, q⟩
def if_p_law_1 : DS :=
  (sIf (dTB (dBin dEq (dFn 2 sem_l_take (fun ds _ => ds) (dCons (dVar 2) (dCons (dC (.int 3)) dNil))) (dC (.int 0)))) (sSeq (sAsg (dLst (dCons (dFn 1 sem_l_odd_input (fun ds _ => ds) (dCons (dVar 2) dNil)) (dCons (dFn 3 sem_l_odd_rooms (fun ds _ => ds) (dCons (dVar 2) (dCons (dVar 5) (dCons (dVar 3) dNil)))) (dCons (dFn 1 sem_l_odd_answers (fun ds _ => ds) (dCons (dVar 2) dNil)) dNil)))) 11)
    (sSeq (sAsgG (dBin dIxF (dVar 11) (dVar 10)) (gIx (dVar 8) (dVar 10)))
    (sAsg (dBin dIxF (dLst (dCons (dC (.str "input")) (dCons (dC (.str "shelves")) (dCons (dC (.str "answers")) dNil)))) (dVar 10)) 9))) sNext)
def bd_p_law_1 : DS :=
  if_p_law_1
def te_p_law_1 : DT :=
  (dOrT (dTB (dBin dNe (dFn 5 sem_l_told (fun ds _ => ds) (dCons (dVar 13) (dCons (dVar 4) (dCons (dBin dIxF (dVar 8) (dC (.int 0))) (dCons (dBin dIxF (dVar 8) (dC (.int 1))) (dCons (dBin dIxF (dVar 8) (dC (.int 2))) dNil)))))) (dVar 9))) (dTB (dBin dNe (dCall fReprCG (dCons (dVar 8) dNil)) (dVar 12))))
def bd_p_law_2 : DS :=
  (sSeq (sIf te_p_law_1 (sRet (dC (.bl false))) sNext)
    (sIf (dTB (dBin dNe (dFn 5 sem_l_told (fun ds _ => ds) (dCons (dVar 13) (dCons (dVar 4) (dCons (dBin dIxF (dVar 6) (dC (.int 0))) (dCons (dBin dIxF (dVar 6) (dC (.int 1))) (dCons (dBin dIxF (dVar 6) (dC (.int 2))) dNil)))))) (dC (.str "good")))) (sRet (dC (.bl false))) sNext))
def bd_p_law_3 : DS :=
  (sSeq (sAsg (dCall fLstOfC (dCons (dVar 6) dNil)) 8)
    (sSeq (sAsg (dC (.str "good")) 9)
    (sSeq (sFor (iSeq (dLst (dCons (dC (.int 2)) (dCons (dC (.int 1)) (dCons (dC (.int 0)) dNil))))) (gNm 10) bd_p_law_1)
    (sSeq (sAsg (dCall fReprCG (dCons (dVar 8) dNil)) 12)
    (sFor (iRng1 (dCons (dC (.int 2)) dNil)) (gNm 13) bd_p_law_2)))))
def bd_p_law_4 : DS :=
  (sSeq (sAsg (dFn 2 sem_l_pool (fun ds _ => ds) (dCons (dVar 0) (dCons (dVar 1) dNil))) 2)
    (sSeq (sAsg (dBin dAdd (dC (.int 1)) (dFn 2 sem_l_take (fun ds _ => ds) (dCons (dVar 2) (dCons (dC (.int 8)) dNil)))) 3)
    (sSeq (sPar 4 5 (dCons (dFn 1 sem_l_contract (fun ds _ => ds) (dCons (dVar 3) dNil)) (dCons (dFn 2 sem_l_shelves (fun ds _ => ds) (dCons (dVar 2) (dCons (dVar 3) dNil))) dNil)))
    (sSeq (sAsg (dLst (dCons (dFn 1 sem_l_input (fun ds _ => ds) (dCons (dVar 2) dNil)) (dCons (dVar 5) (dCons (dLst (dCons (dFn 2 sem_l_take (fun ds _ => ds) (dCons (dVar 2) (dCons (dC (.int 9)) dNil))) dNil)) dNil)))) 6)
    (sFor (iRng1 (dCons (dC (.int 8)) dNil)) (gNm 7) bd_p_law_3)))))
/-- law: slots 0=_law_script 1=_law_k 2=_law_pool_here 3=_law_size 4=_law_contract_here 5=_law_rooms 6=_law_good 7=_law_turn 8=_law_some 9=_law_due 10=_law_at 11=_law_odd 12=_law_kept 13=_law_door -/
def den_p_law : DS :=
  (sSeq (sFor (iRng1 (dCons (dCall fMax (dCons (dC (.int 1)) (dCons (dCall fMin (dCons (dCall fLen (dCons (dVar 0) dNil)) (dCons (dC (.int 6)) dNil))) dNil))) dNil)) (gNm 1) bd_p_law_4)
    (sRet (dBin dEq (dFn 5 sem_l_told (fun ds _ => ds) (dCons (dC (.int 0)) (dCons (dFn 1 sem_l_contract (fun ds _ => ds) (dCons (dC (.int 2)) dNil)) (dCons (dBin dRepL (dLst (dCons (dC (.int 0)) dNil)) (dC (.int 16))) (dCons (dC .non) (dCons (dLst (dCons (dBin dPow (dC (.int 10)) (dC (.int 40))) (dCons (dNeg (dBin dPow (dC (.int 10)) (dC (.int 40)))) dNil))) dNil)))))) (dC (.str "good")))))
abbrev lawE (s c rm gd : D) (j n : Nat) (e1 e7 e8 e9 e10 e11 e12 e13 : Option D) : List (Option D) := [some s, e1, some (.cel j), some (.int (n : Int)), some c, some rm, some gd, e7, e8, e9, e10, e11, e12, e13]
structure TS (j m n i : Nat) (a b x : D) (b1 b2 b3 : Bool) (cs : Cells) : Prop where
  p : Pool cs j
  m : cs m = some (.lst [a, b, x])
  s1 : SlIn a b1
  s2 : SlSh (n : Int) b b2
  s3 : SlAn x b3
  t3 : i < 1 → b3 = true
  t2 : i < 2 → b2 = true
  t1 : i < 3 → b1 = true
theorem TS.ne {j m n i : Nat} {a b x : D} {b1 b2 b3 : Bool} {cs : Cells} (h : TS j m n i a b x b1 b2 b3 cs) : m ≠ j := fun z => by
  obtain ⟨u, v, e, _⟩ := h.p
  have := h.m
  rw [z, e] at this
  cases this
theorem at_step {s c rm gd : D} {j m n i : Nat} {e1 e7 e11 e12 e13 : Option D} {a b x d : D} {b1 b2 b3 : Bool} {cs : Cells} {DD : DEnds} (hd : [D.int 2, D.int 1, D.int 0][i]? = some d) (hn : 1 ≤ n ∧ n ≤ 8) (hg : GSh n rm) (h : TS j m n i a b x b1 b2 b3 cs)
    (q : ∀ a b x b1 b2 b3 e11 cs', TS j m n (i + 1) a b x b1 b2 b3 cs' → DD.nx ⟨lawE s c rm gd j n e1 e7 (some (.cel m)) (some (.str (dueS b1 b2 b3))) (some d) e11 e12 e13, cs'⟩) :
    bd_p_law_1 DD ⟨lawE s c rm gd j n e1 e7 (some (.cel m)) (some (.str (dueS b1 b2 b3))) (some d) e11 e12 e13, cs⟩ := by
  have ne := h.ne
  unfold bd_p_law_1 if_p_law_1
  rw [e_if, e_tb]
  refine take_do (n := 3) rfl (by decide) h.p fun v c1 v0 v1 p1 g1 => ?_
  simp only [dC, e_eq_ii]
  by_cases hv : v = 0
  · rw [decide_eq_true hv, onB_t, if_pos True.intro]
    unfold sSeq sAsg
    refine ⟨_, rfl, rfl, j, rfl, p1, fun y1 c2 o1 p2 f2 => ?_⟩
    refine ⟨_, rfl, _, rfl, _, rfl, rfl, j, n, rm, rfl, hn, hg, p2, fun y2 c3 o2 p3 f3 => ?_⟩
    refine ⟨_, rfl, rfl, j, rfl, p3, fun y3 c4 o3 p4 f4 => ?_⟩
    refine ⟨ble rfl, ?_⟩
    have hm : c4 m = some (.lst [a, b, x]) := ((FrB.of g1).trans (f2.trans (f3.trans f4))) m _ ne h.m
    have pp : ∀ {o : Co}, Pool (put c4 m o) j := fun {o} => p4.other (put_ne ne.symm)
    match i, hd, h with
    | 0, hd, h =>
      cases hd
      refine ⟨_, rfl, _, rfl, y3, at2, ?_⟩
      refine ⟨_, rfl, _, rfl, _, 2, hm, rfl, ?_⟩
      refine ⟨ble rfl, _, rfl, _, at2, ?_⟩
      have e1 := h.t1 (by decide)
      have e2 := h.t2 (by decide)
      subst e1; subst e2
      exact q a b y3 true true false _ _ ⟨pp, put_same, h.s1, h.s2, sl_oan o3, fun z => absurd z (by decide), fun _ => rfl, fun _ => rfl⟩
    | 1, hd, h =>
      cases hd
      refine ⟨_, rfl, _, rfl, y2, at1, ?_⟩
      refine ⟨_, rfl, _, rfl, _, 1, hm, rfl, ?_⟩
      refine ⟨ble rfl, _, rfl, _, at1, ?_⟩
      have e1 := h.t1 (by decide)
      subst e1
      exact q a y2 x true false b3 _ _ ⟨pp, put_same, h.s1, sl_osh o2, h.s3, fun z => absurd z (by decide), fun z => absurd z (by decide), fun _ => rfl⟩
    | 2, hd, h =>
      cases hd
      refine ⟨_, rfl, _, rfl, y1, at0, ?_⟩
      refine ⟨_, rfl, _, rfl, _, 0, hm, rfl, ?_⟩
      refine ⟨ble rfl, _, rfl, _, at0, ?_⟩
      exact q y1 b x false b2 b3 _ _ ⟨pp, put_same, sl_oin o1, h.s2, h.s3, fun z => absurd z (by decide), fun z => absurd z (by decide), fun z => absurd z (by decide)⟩
    | i + 3, hd, h => cases hd
  · rw [decide_eq_false hv, onB_f, if_neg Bool.false_ne_true]
    refine q a b x b1 b2 b3 _ _ ⟨p1, ?_, h.s1, h.s2, h.s3, fun z => h.t3 (by omega), fun z => h.t2 (by omega), fun z => h.t1 (by omega)⟩
    rw [g1 m ne]; exact h.m
theorem rp_3 {n : Int} {a b x : D} {b1 b2 b3 : Bool} (h1 : SlIn a b1) (h2 : SlSh n b b2) (h3 : SlAn x b3) : RP 4 120009 (.lst [a, b, x]) :=
  rp_lst (k := 3) (w := 40000) (m := 3) (fun e he => by
    simp only [List.mem_cons, List.not_mem_nil, or_false] at he
    rcases he with rfl | rfl | rfl
    · exact h1.2
    · exact h2.2
    · exact h3.2) (ble rfl) (by decide)
theorem door_step {s rm : D} {j m n : Nat} {cl : List D} {e1 e7 e10 e11 : Option D} {a b x a0 b0 x0 : D} {b1 b2 b3 : Bool} {S : Str} {cs : Cells} {DD : DEnds} (hm : cs m = some (.lst [a, b, x])) (s1 : SlIn a b1) (s2 : SlSh (n : Int) b b2) (s3 : SlAn x b3)
    (g1 : SlIn a0 true) (g2 : SlSh (n : Int) b0 true) (g3 : SlAn x0 true) (hS : (pyG (.lst [a, b, x])).shown = S) {t : Int}
    (q : ∀ cs', Frd cs cs' → DD.nx ⟨lawE s (conD n cl) rm (.lst [a0, b0, x0]) j n e1 e7 (some (.cel m)) (some (.str (dueS b1 b2 b3))) e10 e11 (some (.str S)) (some (.int t)), cs'⟩) :
    bd_p_law_2 DD ⟨lawE s (conD n cl) rm (.lst [a0, b0, x0]) j n e1 e7 (some (.cel m)) (some (.str (dueS b1 b2 b3))) e10 e11 (some (.str S)) (some (.int t)), cs⟩ := by
  have rp := rp_3 s1 s2 s3
  unfold bd_p_law_2 te_p_law_1 sSeq
  rw [e_if, e_orT, e_tb]
  refine ⟨_, rfl, _, rfl, _, rfl, _, _, hm, at0, _, rfl, _, _, hm, at1, _, rfl, _, _, hm, at2, rfl, ?_⟩
  refine told_do s1 s2 s3 fun c1 f1 => ?_
  refine ⟨_, rfl, ?_⟩
  dsimp only
  rw [e_ne_ss, decide_eq_true rfl, Bool.not_true, onB_f, if_neg Bool.false_ne_true]
  rw [e_tb]
  refine ⟨_, rfl, _, f1 m _ hm, rp.s, Nat.lt_of_le_of_lt rp.p (by decide), Nat.le_trans rp.w (ble rfl), ?_⟩
  refine ⟨_, rfl, ?_⟩
  dsimp only
  rw [hS, e_ne_ss, decide_eq_true rfl, Bool.not_true, onB_f, if_neg Bool.false_ne_true]
  dsimp only [sNext]
  rw [e_if, e_tb]
  refine ⟨_, rfl, _, rfl, _, rfl, _, at0, _, rfl, _, at1, _, rfl, _, at2, rfl, ?_⟩
  refine told_do g1 g2 g3 fun c2 f2 => ?_
  dsimp only [dC]
  rw [show dueS true true true = "good" from rfl, e_ne_ss, decide_eq_true rfl, Bool.not_true, onB_f, if_neg Bool.false_ne_true]
  exact q c2 (f1.trans f2)
theorem turn_step {s : D} {j n : Nat} {cl : List D} {e1 e7 e8 e9 e10 e11 e12 e13 : Option D} {a0 b0 x0 : D} {cs : Cells} {DD : DEnds} (hn : 1 ≤ n ∧ n ≤ 8) (hg : GSh n b0) (hp : Pool cs j) (g1 : SlIn a0 true) (g2 : SlSh (n : Int) b0 true) (g3 : SlAn x0 true)
    (q : ∀ e8 e9 e10 e11 e12 e13 cs', Pool cs' j → DD.nx ⟨lawE s (conD n cl) b0 (.lst [a0, b0, x0]) j n e1 e7 e8 e9 e10 e11 e12 e13, cs'⟩) :
    bd_p_law_3 DD ⟨lawE s (conD n cl) b0 (.lst [a0, b0, x0]) j n e1 e7 e8 e9 e10 e11 e12 e13, cs⟩ := by
  unfold bd_p_law_3 sSeq sAsg
  refine ⟨_, rfl, _, _, rfl, rfl, fun m hm => ?_⟩
  have hm' : cs m = none := hm
  refine ⟨ble rfl, _, rfl, fun i c => ∃ a b x b1 b2 b3 e10 e11 cs', c = ⟨lawE s (conD n cl) b0 (.lst [a0, b0, x0]) j n e1 e7 (some (.cel m)) (some (.str (dueS b1 b2 b3))) e10 e11 e12 e13, cs'⟩ ∧ TS j m n i a b x b1 b2 b3 cs',
    ⟨a0, b0, x0, true, true, true, _, _, _, rfl, hp.other (put_ne (hp.ne hm')), put_same, g1, g2, g3, fun _ => rfl, fun _ => rfl, fun _ => rfl⟩, ?_, ?_⟩
  · rintro i d c2 hd ⟨a, b, x, b1, b2, b3, y10, y11, c1, rfl, h⟩
    show bd_p_law_1 _ ⟨lawE s (conD n cl) b0 (.lst [a0, b0, x0]) j n e1 e7 (some (.cel m)) (some (.str (dueS b1 b2 b3))) (some d) y11 e12 e13, c1⟩
    exact at_step hd hn hg h fun a b x b1 b2 b3 z11 cs' h' => ⟨a, b, x, b1, b2, b3, _, _, _, rfl, h'⟩
  · rintro c2 ⟨a, b, x, b1, b2, b3, y10, y11, c1, rfl, h⟩
    have rp := rp_3 h.s1 h.s2 h.s3
    obtain ⟨S, hS⟩ : ∃ S, (pyG (.lst [a, b, x])).shown = S := ⟨_, rfl⟩
    refine ⟨_, rfl, _, h.m, rp.s, Nat.lt_of_le_of_lt rp.p (by decide), Nat.le_trans rp.w (ble rfl), ?_⟩
    rw [hS]
    refine ⟨by decide, by decide, fun _ c => ∃ y13 cs', c = ⟨lawE s (conD n cl) b0 (.lst [a0, b0, x0]) j n e1 e7 (some (.cel m)) (some (.str (dueS b1 b2 b3))) y10 y11 (some (.str S)) y13, cs'⟩ ∧ Pool cs' j ∧ cs' m = some (.lst [a, b, x]), ⟨_, _, rfl, h.p, h.m⟩, ?_, ?_⟩
    · rintro i d c2 hd ⟨y13, c3, rfl, p3, m3⟩
      obtain ⟨hi, rfl⟩ := rangeD_get hd
      show bd_p_law_2 _ ⟨lawE s (conD n cl) b0 (.lst [a0, b0, x0]) j n e1 e7 (some (.cel m)) (some (.str (dueS b1 b2 b3))) y10 y11 (some (.str S)) (some (.int (0 + (i : Int)))), c3⟩
      exact door_step m3 h.s1 h.s2 h.s3 g1 g2 g3 hS fun cs' f => ⟨_, _, rfl, p3.frd f, f m _ m3⟩
    · rintro c2 ⟨y13, c3, rfl, p3, m3⟩
      exact q _ _ _ _ _ _ _ p3
theorem bin_c {op : DF} {x : D} {db : DE} {c : Z} {R : D → Z → Prop} (h : db c fun y c2 => op x y c2 R) : dBin op (dC x) db c R := h
theorem cell_step {ns : List Int} {k : Int} {e2 e3 e4 e5 e6 e7 e8 e9 e10 e11 e12 e13 : Option D} {cs : Cells} {DD : DEnds} (hk : 0 ≤ k ∧ k < 64) (hl : ns.length ≤ 63)
    (q : ∀ e2 e3 e4 e5 e6 e7 e8 e9 e10 e11 e12 e13 cs', DD.nx ⟨[some (.slst (ns.map .int)), some (.int k), e2, e3, e4, e5, e6, e7, e8, e9, e10, e11, e12, e13], cs'⟩) :
    bd_p_law_4 DD ⟨[some (.slst (ns.map .int)), some (.int k), e2, e3, e4, e5, e6, e7, e8, e9, e10, e11, e12, e13], cs⟩ := by
  unfold bd_p_law_4 sSeq sAsg
  refine ⟨_, rfl, _, rfl, rfl, ns, k, rfl, hk, hl, fun j c1 hj p1 f1 => ?_⟩
  dsimp only
  refine bin_c ?_
  refine take_do (n := 8) rfl (by decide) p1 fun v c2 v0 v1 p2 f2 => ?_
  obtain ⟨n, hn⟩ : ∃ n : Nat, 1 + v = (n : Int) := ⟨(1 + v).toNat, by omega⟩
  have hn2 : 1 ≤ n ∧ n ≤ 8 := by omega
  have ad : ∀ {c : Z} {R : D → Z → Prop}, R (.int (n : Int)) c → dAdd (.int 1) (.int v) c R := fun {c R} h => by
    rw [← hn] at h; exact h
  refine ad ?_
  refine ⟨_, rfl, rfl, (n : Int), rfl, fun cl c3 f3 => ?_⟩
  refine ⟨_, rfl, _, rfl, rfl, j, n, rfl, by omega, p2.frd f3, fun b0 c4 hb p4 f4 => ?_⟩
  refine ⟨_, rfl, rfl, j, rfl, p4, fun a0 c5 ha p5 f5 => ?_⟩
  refine ⟨_, rfl, ?_⟩
  refine take_do (n := 9) rfl (by decide) p5 fun w c6 w0 w1 p6 f6 => ?_
  refine ⟨ble rfl, ble rfl, ?_⟩
  have g1 : SlIn a0 true := sl_in ha
  have g2 : SlSh (n : Int) b0 true := sl_sh (by omega) hb
  have g3 : SlAn (.lst [.int w]) true := sl_an ⟨w0, w1⟩
  refine ⟨by decide, by decide, fun _ c => ∃ y7 y8 y9 y10 y11 y12 y13 cs', c = ⟨lawE (.slst (ns.map .int)) (conD n cl) b0 (.lst [a0, b0, .lst [.int w]]) j n (some (.int k)) y7 y8 y9 y10 y11 y12 y13, cs'⟩ ∧ Pool cs' j, ⟨_, _, _, _, _, _, _, _, rfl, p6⟩, ?_, ?_⟩
  · rintro i d c2 hd ⟨y7, y8, y9, y10, y11, y12, y13, c7, rfl, p7⟩
    show bd_p_law_3 _ ⟨lawE (.slst (ns.map .int)) (conD n cl) b0 (.lst [a0, b0, .lst [.int w]]) j n (some (.int k)) (some d) y8 y9 y10 y11 y12 y13, c7⟩
    exact turn_step hn2 hb p7 g1 g2 g3 fun y8 y9 y10 y11 y12 y13 c8 p8 => ⟨_, _, _, _, _, _, _, _, rfl, p8⟩
  · rintro c2 ⟨y7, y8, y9, y10, y11, y12, y13, c7, rfl, p7⟩
    exact q _ _ _ _ _ _ _ _ _ _ _ _ _
def law_tail : DS :=
    (sRet (dBin dEq (dFn 5 sem_l_told (fun ds _ => ds) (dCons (dC (.int 0)) (dCons (dFn 1 sem_l_contract (fun ds _ => ds) (dCons (dC (.int 2)) dNil)) (dCons (dBin dRepL (dLst (dCons (dC (.int 0)) dNil)) (dC (.int 16))) (dCons (dC .non) (dCons (dLst (dCons (dBin dPow (dC (.int 10)) (dC (.int 40))) (dCons (dNeg (dBin dPow (dC (.int 10)) (dC (.int 40)))) dNil))) dNil)))))) (dC (.str "good"))))
theorem law_tail_ok {c : Z} {R : D → Cells → Prop} (q : ∀ cs', R (.bl true) cs') : law_tail { nx := fun c => R .non c.cs, rt := R } c := by
  unfold law_tail sRet
  refine ⟨rfl, 2, rfl, fun cl c1 f1 => ?_⟩
  refine ⟨ble rfl, ⟨by decide, by decide⟩, ble rfl, ?_⟩
  refine ⟨⟨by decide, by decide⟩, ⟨by decide, by decide⟩, ble rfl, rfl, ?_⟩
  refine ⟨0, 2, cl, _, _, _, true, true, true, noSh, _, _, rfl, ltB_ok (by decide +kernel), .inl ⟨rfl, rfl, rfl⟩, ltB_ok (by decide +kernel), fun _ => rfl, fun _ => rfl, fun c2 f2 => ?_⟩
  exact q _
theorem okd_p_law : ∀ ds cs R, sem_p_law ds cs R → den_p_law { nx := fun c => R .non c.cs, rt := R } ⟨env0 14 ds, cs⟩ := by
  rintro ds cs R ⟨ns, rfl, hl, q⟩
  obtain ⟨m, em, m0, m1⟩ := turns (n := ns.length) (w := 6) (by decide)
  show sSeq (sFor (iRng1 (dCons (dCall fMax (dCons (dC (.int 1)) (dCons (dCall fMin (dCons (dCall fLen (dCons (dVar 0) dNil)) (dCons (dC (.int 6)) dNil))) dNil))) dNil)) (gNm 1) bd_p_law_4) law_tail _ _
  generalize hX : bd_p_law_4 = X
  walk_at "dl"
  k_search (List.length_map (as := ns) D.int)
  simp only [gt_iff_lt] at em
  rw [em]
  refine ⟨by omega, by omega, fun _ c => ∃ e1 e2 e3 e4 e5 e6 e7 e8 e9 e10 e11 e12 e13 cs', c = ⟨[some (.slst (ns.map .int)), e1, e2, e3, e4, e5, e6, e7, e8, e9, e10, e11, e12, e13], cs'⟩, ⟨_, _, _, _, _, _, _, _, _, _, _, _, _, _, rfl⟩, ?_, ?_⟩
  case refine_2 =>
    rintro c2 ⟨e1, e2, e3, e4, e5, e6, e7, e8, e9, e10, e11, e12, e13, cs', rfl⟩
    exact law_tail_ok q
  rintro i d c2 hd ⟨e1, e2, e3, e4, e5, e6, e7, e8, e9, e10, e11, e12, e13, cs', rfl⟩
  obtain ⟨hi, rfl⟩ := rangeD_get hd
  subst hX
  exact cell_step (by omega) hl fun e2 e3 e4 e5 e6 e7 e8 e9 e10 e11 e12 e13 cs' => ⟨_, _, _, _, _, _, _, _, _, _, _, _, _, _, rfl⟩
end My
open PySem PySem.W PyProof.Rows
namespace My
open L2 DL
def top (i : Nat) : Stmt := PySem.Challenge.pw_boundgate_k35_no_inputs.main.body.getD i (.Pass ⟨0, 0, 0, 0⟩)
abbrev st_p_is_whole : Stmt := top 14
abbrev st_p_is_worth : Stmt := top 15
abbrev st_p_are_worths : Stmt := top 30
abbrev st_p_are_rooms : Stmt := top 31
abbrev st_p_are_shelves : Stmt := top 32
abbrev st_p_copied : Stmt := top 34
abbrev st_p_shelves_of : Stmt := top 33
abbrev st_p_look_at_given : Stmt := top 35
abbrev st_p_look_at_answers : Stmt := top 36
abbrev st_p_Runner___init__ : Stmt := clsKid (top 38) 0
abbrev st_p_Runner_steps : Stmt := clsKid (top 38) 5
abbrev st_p_Runner_told : Stmt := clsKid (top 38) 8
abbrev st_p_Runner_by_of : Stmt := clsKid (top 38) 9
abbrev st_p_Runner_box_of : Stmt := clsKid (top 38) 10
abbrev st_p_Runner_finish : Stmt := clsKid (top 38) 22
abbrev st_p_Runner_do_row : Stmt := clsKid (top 38) 23
abbrev st_p_Runner_kept : Stmt := clsKid (top 38) 24
abbrev st_p_Runner_step : Stmt := clsKid (top 38) 25
abbrev st_p_run : Stmt := top 39
abbrev st_l_pool : Stmt := top 41
abbrev st_l_take : Stmt := top 42
abbrev st_l_number : Stmt := top 43
abbrev st_l_contract : Stmt := top 44
abbrev st_l_shelves : Stmt := top 45
abbrev st_l_input : Stmt := top 46
abbrev st_l_odd_input : Stmt := top 47
abbrev st_l_odd_rooms : Stmt := top 48
abbrev st_l_odd_answers : Stmt := top 49
abbrev st_l_told : Stmt := top 50
abbrev st_p_law : Stmt := top 51
theorem sc_p_is_whole : FnScope ["thing"] ["thing"] (defScope st_p_is_whole) := ⟨rfl, rfl, rfl, by decide +kernel, rfl, by decide +kernel, by decide +kernel⟩
theorem sc_p_is_worth : FnScope ["thing", "wide"] ["thing", "wide"] (defScope st_p_is_worth) := ⟨rfl, rfl, rfl, by decide +kernel, rfl, by decide +kernel, by decide +kernel⟩
theorem sc_p_are_worths : FnScope ["thing", "many", "one"] ["thing", "many"] (defScope st_p_are_worths) := ⟨rfl, rfl, rfl, by decide +kernel, rfl, by decide +kernel, by decide +kernel⟩
theorem sc_p_are_rooms : FnScope ["thing", "size", "key"] ["thing", "size"] (defScope st_p_are_rooms) := ⟨rfl, rfl, rfl, by decide +kernel, rfl, by decide +kernel, by decide +kernel⟩
theorem sc_p_are_shelves : FnScope ["contract", "thing", "sizes", "name"] ["contract", "thing"] (defScope st_p_are_shelves) := ⟨rfl, rfl, rfl, by decide +kernel, rfl, by decide +kernel, by decide +kernel⟩
theorem sc_p_copied : FnScope ["shelves", "key", "room", "name"] ["shelves"] (defScope st_p_copied) := ⟨rfl, rfl, rfl, by decide +kernel, rfl, by decide +kernel, by decide +kernel⟩
theorem sc_p_shelves_of : FnScope ["contract", "thing", "name", "size"] ["contract", "thing"] (defScope st_p_shelves_of) := ⟨rfl, rfl, rfl, by decide +kernel, rfl, by decide +kernel, by decide +kernel⟩
theorem sc_p_look_at_given : FnScope ["given", "one"] ["given"] (defScope st_p_look_at_given) := ⟨rfl, rfl, rfl, by decide +kernel, rfl, by decide +kernel, by decide +kernel⟩
theorem sc_p_look_at_answers : FnScope ["answers", "one"] ["answers"] (defScope st_p_look_at_answers) := ⟨rfl, rfl, rfl, by decide +kernel, rfl, by decide +kernel, by decide +kernel⟩
theorem sc_p_Runner___init__ : FnScope ["self", "program", "contract", "given", "shelves", "answers"] ["self", "program", "contract", "given", "shelves", "answers"] (defScope st_p_Runner___init__) := ⟨rfl, rfl, rfl, by decide +kernel, rfl, by decide +kernel, by decide +kernel⟩
theorem sc_p_Runner_steps : FnScope ["self"] ["self"] (defScope st_p_Runner_steps) := ⟨rfl, rfl, rfl, by decide +kernel, rfl, by decide +kernel, by decide +kernel⟩
theorem sc_p_Runner_told : FnScope ["self"] ["self"] (defScope st_p_Runner_told) := ⟨rfl, rfl, rfl, by decide +kernel, rfl, by decide +kernel, by decide +kernel⟩
theorem sc_p_Runner_by_of : FnScope ["self", "by", "found"] ["self", "by"] (defScope st_p_Runner_by_of) := ⟨rfl, rfl, rfl, by decide +kernel, rfl, by decide +kernel, by decide +kernel⟩
theorem sc_p_Runner_box_of : FnScope ["self", "box"] ["self", "box"] (defScope st_p_Runner_box_of) := ⟨rfl, rfl, rfl, by decide +kernel, rfl, by decide +kernel, by decide +kernel⟩
theorem sc_p_Runner_finish : FnScope ["self", "found"] ["self"] (defScope st_p_Runner_finish) := ⟨rfl, rfl, rfl, by decide +kernel, rfl, by decide +kernel, by decide +kernel⟩
theorem sc_p_Runner_do_row : FnScope ["self", "word", "rest", "later", "elder"] ["self", "word", "rest"] (defScope st_p_Runner_do_row) := ⟨rfl, rfl, rfl, by decide +kernel, rfl, by decide +kernel, by decide +kernel⟩
theorem sc_p_Runner_kept : FnScope ["self", "boxes", "pile"] ["self"] (defScope st_p_Runner_kept) := ⟨rfl, rfl, rfl, by decide +kernel, rfl, by decide +kernel, by decide +kernel⟩
theorem sc_p_Runner_step : FnScope ["self", "ahead", "elder", "word", "rest", "e"] ["self"] (defScope st_p_Runner_step) := ⟨rfl, rfl, rfl, by decide +kernel, rfl, by decide +kernel, by decide +kernel⟩
theorem sc_p_run : FnScope ["program", "contract", "given", "shelves", "answers", "most", "runner"] ["program", "contract", "given", "shelves", "answers", "most"] (defScope st_p_run) := ⟨rfl, rfl, rfl, by decide +kernel, rfl, by decide +kernel, by decide +kernel⟩
theorem sc_l_pool : FnScope ["_law_script", "_law_k", "_law_cell", "_law_great", "_law_mixed"] ["_law_script", "_law_k"] (defScope st_l_pool) := ⟨rfl, rfl, rfl, by decide +kernel, rfl, by decide +kernel, by decide +kernel⟩
theorem sc_l_take : FnScope ["_law_pool_here", "_law_many", "_law_found"] ["_law_pool_here", "_law_many"] (defScope st_l_take) := ⟨rfl, rfl, rfl, by decide +kernel, rfl, by decide +kernel, by decide +kernel⟩
theorem sc_l_number : FnScope ["_law_pool_here"] ["_law_pool_here"] (defScope st_l_number) := ⟨rfl, rfl, rfl, by decide +kernel, rfl, by decide +kernel, by decide +kernel⟩
theorem sc_l_contract : FnScope ["_law_size", "_law_number_here", "_law_calls"] ["_law_size"] (defScope st_l_contract) := ⟨rfl, rfl, rfl, by decide +kernel, rfl, by decide +kernel, by decide +kernel⟩
theorem sc_l_shelves : FnScope ["_law_pool_here", "_law_size", "_law_found", "_law_name", "_law_many", "_law_key", "_law_k"] ["_law_pool_here", "_law_size"] (defScope st_l_shelves) := ⟨rfl, rfl, rfl, by decide +kernel, rfl, by decide +kernel, by decide +kernel⟩
theorem sc_l_input : FnScope ["_law_pool_here", "_law_k"] ["_law_pool_here"] (defScope st_l_input) := ⟨rfl, rfl, rfl, by decide +kernel, rfl, by decide +kernel, by decide +kernel⟩
theorem sc_l_odd_input : FnScope ["_law_pool_here", "_law_some"] ["_law_pool_here"] (defScope st_l_odd_input) := ⟨rfl, rfl, rfl, by decide +kernel, rfl, by decide +kernel, by decide +kernel⟩
theorem sc_l_odd_rooms : FnScope ["_law_pool_here", "_law_rooms", "_law_size", "_law_good", "_law_some"] ["_law_pool_here", "_law_rooms", "_law_size"] (defScope st_l_odd_rooms) := ⟨rfl, rfl, rfl, by decide +kernel, rfl, by decide +kernel, by decide +kernel⟩
theorem sc_l_odd_answers : FnScope ["_law_pool_here"] ["_law_pool_here"] (defScope st_l_odd_answers) := ⟨rfl, rfl, rfl, by decide +kernel, rfl, by decide +kernel, by decide +kernel⟩
theorem sc_l_told : FnScope ["_law_door", "_law_contract_here", "_law_cells", "_law_rooms", "_law_replies", "_law_error", "e"] ["_law_door", "_law_contract_here", "_law_cells", "_law_rooms", "_law_replies"] (defScope st_l_told) := ⟨rfl, rfl, rfl, by decide +kernel, rfl, by decide +kernel, by decide +kernel⟩
theorem sc_p_law : FnScope ["_law_script", "_law_k", "_law_pool_here", "_law_size", "_law_contract_here", "_law_rooms", "_law_good", "_law_turn", "_law_some", "_law_due", "_law_at", "_law_odd", "_law_kept", "_law_door"] ["_law_script"] (defScope st_p_law) := ⟨rfl, rfl, rfl, by decide +kernel, rfl, by decide +kernel, by decide +kernel⟩
abbrev sti_NoInput : Stmt := clsKid (top 8) 0
theorem sci_NoInput : FnScope ["self", "part"] ["self", "part"] (defScope sti_NoInput) := ⟨rfl, rfl, rfl, by decide +kernel, rfl, by decide +kernel, by decide +kernel⟩
structure Ad where
  a_p_is_whole : Addr
  fd_p_is_whole : FuncData
  a_p_is_worth : Addr
  fd_p_is_worth : FuncData
  a_p_are_worths : Addr
  fd_p_are_worths : FuncData
  a_p_are_rooms : Addr
  fd_p_are_rooms : FuncData
  a_p_are_shelves : Addr
  fd_p_are_shelves : FuncData
  a_p_copied : Addr
  fd_p_copied : FuncData
  a_p_shelves_of : Addr
  fd_p_shelves_of : FuncData
  a_p_look_at_given : Addr
  fd_p_look_at_given : FuncData
  a_p_look_at_answers : Addr
  fd_p_look_at_answers : FuncData
  a_p_Runner___init__ : Addr
  fd_p_Runner___init__ : FuncData
  a_p_Runner_steps : Addr
  fd_p_Runner_steps : FuncData
  a_p_Runner_told : Addr
  fd_p_Runner_told : FuncData
  a_p_Runner_by_of : Addr
  fd_p_Runner_by_of : FuncData
  a_p_Runner_box_of : Addr
  fd_p_Runner_box_of : FuncData
  a_p_Runner_finish : Addr
  fd_p_Runner_finish : FuncData
  a_p_Runner_do_row : Addr
  fd_p_Runner_do_row : FuncData
  a_p_Runner_kept : Addr
  fd_p_Runner_kept : FuncData
  a_p_Runner_step : Addr
  fd_p_Runner_step : FuncData
  a_p_run : Addr
  fd_p_run : FuncData
  a_l_pool : Addr
  fd_l_pool : FuncData
  a_l_take : Addr
  fd_l_take : FuncData
  a_l_number : Addr
  fd_l_number : FuncData
  a_l_contract : Addr
  fd_l_contract : FuncData
  a_l_shelves : Addr
  fd_l_shelves : FuncData
  a_l_input : Addr
  fd_l_input : FuncData
  a_l_odd_input : Addr
  fd_l_odd_input : FuncData
  a_l_odd_rooms : Addr
  fd_l_odd_rooms : FuncData
  a_l_odd_answers : Addr
  fd_l_odd_answers : FuncData
  a_l_told : Addr
  fd_l_told : FuncData
  a_p_law : Addr
  fd_p_law : FuncData
  x_Fault : Addr
  x_GateError : Addr
  x_NoCall : Addr
  x_NoContract : Addr
  x_NoInput : Addr
  x_NoProgram : Addr
  x_NoText : Addr
  x_Runner : Addr
  i_NoInput : Addr
  fi_NoInput : FuncData
structure Txt (K : PySem.W.Frag) (mg : Str → Option Value) (A : Ad) : Prop where
  F_p_is_whole : FunD K "is_whole" "is_whole" (defArgs st_p_is_whole) (defBody st_p_is_whole) (defScope st_p_is_whole) [] [] A.a_p_is_whole A.fd_p_is_whole
  m_p_is_whole : mg "is_whole" = some (.ref A.a_p_is_whole)
  F_p_is_worth : FunD K "is_worth" "is_worth" (defArgs st_p_is_worth) (defBody st_p_is_worth) (defScope st_p_is_worth) [] [("wide", .int 16)] A.a_p_is_worth A.fd_p_is_worth
  m_p_is_worth : mg "is_worth" = some (.ref A.a_p_is_worth)
  F_p_are_worths : FunD K "are_worths" "are_worths" (defArgs st_p_are_worths) (defBody st_p_are_worths) (defScope st_p_are_worths) [] [] A.a_p_are_worths A.fd_p_are_worths
  m_p_are_worths : mg "are_worths" = some (.ref A.a_p_are_worths)
  F_p_are_rooms : FunD K "are_rooms" "are_rooms" (defArgs st_p_are_rooms) (defBody st_p_are_rooms) (defScope st_p_are_rooms) [] [] A.a_p_are_rooms A.fd_p_are_rooms
  m_p_are_rooms : mg "are_rooms" = some (.ref A.a_p_are_rooms)
  F_p_are_shelves : FunD K "are_shelves" "are_shelves" (defArgs st_p_are_shelves) (defBody st_p_are_shelves) (defScope st_p_are_shelves) [] [] A.a_p_are_shelves A.fd_p_are_shelves
  m_p_are_shelves : mg "are_shelves" = some (.ref A.a_p_are_shelves)
  F_p_copied : FunD K "copied" "copied" (defArgs st_p_copied) (defBody st_p_copied) (defScope st_p_copied) [] [] A.a_p_copied A.fd_p_copied
  m_p_copied : mg "copied" = some (.ref A.a_p_copied)
  F_p_shelves_of : FunD K "shelves_of" "shelves_of" (defArgs st_p_shelves_of) (defBody st_p_shelves_of) (defScope st_p_shelves_of) [] [] A.a_p_shelves_of A.fd_p_shelves_of
  m_p_shelves_of : mg "shelves_of" = some (.ref A.a_p_shelves_of)
  F_p_look_at_given : FunD K "look_at_given" "look_at_given" (defArgs st_p_look_at_given) (defBody st_p_look_at_given) (defScope st_p_look_at_given) [] [] A.a_p_look_at_given A.fd_p_look_at_given
  m_p_look_at_given : mg "look_at_given" = some (.ref A.a_p_look_at_given)
  F_p_look_at_answers : FunD K "look_at_answers" "look_at_answers" (defArgs st_p_look_at_answers) (defBody st_p_look_at_answers) (defScope st_p_look_at_answers) [] [] A.a_p_look_at_answers A.fd_p_look_at_answers
  m_p_look_at_answers : mg "look_at_answers" = some (.ref A.a_p_look_at_answers)
  F_p_Runner___init__ : FunD K "__init__" "Runner.__init__" (defArgs st_p_Runner___init__) (defBody st_p_Runner___init__) (defScope st_p_Runner___init__) [] [("shelves", .non)] A.a_p_Runner___init__ A.fd_p_Runner___init__
  F_p_Runner_steps : FunD K "steps" "Runner.steps" (defArgs st_p_Runner_steps) (defBody st_p_Runner_steps) (defScope st_p_Runner_steps) [] [] A.a_p_Runner_steps A.fd_p_Runner_steps
  F_p_Runner_told : FunD K "told" "Runner.told" (defArgs st_p_Runner_told) (defBody st_p_Runner_told) (defScope st_p_Runner_told) [] [] A.a_p_Runner_told A.fd_p_Runner_told
  F_p_Runner_by_of : FunD K "by_of" "Runner.by_of" (defArgs st_p_Runner_by_of) (defBody st_p_Runner_by_of) (defScope st_p_Runner_by_of) [] [] A.a_p_Runner_by_of A.fd_p_Runner_by_of
  F_p_Runner_box_of : FunD K "box_of" "Runner.box_of" (defArgs st_p_Runner_box_of) (defBody st_p_Runner_box_of) (defScope st_p_Runner_box_of) [] [] A.a_p_Runner_box_of A.fd_p_Runner_box_of
  F_p_Runner_finish : FunD K "finish" "Runner.finish" (defArgs st_p_Runner_finish) (defBody st_p_Runner_finish) (defScope st_p_Runner_finish) [] [] A.a_p_Runner_finish A.fd_p_Runner_finish
  F_p_Runner_do_row : FunD K "do_row" "Runner.do_row" (defArgs st_p_Runner_do_row) (defBody st_p_Runner_do_row) (defScope st_p_Runner_do_row) [] [] A.a_p_Runner_do_row A.fd_p_Runner_do_row
  F_p_Runner_kept : FunD K "kept" "Runner.kept" (defArgs st_p_Runner_kept) (defBody st_p_Runner_kept) (defScope st_p_Runner_kept) [] [] A.a_p_Runner_kept A.fd_p_Runner_kept
  F_p_Runner_step : FunD K "step" "Runner.step" (defArgs st_p_Runner_step) (defBody st_p_Runner_step) (defScope st_p_Runner_step) [] [] A.a_p_Runner_step A.fd_p_Runner_step
  F_p_run : FunD K "run" "run" (defArgs st_p_run) (defBody st_p_run) (defScope st_p_run) [] [("shelves", .non), ("most", .int 1000)] A.a_p_run A.fd_p_run
  m_p_run : mg "run" = some (.ref A.a_p_run)
  F_l_pool : FunD K "_law_pool" "_law_pool" (defArgs st_l_pool) (defBody st_l_pool) (defScope st_l_pool) [] [] A.a_l_pool A.fd_l_pool
  m_l_pool : mg "_law_pool" = some (.ref A.a_l_pool)
  F_l_take : FunD K "_law_take" "_law_take" (defArgs st_l_take) (defBody st_l_take) (defScope st_l_take) [] [] A.a_l_take A.fd_l_take
  m_l_take : mg "_law_take" = some (.ref A.a_l_take)
  F_l_number : FunD K "_law_number" "_law_number" (defArgs st_l_number) (defBody st_l_number) (defScope st_l_number) [] [] A.a_l_number A.fd_l_number
  m_l_number : mg "_law_number" = some (.ref A.a_l_number)
  F_l_contract : FunD K "_law_contract" "_law_contract" (defArgs st_l_contract) (defBody st_l_contract) (defScope st_l_contract) [] [] A.a_l_contract A.fd_l_contract
  m_l_contract : mg "_law_contract" = some (.ref A.a_l_contract)
  F_l_shelves : FunD K "_law_shelves" "_law_shelves" (defArgs st_l_shelves) (defBody st_l_shelves) (defScope st_l_shelves) [] [] A.a_l_shelves A.fd_l_shelves
  m_l_shelves : mg "_law_shelves" = some (.ref A.a_l_shelves)
  F_l_input : FunD K "_law_input" "_law_input" (defArgs st_l_input) (defBody st_l_input) (defScope st_l_input) [] [] A.a_l_input A.fd_l_input
  m_l_input : mg "_law_input" = some (.ref A.a_l_input)
  F_l_odd_input : FunD K "_law_odd_input" "_law_odd_input" (defArgs st_l_odd_input) (defBody st_l_odd_input) (defScope st_l_odd_input) [] [] A.a_l_odd_input A.fd_l_odd_input
  m_l_odd_input : mg "_law_odd_input" = some (.ref A.a_l_odd_input)
  F_l_odd_rooms : FunD K "_law_odd_rooms" "_law_odd_rooms" (defArgs st_l_odd_rooms) (defBody st_l_odd_rooms) (defScope st_l_odd_rooms) [] [] A.a_l_odd_rooms A.fd_l_odd_rooms
  m_l_odd_rooms : mg "_law_odd_rooms" = some (.ref A.a_l_odd_rooms)
  F_l_odd_answers : FunD K "_law_odd_answers" "_law_odd_answers" (defArgs st_l_odd_answers) (defBody st_l_odd_answers) (defScope st_l_odd_answers) [] [] A.a_l_odd_answers A.fd_l_odd_answers
  m_l_odd_answers : mg "_law_odd_answers" = some (.ref A.a_l_odd_answers)
  F_l_told : FunD K "_law_told" "_law_told" (defArgs st_l_told) (defBody st_l_told) (defScope st_l_told) [] [] A.a_l_told A.fd_l_told
  m_l_told : mg "_law_told" = some (.ref A.a_l_told)
  F_p_law : FunD K "law" "law" (defArgs st_p_law) (defBody st_p_law) (defScope st_p_law) [] [] A.a_p_law A.fd_p_law
  m_p_law : mg "law" = some (.ref A.a_p_law)
  C_Runner : Cls K A.x_Runner
  mk_Runner : Mk K A.x_Runner A.a_p_Runner___init__
  me_Runner_box_of : Meth K A.x_Runner "box_of" A.a_p_Runner_box_of
  me_Runner_by_of : Meth K A.x_Runner "by_of" A.a_p_Runner_by_of
  me_Runner_do_row : Meth K A.x_Runner "do_row" A.a_p_Runner_do_row
  me_Runner_finish : Meth K A.x_Runner "finish" A.a_p_Runner_finish
  me_Runner_kept : Meth K A.x_Runner "kept" A.a_p_Runner_kept
  me_Runner_step : Meth K A.x_Runner "step" A.a_p_Runner_step
  me_Runner_steps : Meth K A.x_Runner "steps" A.a_p_Runner_steps
  me_Runner_told : Meth K A.x_Runner "told" A.a_p_Runner_told
  no_Runner_asks_many : PySem.W.findIn K (.ref A.x_Runner) "asks_many" = some none
  no_Runner_at_row : PySem.W.findIn K (.ref A.x_Runner) "at_row" = some none
  no_Runner_lent_keys : PySem.W.findIn K (.ref A.x_Runner) "lent_keys" = some none
  no_Runner_own_answers : PySem.W.findIn K (.ref A.x_Runner) "own_answers" = some none
  no_Runner_own_boxes : PySem.W.findIn K (.ref A.x_Runner) "own_boxes" = some none
  no_Runner_own_contract : PySem.W.findIn K (.ref A.x_Runner) "own_contract" = some none
  no_Runner_own_end : PySem.W.findIn K (.ref A.x_Runner) "own_end" = some none
  no_Runner_own_given : PySem.W.findIn K (.ref A.x_Runner) "own_given" = some none
  no_Runner_own_pile : PySem.W.findIn K (.ref A.x_Runner) "own_pile" = some none
  no_Runner_own_program : PySem.W.findIn K (.ref A.x_Runner) "own_program" = some none
  no_Runner_past : PySem.W.findIn K (.ref A.x_Runner) "past" = some none
  no_Runner_rooms : PySem.W.findIn K (.ref A.x_Runner) "rooms" = some none
  no_Runner_rows_done : PySem.W.findIn K (.ref A.x_Runner) "rows_done" = some none
  no_Runner_used : PySem.W.findIn K (.ref A.x_Runner) "used" = some none
  b_abs : mg "abs" = none
  b_all : mg "all" = none
  b_bool : mg "bool" = none
  b_dict : mg "dict" = none
  b_int : mg "int" = none
  b_isinstance : mg "isinstance" = none
  b_len : mg "len" = none
  b_list : mg "list" = none
  b_max : mg "max" = none
  b_min : mg "min" = none
  b_range : mg "range" = none
  b_repr : mg "repr" = none
  b_sum : mg "sum" = none
  b_tuple : mg "tuple" = none
  g_Fault : mg "Fault" = some (.ref A.x_Fault)
  n_Fault : ClsK K "Fault" A.x_Fault
  g_GateError : mg "GateError" = some (.ref A.x_GateError)
  n_GateError : ClsK K "GateError" A.x_GateError
  g_NoCall : mg "NoCall" = some (.ref A.x_NoCall)
  n_NoCall : ClsK K "NoCall" A.x_NoCall
  g_NoContract : mg "NoContract" = some (.ref A.x_NoContract)
  n_NoContract : ClsK K "NoContract" A.x_NoContract
  g_NoInput : mg "NoInput" = some (.ref A.x_NoInput)
  n_NoInput : ClsK K "NoInput" A.x_NoInput
  g_NoProgram : mg "NoProgram" = some (.ref A.x_NoProgram)
  n_NoProgram : ClsK K "NoProgram" A.x_NoProgram
  g_NoText : mg "NoText" = some (.ref A.x_NoText)
  n_NoText : ClsK K "NoText" A.x_NoText
  g_Runner : mg "Runner" = some (.ref A.x_Runner)
  n_Runner : ClsK K "Runner" A.x_Runner
  E_NoInput : ExcC K A.x_NoInput
  I_NoInput : FunD K "__init__" "NoInput.__init__" (defArgs sti_NoInput) (defBody sti_NoInput) (defScope sti_NoInput) [] [] A.i_NoInput A.fi_NoInput
  ic_NoInput : PySem.W.findIn K (.ref A.x_NoInput) "__init__" = some (some (.ref A.i_NoInput))
  it_NoInput : PySem.W.typeIn K (.ref A.i_NoInput) = some (.type "function")
  O_NoInput : OexC K A.x_NoInput
  no_NoInput_part : PySem.W.findIn K (.ref A.x_NoInput) "part" = some none
  xf_NoInput : XfC K A.x_NoInput
  cb_GateError : ClsI K A.x_GateError
  h_NoInput_GateError : PySem.W.exmOne K (.ref A.x_NoInput) (.ref A.x_GateError) = some true
  h_NoInput_NoCall : PySem.W.exmOne K (.ref A.x_NoInput) (.ref A.x_NoCall) = some false
  i_NoInput_NoContract_NoProgram_NoText : PySem.W.kitAny K (.ref A.x_NoInput) [(.ref A.x_NoContract), (.ref A.x_NoProgram), (.ref A.x_NoText)] = some false
  i_NoInput_NoInput : PySem.W.kitOne K (.ref A.x_NoInput) (.ref A.x_NoInput) = some true
  c_BOXES : ∃ t, mg "BOXES" = some (.int 6 t)
  c_MOST_GIVEN : ∃ t, mg "MOST_GIVEN" = some (.int 16 t)
  c_PILE : ∃ t, mg "PILE" = some (.int 8 t)
section
variable {P : Program} {w : World} {K : PySem.W.Frag} {mg : Str → Option Value} {base : Heap} {Ad0 : Ad}
theorem sub_GateError (T : Txt K mg Ad0) : ∀ r b C, subT_GateError r = some b → mg r = some (.ref C) → PySem.W.exmOne K (.ref C) (.ref Ad0.x_GateError) = some b := by
  intro r b C e hm
  unfold subT_GateError at e
  by_cases h : r = "NoInput"
  · rw [if_pos h] at e; cases e; subst h; rw [T.g_NoInput] at hm; cases hm; exact T.h_NoInput_GateError
  rw [if_neg h] at e
  cases e
theorem cl_GateError (T : Txt K mg Ad0) : ∀ r b C, subT_GateError r = some b → mg r = some (.ref C) → ClsK K r C := by
  intro r b C e hm
  unfold subT_GateError at e
  by_cases h : r = "NoInput"
  · subst h; rw [T.g_NoInput] at hm; cases hm; exact T.n_NoInput
  rw [if_neg h] at e
  cases e
theorem isK_ok_NoInput (T : Txt K mg Ad0) : ∀ r b C, isK_NoInput r = some b → ClsK K r C → ExcC K C ∧ PySem.W.kitOne K (.ref C) (.ref Ad0.x_NoInput) = some b := by
  intro r b C e hc
  unfold isK_NoInput at e
  by_cases h : r = "NoInput"
  · rw [if_pos h] at e; cases e; subst h; have e2 := hc.symm.trans T.n_NoInput; cases e2; exact ⟨T.E_NoInput, T.i_NoInput_NoInput⟩
  rw [if_neg h] at e
  cases e
theorem isKn_ok_NoContract_NoProgram_NoText (T : Txt K mg Ad0) : ∀ r b C, isKn_NoContract_NoProgram_NoText r = some b → ClsK K r C → ExcC K C ∧ PySem.W.kitAny K (.ref C) [(.ref Ad0.x_NoContract), (.ref Ad0.x_NoProgram), (.ref Ad0.x_NoText)] = some b := by
  intro r b C e hc
  unfold isKn_NoContract_NoProgram_NoText at e
  by_cases h : r = "NoInput"
  · rw [if_pos h] at e; cases e; subst h; have e2 := hc.symm.trans T.n_NoInput; cases e2; exact ⟨T.E_NoInput, T.i_NoInput_NoContract_NoProgram_NoText⟩
  rw [if_neg h] at e
  cases e
theorem fld_ok_part (T : Txt K mg Ad0) : ∀ r C, fldT_part r = true → ClsK K r C → XfC K C ∧ PySem.W.findIn K (.ref C) "part" = some none := by
  intro r C e hc
  unfold fldT_part at e
  by_cases h : r = "NoInput"
  · subst h; have e2 := hc.symm.trans T.n_NoInput; cases e2; exact ⟨T.xf_NoInput, T.no_NoInput_part⟩
  rw [if_neg h] at e
  cases e
theorem exf_NoInput (T : Txt K mg Ad0) : ExF P w K mg base "NoInput" Ad0.x_NoInput ["part"] :=
  ⟨T.O_NoInput, T.g_NoInput, _, _, T.ic_NoInput, T.it_NoInput, init1 T.I_NoInput sci_NoInput rfl rfl rfl rfl (by decide) (by decide) (by decide) rfl T.g_GateError T.cb_GateError T.O_NoInput T.no_NoInput_part, T.I_NoInput.bindsN fun _ _ _ _ _ _ us hl => match us, hl with | [_, _], _ => rfl⟩
theorem bn_p_is_whole_1 (T : Txt K mg Ad0) : Bnd K Ad0.fd_p_is_whole ["thing"] 1 [] (fun ds _ => ds) :=
  Bnd.all (T.F_p_is_whole.bindsN fun _ _ _ _ _ _ us hl => match us, hl with | [_], _ => rfl)
theorem bn_p_is_worth_1 (T : Txt K mg Ad0) : Bnd K Ad0.fd_p_is_worth ["thing", "wide"] 1 [] (fun ds _ => ds ++ [.int 16]) := by
  obtain ⟨ds0, r0, hb⟩ := T.F_p_is_worth.binds0 (ps := ["thing", "wide"]) 1 (by decide) rfl fun D doc pm an cdv ct us ks hu hk => match us, hu, ks, hk with | [_], _, [_], _ => by refine ⟨_, _, _, _, _, _, rfl, rfl, ?_⟩; exact kw_end rfl
  exact Bnd.dfl hb r0 (fun _ _ => .cons (.int _) (.nil)) rfl
theorem bn_p_are_worths_2 (T : Txt K mg Ad0) : Bnd K Ad0.fd_p_are_worths ["thing", "many"] 2 [] (fun ds _ => ds) :=
  Bnd.all (T.F_p_are_worths.bindsN fun _ _ _ _ _ _ us hl => match us, hl with | [_, _], _ => rfl)
theorem bn_p_are_rooms_2 (T : Txt K mg Ad0) : Bnd K Ad0.fd_p_are_rooms ["thing", "size"] 2 [] (fun ds _ => ds) :=
  Bnd.all (T.F_p_are_rooms.bindsN fun _ _ _ _ _ _ us hl => match us, hl with | [_, _], _ => rfl)
theorem bn_p_are_shelves_2 (T : Txt K mg Ad0) : Bnd K Ad0.fd_p_are_shelves ["contract", "thing"] 2 [] (fun ds _ => ds) :=
  Bnd.all (T.F_p_are_shelves.bindsN fun _ _ _ _ _ _ us hl => match us, hl with | [_, _], _ => rfl)
theorem bn_p_copied_1 (T : Txt K mg Ad0) : Bnd K Ad0.fd_p_copied ["shelves"] 1 [] (fun ds _ => ds) :=
  Bnd.all (T.F_p_copied.bindsN fun _ _ _ _ _ _ us hl => match us, hl with | [_], _ => rfl)
theorem bn_p_look_at_given_1 (T : Txt K mg Ad0) : Bnd K Ad0.fd_p_look_at_given ["given"] 1 [] (fun ds _ => ds) :=
  Bnd.all (T.F_p_look_at_given.bindsN fun _ _ _ _ _ _ us hl => match us, hl with | [_], _ => rfl)
theorem bn_p_shelves_of_2 (T : Txt K mg Ad0) : Bnd K Ad0.fd_p_shelves_of ["contract", "thing"] 2 [] (fun ds _ => ds) :=
  Bnd.all (T.F_p_shelves_of.bindsN fun _ _ _ _ _ _ us hl => match us, hl with | [_, _], _ => rfl)
theorem bn_p_look_at_answers_1 (T : Txt K mg Ad0) : Bnd K Ad0.fd_p_look_at_answers ["answers"] 1 [] (fun ds _ => ds) :=
  Bnd.all (T.F_p_look_at_answers.bindsN fun _ _ _ _ _ _ us hl => match us, hl with | [_], _ => rfl)
theorem bn_p_Runner_by_of_2 (T : Txt K mg Ad0) : Bnd K Ad0.fd_p_Runner_by_of ["self", "by"] 2 [] (fun ds _ => ds) :=
  Bnd.all (T.F_p_Runner_by_of.bindsN fun _ _ _ _ _ _ us hl => match us, hl with | [_, _], _ => rfl)
theorem bn_p_Runner_box_of_2 (T : Txt K mg Ad0) : Bnd K Ad0.fd_p_Runner_box_of ["self", "box"] 2 [] (fun ds _ => ds) :=
  Bnd.all (T.F_p_Runner_box_of.bindsN fun _ _ _ _ _ _ us hl => match us, hl with | [_, _], _ => rfl)
theorem bn_p_Runner_finish_1 (T : Txt K mg Ad0) : Bnd K Ad0.fd_p_Runner_finish ["self"] 1 [] (fun ds _ => ds) :=
  Bnd.all (T.F_p_Runner_finish.bindsN fun _ _ _ _ _ _ us hl => match us, hl with | [_], _ => rfl)
theorem bn_p_Runner_kept_1 (T : Txt K mg Ad0) : Bnd K Ad0.fd_p_Runner_kept ["self"] 1 [] (fun ds _ => ds) :=
  Bnd.all (T.F_p_Runner_kept.bindsN fun _ _ _ _ _ _ us hl => match us, hl with | [_], _ => rfl)
theorem bn_p_Runner_do_row_3 (T : Txt K mg Ad0) : Bnd K Ad0.fd_p_Runner_do_row ["self", "word", "rest"] 3 [] (fun ds _ => ds) :=
  Bnd.all (T.F_p_Runner_do_row.bindsN fun _ _ _ _ _ _ us hl => match us, hl with | [_, _, _], _ => rfl)
theorem bn_p_Runner___init___3_given_shelves_answers (T : Txt K mg Ad0) : Bnd K Ad0.fd_p_Runner___init__ ["self", "program", "contract", "given", "shelves", "answers"] 3 ["given", "shelves", "answers"] (fun ds es => ds ++ es) := by
  obtain ⟨⟨oc, od, dV, kV, doc, pm, an, cdv, ct, osl, e, lk, hcd, hD, hK⟩, kp⟩ := T.F_p_Runner___init__
  rcases hD with ⟨_, eD⟩ | ⟨z, _⟩
  · refine Bnd.kw fun s us ws X l1 l2 => ?_
    rw [e, eD]
    match us, l1, ws, l2 with
    | [_, _, _], _, [_, _, _], _ => exact .of_eq rfl
  · exact absurd rfl z
theorem bn_p_Runner_told_1 (T : Txt K mg Ad0) : Bnd K Ad0.fd_p_Runner_told ["self"] 1 [] (fun ds _ => ds) :=
  Bnd.all (T.F_p_Runner_told.bindsN fun _ _ _ _ _ _ us hl => match us, hl with | [_], _ => rfl)
theorem bn_p_Runner_steps_1 (T : Txt K mg Ad0) : Bnd K Ad0.fd_p_Runner_steps ["self"] 1 [] (fun ds _ => ds) :=
  Bnd.all (T.F_p_Runner_steps.bindsN fun _ _ _ _ _ _ us hl => match us, hl with | [_], _ => rfl)
theorem bn_p_Runner_step_1 (T : Txt K mg Ad0) : Bnd K Ad0.fd_p_Runner_step ["self"] 1 [] (fun ds _ => ds) :=
  Bnd.all (T.F_p_Runner_step.bindsN fun _ _ _ _ _ _ us hl => match us, hl with | [_], _ => rfl)
theorem bn_l_take_2 (T : Txt K mg Ad0) : Bnd K Ad0.fd_l_take ["_law_pool_here", "_law_many"] 2 [] (fun ds _ => ds) :=
  Bnd.all (T.F_l_take.bindsN fun _ _ _ _ _ _ us hl => match us, hl with | [_, _], _ => rfl)
theorem bn_l_number_1 (T : Txt K mg Ad0) : Bnd K Ad0.fd_l_number ["_law_pool_here"] 1 [] (fun ds _ => ds) :=
  Bnd.all (T.F_l_number.bindsN fun _ _ _ _ _ _ us hl => match us, hl with | [_], _ => rfl)
theorem bn_p_run_2_answers_given_shelves (T : Txt K mg Ad0) : Bnd K Ad0.fd_p_run ["program", "contract", "given", "shelves", "answers", "most"] 2 ["answers", "given", "shelves"] (fun ds es => (fun us mv ws => match mv, ws with | [m0], [w0, w1, w2] => us ++ [w1, w2, w0, m0] | _, _ => []) ds [.int 1000] es) := by
  refine Bnd.perm (ms := [("most", .int 1000)]) (g := (fun us mv ws => match mv, ws with | [m0], [w0, w1, w2] => us ++ [w1, w2, w0, m0] | _, _ => [])) (gV := (fun us mv ws => match mv, ws with | [m0], [w0, w1, w2] => us ++ [w1, w2, w0, m0] | _, _ => [])) (g2 := (fun us mv ws => match mv, ws with | [m0], [w0, w1, w2] => us ++ [w1, w2, w0, m0] | _, _ => [])) T.F_p_run (by decide) (fun q hq => ?_) (fun _ _ => .cons (.int _) (.nil))
    (fun l1 l2 r1 rk r2 => by
      rcases rk with _ | ⟨m0, _ | ⟨_, _⟩⟩ <;> rcases r2 with _ | ⟨w0, _ | ⟨w1, _ | ⟨w2, _ | ⟨_, _⟩⟩⟩⟩
      all_goals first | exact r1.append (.cons w1 (.cons w2 (.cons w0 (.cons m0 (.nil))))) | (exfalso; simp at l1; done) | (exfalso; simp at l2; done))
    (fun l1 l2 r1 rk r2 => by
      rcases rk with _ | ⟨m0, _ | ⟨_, _⟩⟩ <;> rcases r2 with _ | ⟨w0, _ | ⟨w1, _ | ⟨w2, _ | ⟨_, _⟩⟩⟩⟩
      all_goals first | exact r1.append (.cons w1 (.cons w2 (.cons w0 (.cons m0 (.nil))))) | (exfalso; simp at l1; done) | (exfalso; simp at l2; done))
    fun D doc pm an cdv ct us mv ws hu hm hw => match us, hu, mv, hm, ws, hw with | [_, _], _, [_], _, [_, _, _], _ => by refine ⟨_, _, _, _, _, _, rfl, rfl, ?_⟩; exact kw_end rfl
  simp only [List.mem_cons, List.not_mem_nil, or_false] at hq ⊢
  rcases hq with rfl <;> simp
theorem bn_l_pool_2 (T : Txt K mg Ad0) : Bnd K Ad0.fd_l_pool ["_law_script", "_law_k"] 2 [] (fun ds _ => ds) :=
  Bnd.all (T.F_l_pool.bindsN fun _ _ _ _ _ _ us hl => match us, hl with | [_, _], _ => rfl)
theorem bn_l_contract_1 (T : Txt K mg Ad0) : Bnd K Ad0.fd_l_contract ["_law_size"] 1 [] (fun ds _ => ds) :=
  Bnd.all (T.F_l_contract.bindsN fun _ _ _ _ _ _ us hl => match us, hl with | [_], _ => rfl)
theorem bn_l_shelves_2 (T : Txt K mg Ad0) : Bnd K Ad0.fd_l_shelves ["_law_pool_here", "_law_size"] 2 [] (fun ds _ => ds) :=
  Bnd.all (T.F_l_shelves.bindsN fun _ _ _ _ _ _ us hl => match us, hl with | [_, _], _ => rfl)
theorem bn_l_input_1 (T : Txt K mg Ad0) : Bnd K Ad0.fd_l_input ["_law_pool_here"] 1 [] (fun ds _ => ds) :=
  Bnd.all (T.F_l_input.bindsN fun _ _ _ _ _ _ us hl => match us, hl with | [_], _ => rfl)
theorem bn_l_odd_input_1 (T : Txt K mg Ad0) : Bnd K Ad0.fd_l_odd_input ["_law_pool_here"] 1 [] (fun ds _ => ds) :=
  Bnd.all (T.F_l_odd_input.bindsN fun _ _ _ _ _ _ us hl => match us, hl with | [_], _ => rfl)
theorem bn_l_odd_rooms_3 (T : Txt K mg Ad0) : Bnd K Ad0.fd_l_odd_rooms ["_law_pool_here", "_law_rooms", "_law_size"] 3 [] (fun ds _ => ds) :=
  Bnd.all (T.F_l_odd_rooms.bindsN fun _ _ _ _ _ _ us hl => match us, hl with | [_, _, _], _ => rfl)
theorem bn_l_odd_answers_1 (T : Txt K mg Ad0) : Bnd K Ad0.fd_l_odd_answers ["_law_pool_here"] 1 [] (fun ds _ => ds) :=
  Bnd.all (T.F_l_odd_answers.bindsN fun _ _ _ _ _ _ us hl => match us, hl with | [_], _ => rfl)
theorem bn_l_told_5 (T : Txt K mg Ad0) : Bnd K Ad0.fd_l_told ["_law_door", "_law_contract_here", "_law_cells", "_law_rooms", "_law_replies"] 5 [] (fun ds _ => ds) :=
  Bnd.all (T.F_l_told.bindsN fun _ _ _ _ _ _ us hl => match us, hl with | [_, _, _, _, _], _ => rfl)
theorem pb_p_is_whole (T : Txt K mg Ad0) (cdv : Value) (A : Around) (outer : List Env) (s : Shared) (H : Hp) (E : XK) (hgd : A.guards = some []) (hr : Room 0 (A.deeper (PyProof.Rows.envOfC "is_whole" (defScope st_p_is_whole) s.heap.objs.size Ad0.a_p_is_whole cdv))) :
    PDB (cxOf CX0 P w K mg base ["thing"] "is_whole" (defScope st_p_is_whole) Ad0.a_p_is_whole cdv A outer s H E).nox (defBody st_p_is_whole) den_p_is_whole :=
  (pdb_one (pds_ret (pd_and (pd_callB call_isi (callD_isi (n := "int")) (by rfl) T.b_isinstance (by decide +kernel) (pda_cons (pd_var 0) (pda_cons (pd_bty (by rfl) T.b_int (by decide +kernel)) pda_nil))) (pd_one (pd_not (pd_callB call_isi (callD_isi (n := "bool")) (by rfl) T.b_isinstance (by decide +kernel) (pda_cons (pd_var 0) (pda_cons (pd_bty (by rfl) T.b_bool (by decide +kernel)) pda_nil))))))))
theorem ok_p_is_whole (T : Txt K mg Ad0) : FnG P w K mg base CX0 1 Ad0.a_p_is_whole Ad0.fd_p_is_whole ["thing"] (FnD K sem_p_is_whole) :=
  fn_body T.F_p_is_whole sc_p_is_whole len_p_is_whole (pb_p_is_whole T) okd_p_is_whole
theorem pb_p_is_worth (T : Txt K mg Ad0) (cdv : Value) (A : Around) (outer : List Env) (s : Shared) (H : Hp) (E : XK) (hgd : A.guards = some []) (hr : Room 1 (A.deeper (PyProof.Rows.envOfC "is_worth" (defScope st_p_is_worth) s.heap.objs.size Ad0.a_p_is_worth cdv))) :
    PDB (cxOf CX0 P w K mg base ["thing", "wide"] "is_worth" (defScope st_p_is_worth) Ad0.a_p_is_worth cdv A outer s H E).nox (defBody st_p_is_worth) den_p_is_worth :=
  (pdb_one (pds_ret (pd_and (pd_fn (ok_p_is_whole T) hgd (hr.mono (by decide)) (by rfl) T.m_p_is_whole T.F_p_is_whole.kp (bn_p_is_whole_1 T) (pda_cons (pd_var 0) pda_nil)) (pd_one (pd_chain op_le opD_le op_lt opD_lt pd_int (pd_var 0) (pd_shl pd_int (pd_var 1)) (by with_unfolding_all rfl))))))
theorem ok_p_is_worth (T : Txt K mg Ad0) : FnG P w K mg base CX0 2 Ad0.a_p_is_worth Ad0.fd_p_is_worth ["thing", "wide"] (FnD K sem_p_is_worth) :=
  fn_body T.F_p_is_worth sc_p_is_worth len_p_is_worth (pb_p_is_worth T) okd_p_is_worth
theorem pb_p_are_worths (T : Txt K mg Ad0) (cdv : Value) (A : Around) (outer : List Env) (s : Shared) (H : Hp) (E : XK) (hgd : A.guards = some []) (hr : Room 2 (A.deeper (PyProof.Rows.envOfC "are_worths" (defScope st_p_are_worths) s.heap.objs.size Ad0.a_p_are_worths cdv))) :
    PDB (cxOf CX0 P w K mg base ["thing", "many", "one"] "are_worths" (defScope st_p_are_worths) Ad0.a_p_are_worths cdv A outer s H E).nox (defBody st_p_are_worths) den_p_are_worths :=
  (pdb_one (pds_ret (pd_and (pd_callB call_isi (callD_isi (n := "list")) (by rfl) T.b_isinstance (by decide +kernel) (pda_cons (pd_var 0) (pda_cons (pd_bty (by rfl) T.b_list (by decide +kernel)) pda_nil))) (pd_and (pd_eq hr.units (pd_callB call_len3 callD_len (by rfl) T.b_len (by decide +kernel) (pda_cons (pd_var 0) pda_nil)) (pd_var 1)) (pd_one (pd_callB (cr_all rfl) callD_all (by rfl) T.b_all (by decide +kernel) (pda_cons (pd_lc (g := (.one 2)) rfl sc_p_are_worths.nd (pdi_list (pd_var 0)) (blkOk_by (N := ["thing", "many", "one"]) (sc := defScope st_p_are_worths) (own := [("one", 2)]) (by decide +kernel)) rfl (fun _ _ _ _ _ => (pg_name (i := 2) sc_p_are_worths.nd rfl (by first | exact Or.inl rfl | exact Or.inr rfl))) (fun _ _ _ _ _ => pts_yes) (fun _ _ _ _ _ => (pd_fn (ok_p_is_worth T) hgd (hr.mono (by decide)) (by rfl) T.m_p_is_worth T.F_p_is_worth.kp (bn_p_is_worth_1 T) (pda_cons (pd_var 2) pda_nil)))) pda_nil)))))))
theorem ok_p_are_worths (T : Txt K mg Ad0) : FnG P w K mg base CX0 3 Ad0.a_p_are_worths Ad0.fd_p_are_worths ["thing", "many"] (FnD K sem_p_are_worths) :=
  fn_body T.F_p_are_worths sc_p_are_worths len_p_are_worths (pb_p_are_worths T) okd_p_are_worths
theorem pb_p_are_rooms (T : Txt K mg Ad0) (cdv : Value) (A : Around) (outer : List Env) (s : Shared) (H : Hp) (E : XK) (hgd : A.guards = some []) (hr : Room 3 (A.deeper (PyProof.Rows.envOfC "are_rooms" (defScope st_p_are_rooms) s.heap.objs.size Ad0.a_p_are_rooms cdv))) :
    PDB (cxOf CX0 P w K mg base ["thing", "size", "key"] "are_rooms" (defScope st_p_are_rooms) Ad0.a_p_are_rooms cdv A outer s H E).nox (defBody st_p_are_rooms) den_p_are_rooms :=
  (pdb_cons (pds_if (pdt_not (pdt_of (pd_callB call_isiB (callD_isiB (n := "dict")) (by rfl) T.b_isinstance (by decide +kernel) (pda_cons (pd_var 0) (pda_cons (pd_bty (by rfl) T.b_dict (by decide +kernel)) pda_nil))))) (pdb_one (pds_ret pd_bl)) pdb_nil)
    (pdb_one (pds_ret (pd_callB (cr_all rfl) callD_all (by rfl) T.b_all (by decide +kernel) (pda_cons (pd_lc (g := (.one 2)) rfl sc_p_are_rooms.nd (pdi_keysDB (pd_var 0)) (blkOk_by (N := ["thing", "size", "key"]) (sc := defScope st_p_are_rooms) (own := [("key", 2)]) (by decide +kernel)) rfl (fun _ _ _ _ _ => (pg_name (i := 2) sc_p_are_rooms.nd rfl (by first | exact Or.inl rfl | exact Or.inr rfl))) (fun _ _ _ _ _ => pts_yes) (fun _ _ _ _ _ => (pd_and (pd_fn (ok_p_is_worth T) hgd (hr.mono (by decide)) (by rfl) T.m_p_is_worth T.F_p_is_worth.kp (bn_p_is_worth_1 T) (pda_cons (pd_var 2) pda_nil)) (pd_one (pd_fn (ok_p_are_worths T) hgd (hr.mono (by decide)) (by rfl) T.m_p_are_worths T.F_p_are_worths.kp (bn_p_are_worths_2 T) (pda_cons (pd_ix (hu_of hr) (pd_var 0) (pd_var 2) (fun _ _ => rfl)) (pda_cons (pd_var 1) pda_nil))))))) pda_nil)))))
theorem ok_p_are_rooms (T : Txt K mg Ad0) : FnG P w K mg base CX0 4 Ad0.a_p_are_rooms Ad0.fd_p_are_rooms ["thing", "size"] (FnD K sem_p_are_rooms) :=
  fn_body T.F_p_are_rooms sc_p_are_rooms len_p_are_rooms (pb_p_are_rooms T) okd_p_are_rooms
theorem pb_p_are_shelves (T : Txt K mg Ad0) (cdv : Value) (A : Around) (outer : List Env) (s : Shared) (H : Hp) (E : XK) (hgd : A.guards = some []) (hr : Room 4 (A.deeper (PyProof.Rows.envOfC "are_shelves" (defScope st_p_are_shelves) s.heap.objs.size Ad0.a_p_are_shelves cdv))) :
    PDB (cxOf CX0 P w K mg base ["contract", "thing", "sizes", "name"] "are_shelves" (defScope st_p_are_shelves) Ad0.a_p_are_shelves cdv A outer s H E).nox (defBody st_p_are_shelves) den_p_are_shelves :=
  (pdb_cons (pds_set (i := 2) sc_p_are_shelves.nd rfl (by first | exact Or.inl rfl | exact Or.inr rfl) (pd_callTy (cr_dictP rfl) callD_dictP (by rfl) T.b_dict (by decide +kernel) (pda_cons (pd_ix (hu_of hr) (pd_var 0) pd_int (fun _ _ => rfl)) pda_nil)))
    (pdb_cons (pds_if (pdt_w (pdw_or (pdt_not (pdt_of (pd_callB call_isi (callD_isi (n := "dict")) (by rfl) T.b_isinstance (by decide +kernel) (pda_cons (pd_var 1) (pda_cons (pd_bty (by rfl) T.b_dict (by decide +kernel)) pda_nil))))) (pdw_one_or (pdt_cmp (opR_or op_ne (op_neD hr.units)) opD_ne (pd_callB call_len3 callD_len (by rfl) T.b_len (by decide +kernel) (pda_cons (pd_var 1) pda_nil)) (pd_callB call_len3 callD_len (by rfl) T.b_len (by decide +kernel) (pda_cons (pd_var 2) pda_nil)) (nomark _))))) (pdb_one (pds_ret pd_bl)) pdb_nil)
    (pdb_one (pds_ret (pd_callB (cr_all rfl) callD_all (by rfl) T.b_all (by decide +kernel) (pda_cons (pd_lc (g := (.one 3)) rfl sc_p_are_shelves.nd (pdi_keysD (pd_var 2)) (blkOk_by (N := ["contract", "thing", "sizes", "name"]) (sc := defScope st_p_are_shelves) (own := [("name", 3)]) (by decide +kernel)) rfl (fun _ _ _ _ _ => (pg_name (i := 3) sc_p_are_shelves.nd rfl (by first | exact Or.inl rfl | exact Or.inr rfl))) (fun _ _ _ _ _ => pts_yes) (fun _ _ _ _ _ => (pd_and (pd_cmp (op_inR hr.units) opD_inF (pd_var 3) (pd_var 1) (by with_unfolding_all rfl)) (pd_one (pd_fn (ok_p_are_rooms T) hgd (hr.mono (by decide)) (by rfl) T.m_p_are_rooms T.F_p_are_rooms.kp (bn_p_are_rooms_2 T) (pda_cons (pd_ix (hu_of hr) (pd_var 1) (pd_var 3) (fun _ _ => rfl)) (pda_cons (pd_ix (hu_of hr) (pd_var 2) (pd_var 3) (fun _ _ => rfl)) pda_nil))))))) pda_nil))))))
theorem ok_p_are_shelves (T : Txt K mg Ad0) : FnG P w K mg base CX0 5 Ad0.a_p_are_shelves Ad0.fd_p_are_shelves ["contract", "thing"] (FnD K sem_p_are_shelves) :=
  fn_body T.F_p_are_shelves sc_p_are_shelves len_p_are_shelves (pb_p_are_shelves T) okd_p_are_shelves
theorem pb_p_copied (T : Txt K mg Ad0) (cdv : Value) (A : Around) (outer : List Env) (s : Shared) (H : Hp) (E : XK) (hgd : A.guards = some []) (hr : Room 0 (A.deeper (PyProof.Rows.envOfC "copied" (defScope st_p_copied) s.heap.objs.size Ad0.a_p_copied cdv))) :
    PDB (cxOf CX0 P w K mg base ["shelves", "key", "room", "name"] "copied" (defScope st_p_copied) Ad0.a_p_copied cdv A outer s H E).nox (defBody st_p_copied) den_p_copied :=
  (pdb_one (pds_ret (pd_dc (g := (.one 3)) rfl sc_p_copied.nd (pdi_keysD (pd_var 0)) (blkOk_by (N := ["shelves", "key", "room", "name"]) (sc := defScope st_p_copied) (own := [("name", 3)]) (by decide +kernel)) rfl (fun _ _ _ _ _ => (pg_name (i := 3) sc_p_copied.nd rfl (by first | exact Or.inl rfl | exact Or.inr rfl))) (fun _ _ _ _ _ => pts_yes) (fun _ _ _ _ _ => (pd_var 3)) (fun _ _ _ _ _ => (pd_dc (g := (.tup [1, 2])) rfl sc_p_copied.nd (pdi_itemsD (pd_ix (hu_of hr) (pd_var 0) (pd_var 3) (fun _ _ => rfl))) (blkOk_by (N := ["shelves", "key", "room", "name"]) (sc := relSc (dcSc (stE ((defBody st_p_copied).getD 0 (.Pass ⟨0, 0, 0, 0⟩)))) (defScope st_p_copied)) (own := [("key", 1), ("room", 2)]) (by decide +kernel)) rfl (fun _ _ _ _ _ => (pgn_tup (is := [1, 2]) rfl (pgn_cons (pg_name (i := 1) sc_p_copied.nd rfl (by first | exact Or.inl rfl | exact Or.inr rfl)) (pgn_cons (pg_name (i := 2) sc_p_copied.nd rfl (by first | exact Or.inl rfl | exact Or.inr rfl)) pgn_nil)))) (fun _ _ _ _ _ => pts_yes) (fun _ _ _ _ _ => (pd_var 1)) (fun _ _ _ _ _ => (pd_callTy call_list_of callD_lstOf (by rfl) T.b_list (by decide +kernel) (pda_cons (pd_var 2) pda_nil))))))))
theorem ok_p_copied (T : Txt K mg Ad0) : FnG P w K mg base CX0 1 Ad0.a_p_copied Ad0.fd_p_copied ["shelves"] (FnD K sem_p_copied) :=
  fn_body T.F_p_copied sc_p_copied len_p_copied (pb_p_copied T) okd_p_copied
theorem pb_p_shelves_of (T : Txt K mg Ad0) (cdv : Value) (A : Around) (outer : List Env) (s : Shared) (H : Hp) (E : XK) (hgd : A.guards = some []) (hr : Room 5 (A.deeper (PyProof.Rows.envOfC "shelves_of" (defScope st_p_shelves_of) s.heap.objs.size Ad0.a_p_shelves_of cdv))) :
    PDB (cxOf (L2.CX P w) P w K mg base ["contract", "thing", "name", "size"] "shelves_of" (defScope st_p_shelves_of) Ad0.a_p_shelves_of cdv A outer s H E) (defBody st_p_shelves_of) den_p_shelves_of :=
  (pdb_cons (pds_if (pdt_isN (pd_var 1)) (pdb_one (pds_ret (pd_dc (g := (.tup [2, 3])) rfl sc_p_shelves_of.nd (pdi_list (pd_ix (hu_of hr) (pd_var 0) pd_int (fun _ _ => rfl))) (blkOk_by (N := ["contract", "thing", "name", "size"]) (sc := defScope st_p_shelves_of) (own := [("name", 2), ("size", 3)]) (by decide +kernel)) rfl (fun _ _ _ _ _ => (pgn_tup (is := [2, 3]) rfl (pgn_cons (pg_name (i := 2) sc_p_shelves_of.nd rfl (by first | exact Or.inl rfl | exact Or.inr rfl)) (pgn_cons (pg_name (i := 3) sc_p_shelves_of.nd rfl (by first | exact Or.inl rfl | exact Or.inr rfl)) pgn_nil)))) (fun _ _ _ _ _ => pts_yes) (fun _ _ _ _ _ => (pd_var 2)) (fun _ _ _ _ _ => pd_dnew)))) pdb_nil)
    (pdb_cons (pds_if (pdt_not (pdt_of (pd_fn (ok_p_are_shelves T) hgd (hr.mono (by decide)) (by rfl) T.m_p_are_shelves T.F_p_are_shelves.kp (bn_p_are_shelves_2 T) (pda_cons (pd_var 0) (pda_cons (pd_var 1) pda_nil))))) (pdb_one (pds_raiseF rfl (exf_NoInput T) (hr.mono (by decide)) (by rfl) (pda_cons pd_str pda_nil))) pdb_nil)
    (pdb_one (pds_ret (pd_fn (ok_p_copied T) hgd (hr.mono (by decide)) (by rfl) T.m_p_copied T.F_p_copied.kp (bn_p_copied_1 T) (pda_cons (pd_var 1) pda_nil))))))
theorem ok_p_shelves_of (T : Txt K mg Ad0) : FnG P w K mg base (L2.CX P w) 6 Ad0.a_p_shelves_of Ad0.fd_p_shelves_of ["contract", "thing"] (FnDX K mg sem_p_shelves_of) :=
  fn_bodyX T.F_p_shelves_of sc_p_shelves_of len_p_shelves_of (pb_p_shelves_of T) okd_p_shelves_of
theorem pb_p_look_at_given (T : Txt K mg Ad0) (cdv : Value) (A : Around) (outer : List Env) (s : Shared) (H : Hp) (E : XK) (hgd : A.guards = some []) (hr : Room 2 (A.deeper (PyProof.Rows.envOfC "look_at_given" (defScope st_p_look_at_given) s.heap.objs.size Ad0.a_p_look_at_given cdv))) :
    PDB (cxOf (L2.CX P w) P w K mg base ["given", "one"] "look_at_given" (defScope st_p_look_at_given) Ad0.a_p_look_at_given cdv A outer s H E) (defBody st_p_look_at_given) den_p_look_at_given :=
  (pdb_one (pds_if (pdt_w (pdw_or (pdt_not (pdt_of (pd_isiT (ns := ["list", "tuple"]) (by rfl) T.b_isinstance (pd_var 0) (clsNs_cons (clsN_ty (n := "list") (by rfl) T.b_list (by decide +kernel)) (clsNs_cons (clsN_ty (n := "tuple") (by rfl) T.b_tuple (by decide +kernel)) clsNs_nil))))) (pdw_or (pdt_cmp op_gt opD_gt (pd_callB call_len3 callD_len (by rfl) T.b_len (by decide +kernel) (pda_cons (pd_var 0) pda_nil)) (pd_conI (by rfl) T.c_MOST_GIVEN) (nomark _)) (pdw_one_or (pdt_not (pdt_of (pd_callB (cr_all rfl) callD_all (by rfl) T.b_all (by decide +kernel) (pda_cons (pd_lc (g := (.one 1)) rfl sc_p_look_at_given.nd (pdi_lt (pd_var 0)) (blkOk_by (N := ["given", "one"]) (sc := defScope st_p_look_at_given) (own := [("one", 1)]) (by decide +kernel)) rfl (fun _ _ _ _ _ => (pg_name (i := 1) sc_p_look_at_given.nd rfl (by first | exact Or.inl rfl | exact Or.inr rfl))) (fun _ _ _ _ _ => pts_yes) (fun _ _ _ _ _ => (pd_fn (ok_p_is_worth T) hgd (hr.mono (by decide)) (by rfl) T.m_p_is_worth T.F_p_is_worth.kp (bn_p_is_worth_1 T) (pda_cons (pd_var 1) pda_nil)))) pda_nil)))))))) (pdb_one (pds_raiseF rfl (exf_NoInput T) (hr.mono (by decide)) (by rfl) (pda_cons pd_str pda_nil))) pdb_nil))
theorem ok_p_look_at_given (T : Txt K mg Ad0) : FnG P w K mg base (L2.CX P w) 3 Ad0.a_p_look_at_given Ad0.fd_p_look_at_given ["given"] (FnDX K mg sem_p_look_at_given) :=
  fn_bodyX T.F_p_look_at_given sc_p_look_at_given len_p_look_at_given (pb_p_look_at_given T) okd_p_look_at_given
theorem pb_p_look_at_answers (T : Txt K mg Ad0) (cdv : Value) (A : Around) (outer : List Env) (s : Shared) (H : Hp) (E : XK) (hgd : A.guards = some []) (hr : Room 2 (A.deeper (PyProof.Rows.envOfC "look_at_answers" (defScope st_p_look_at_answers) s.heap.objs.size Ad0.a_p_look_at_answers cdv))) :
    PDB (cxOf (L2.CX P w) P w K mg base ["answers", "one"] "look_at_answers" (defScope st_p_look_at_answers) Ad0.a_p_look_at_answers cdv A outer s H E) (defBody st_p_look_at_answers) den_p_look_at_answers :=
  (pdb_one (pds_if (pdt_w (pdw_or (pdt_not (pdt_of (pd_isiT (ns := ["list", "tuple"]) (by rfl) T.b_isinstance (pd_var 0) (clsNs_cons (clsN_ty (n := "list") (by rfl) T.b_list (by decide +kernel)) (clsNs_cons (clsN_ty (n := "tuple") (by rfl) T.b_tuple (by decide +kernel)) clsNs_nil))))) (pdw_one_or (pdt_not (pdt_of (pd_callB (cr_all rfl) callD_all (by rfl) T.b_all (by decide +kernel) (pda_cons (pd_lc (g := (.one 1)) rfl sc_p_look_at_answers.nd (pdi_lt (pd_var 0)) (blkOk_by (N := ["answers", "one"]) (sc := defScope st_p_look_at_answers) (own := [("one", 1)]) (by decide +kernel)) rfl (fun _ _ _ _ _ => (pg_name (i := 1) sc_p_look_at_answers.nd rfl (by first | exact Or.inl rfl | exact Or.inr rfl))) (fun _ _ _ _ _ => pts_yes) (fun _ _ _ _ _ => (pd_fn (ok_p_is_whole T) hgd (hr.mono (by decide)) (by rfl) T.m_p_is_whole T.F_p_is_whole.kp (bn_p_is_whole_1 T) (pda_cons (pd_var 1) pda_nil)))) pda_nil))))))) (pdb_one (pds_raiseF rfl (exf_NoInput T) (hr.mono (by decide)) (by rfl) (pda_cons pd_str pda_nil))) pdb_nil))
theorem ok_p_look_at_answers (T : Txt K mg Ad0) : FnG P w K mg base (L2.CX P w) 3 Ad0.a_p_look_at_answers Ad0.fd_p_look_at_answers ["answers"] (FnDX K mg sem_p_look_at_answers) :=
  fn_bodyX T.F_p_look_at_answers sc_p_look_at_answers len_p_look_at_answers (pb_p_look_at_answers T) okd_p_look_at_answers
theorem pb_p_Runner___init__ (T : Txt K mg Ad0) (cdv : Value) (A : Around) (outer : List Env) (s : Shared) (H : Hp) (E : XK) (hgd : A.guards = some []) (hr : Room 6 (A.deeper (PyProof.Rows.envOfC "Runner.__init__" (defScope st_p_Runner___init__) s.heap.objs.size Ad0.a_p_Runner___init__ cdv))) :
    PDB (cxOf (L2.CX P w) P w K mg base ["self", "program", "contract", "given", "shelves", "answers"] "Runner.__init__" (defScope st_p_Runner___init__) Ad0.a_p_Runner___init__ cdv A outer s H E) (defBody st_p_Runner___init__) den_p_Runner___init__ :=
  (pdb_cons (pds_exprX (pdx_fn (ok_p_look_at_given T) hgd (hr.mono (by decide)) (by rfl) T.m_p_look_at_given T.F_p_look_at_given.kp (bn_p_look_at_given_1 T) (pda_cons (pd_var 3) pda_nil)))
    (pdb_cons (pds_fld (pd_var 0) (pd_callTy call_list_of callD_lstOf (by rfl) T.b_list (by decide +kernel) (pda_cons (pd_var 1) pda_nil)) (fldK_of T.n_Runner T.C_Runner T.no_Runner_own_program) rfl)
    (pdb_cons (pds_fld (pd_var 0) (pd_tup (pda_cons (pd_callTy call_list_of callD_lstOf (by rfl) T.b_list (by decide +kernel) (pda_cons (pd_ix (hu_of hr) (pd_var 2) pd_int (fun _ _ => rfl)) pda_nil)) (pda_cons (pd_callTy call_list_of callD_lstOf (by rfl) T.b_list (by decide +kernel) (pda_cons (pd_ix (hu_of hr) (pd_var 2) pd_int (fun _ _ => rfl)) pda_nil)) pda_nil))) (fldK_of T.n_Runner T.C_Runner T.no_Runner_own_contract) rfl)
    (pdb_cons (pds_fld (pd_var 0) (pd_callTy call_list_of callD_lstOf (by rfl) T.b_list (by decide +kernel) (pda_cons (pd_var 3) pda_nil)) (fldK_of T.n_Runner T.C_Runner T.no_Runner_own_given) rfl)
    (pdb_cons (pds_fldX (pd_var 0) (pdx_fn (ok_p_shelves_of T) hgd (hr.mono (by decide)) (by rfl) T.m_p_shelves_of T.F_p_shelves_of.kp (bn_p_shelves_of_2 T) (pda_cons (pd_var 2) (pda_cons (pd_var 4) pda_nil))) (fldK_of T.n_Runner T.C_Runner T.no_Runner_rooms) rfl)
    (pdb_cons (pds_exprX (pdx_fn (ok_p_look_at_answers T) hgd (hr.mono (by decide)) (by rfl) T.m_p_look_at_answers T.F_p_look_at_answers.kp (bn_p_look_at_answers_1 T) (pda_cons (pd_var 5) pda_nil)))
    (pdb_cons (pds_fld (pd_var 0) (pd_callTy call_list_of callD_lstOf (by rfl) T.b_list (by decide +kernel) (pda_cons (pd_var 5) pda_nil)) (fldK_of T.n_Runner T.C_Runner T.no_Runner_own_answers) rfl)
    (pdb_cons (pds_fld (pd_var 0) pd_int (fldK_of T.n_Runner T.C_Runner T.no_Runner_at_row) rfl)
    (pdb_cons (pds_fld (pd_var 0) (pd_addCel (pd_lstC (pda_cons (pd_tup (pda_cons pd_str (pda_cons pd_int pda_nil))) (pda_cons (pd_tup (pda_cons pd_str (pda_cons pd_int pda_nil))) (pda_cons (pd_tup (pda_cons pd_str (pda_cons (pd_callB call_len3 callD_len (by rfl) T.b_len (by decide +kernel) (pda_cons (pd_var 3) pda_nil)) pda_nil))) pda_nil)))) (pd_rep (pd_lst (pda_cons pd_non pda_nil)) (pd_sub (pd_conI (by rfl) T.c_BOXES) pd_int))) (fldK_of T.n_Runner T.C_Runner T.no_Runner_own_boxes) rfl)
    (pdb_cons (pds_fld (pd_var 0) (pd_rep (pd_lst (pda_cons pd_non pda_nil)) (pd_conI (by rfl) T.c_PILE)) (fldK_of T.n_Runner T.C_Runner T.no_Runner_own_pile) rfl)
    (pdb_cons (pds_fld (pd_var 0) pd_dnew (fldK_of T.n_Runner T.C_Runner T.no_Runner_lent_keys) rfl)
    (pdb_cons (pds_fld (pd_var 0) pd_int (fldK_of T.n_Runner T.C_Runner T.no_Runner_asks_many) rfl)
    (pdb_cons (pds_fld (pd_var 0) pd_int (fldK_of T.n_Runner T.C_Runner T.no_Runner_used) rfl)
    (pdb_cons (pds_fld (pd_var 0) pd_int (fldK_of T.n_Runner T.C_Runner T.no_Runner_rows_done) rfl)
    (pdb_cons (pds_fld (pd_var 0) pd_non (fldK_of T.n_Runner T.C_Runner T.no_Runner_own_end) rfl)
    (pdb_one (pds_fld (pd_var 0) (pd_lstC pda_nil) (fldK_of T.n_Runner T.C_Runner T.no_Runner_past) rfl)))))))))))))))))
theorem ok_p_Runner___init__ (T : Txt K mg Ad0) : FnG P w K mg base (L2.CX P w) 7 Ad0.a_p_Runner___init__ Ad0.fd_p_Runner___init__ ["self", "program", "contract", "given", "shelves", "answers"] (FnDX K mg sem_p_Runner___init__) :=
  fn_bodyX T.F_p_Runner___init__ sc_p_Runner___init__ len_p_Runner___init__ (pb_p_Runner___init__ T) okd_p_Runner___init__
theorem pb_p_Runner_steps (T : Txt K mg Ad0) (cdv : Value) (A : Around) (outer : List Env) (s : Shared) (H : Hp) (E : XK) (hgd : A.guards = some []) (hr : Room 0 (A.deeper (PyProof.Rows.envOfC "Runner.steps" (defScope st_p_Runner_steps) s.heap.objs.size Ad0.a_p_Runner_steps cdv))) :
    PDB (cxOf CX0 P w K mg base ["self"] "Runner.steps" (defScope st_p_Runner_steps) Ad0.a_p_Runner_steps cdv A outer s H E).nox (defBody st_p_Runner_steps) den_p_Runner_steps :=
  (pdb_one (pds_ret (pd_fld (pd_var 0) (fldK_of T.n_Runner T.C_Runner T.no_Runner_rows_done) rfl)))
theorem ok_p_Runner_steps (T : Txt K mg Ad0) : FnG P w K mg base CX0 1 Ad0.a_p_Runner_steps Ad0.fd_p_Runner_steps ["self"] (FnD K sem_p_Runner_steps) :=
  fn_body T.F_p_Runner_steps sc_p_Runner_steps len_p_Runner_steps (pb_p_Runner_steps T) okd_p_Runner_steps
theorem pb_p_Runner_told (T : Txt K mg Ad0) (cdv : Value) (A : Around) (outer : List Env) (s : Shared) (H : Hp) (E : XK) (hgd : A.guards = some []) (hr : Room 1 (A.deeper (PyProof.Rows.envOfC "Runner.told" (defScope st_p_Runner_told) s.heap.objs.size Ad0.a_p_Runner_told cdv))) :
    PDB (cxOf CX0 P w K mg base ["self"] "Runner.told" (defScope st_p_Runner_told) Ad0.a_p_Runner_told cdv A outer s H E).nox (defBody st_p_Runner_told) den_p_Runner_told :=
  (pdb_cons (pds_if (pdt_isN (pd_fld (pd_var 0) (fldK_of T.n_Runner T.C_Runner T.no_Runner_own_end) rfl)) (pdb_one (pds_ret pd_non)) pdb_nil)
    (pdb_one (pds_ret (pd_addA (pd_fld (pd_var 0) (fldK_of T.n_Runner T.C_Runner T.no_Runner_own_end) rfl) (pd_tup (pda_cons (pd_fld (pd_var 0) (fldK_of T.n_Runner T.C_Runner T.no_Runner_rows_done) rfl) (pda_cons (pd_fn (ok_p_copied T) hgd (hr.mono (by decide)) (by rfl) T.m_p_copied T.F_p_copied.kp (bn_p_copied_1 T) (pda_cons (pd_fld (pd_var 0) (fldK_of T.n_Runner T.C_Runner T.no_Runner_rooms) rfl) pda_nil)) pda_nil)))))))
theorem ok_p_Runner_told (T : Txt K mg Ad0) : FnG P w K mg base CX0 2 Ad0.a_p_Runner_told Ad0.fd_p_Runner_told ["self"] (FnD K sem_p_Runner_told) :=
  fn_body T.F_p_Runner_told sc_p_Runner_told len_p_Runner_told (pb_p_Runner_told T) okd_p_Runner_told
theorem pb_p_Runner_by_of (T : Txt K mg Ad0) (cdv : Value) (A : Around) (outer : List Env) (s : Shared) (H : Hp) (E : XK) (hgd : A.guards = some []) (hr : Room 0 (A.deeper (PyProof.Rows.envOfC "Runner.by_of" (defScope st_p_Runner_by_of) s.heap.objs.size Ad0.a_p_Runner_by_of cdv))) :
    PDB (cxOf CX0 P w K mg base ["self", "by", "found"] "Runner.by_of" (defScope st_p_Runner_by_of) Ad0.a_p_Runner_by_of cdv A outer s H E).nox (defBody st_p_Runner_by_of) den_p_Runner_by_of :=
  (pdb_cons (pds_set (i := 2) sc_p_Runner_by_of.nd rfl (by first | exact Or.inl rfl | exact Or.inr rfl) (pd_ifE (pdt_cmp (opR_or op_eq (op_eqD hr.units)) opD_eq (pd_ix (hu_of hr) (pd_var 1) pd_int (fun _ _ => rfl)) pd_str (nomark _)) (pd_tup (pda_cons pd_str (pda_cons (pd_ix (hu_of hr) (pd_var 1) pd_int (fun _ _ => rfl)) pda_nil))) (pd_ix (hu_of hr) (pd_fld (pd_var 0) (fldK_of T.n_Runner T.C_Runner T.no_Runner_own_boxes) rfl) (pd_ix (hu_of hr) (pd_var 1) pd_int (fun _ _ => rfl)) (fun _ _ => rfl))))
    (pdb_cons (pds_if (pdt_isN (pd_var 2)) (pdb_one pds_never) pdb_nil)
    (pdb_one (pds_ret (pd_var 2)))))
theorem ok_p_Runner_by_of (T : Txt K mg Ad0) : FnG P w K mg base CX0 1 Ad0.a_p_Runner_by_of Ad0.fd_p_Runner_by_of ["self", "by"] (FnD K sem_p_Runner_by_of) :=
  fn_body T.F_p_Runner_by_of sc_p_Runner_by_of len_p_Runner_by_of (pb_p_Runner_by_of T) okd_p_Runner_by_of
theorem pb_p_Runner_box_of (T : Txt K mg Ad0) (cdv : Value) (A : Around) (outer : List Env) (s : Shared) (H : Hp) (E : XK) (hgd : A.guards = some []) (hr : Room 1 (A.deeper (PyProof.Rows.envOfC "Runner.box_of" (defScope st_p_Runner_box_of) s.heap.objs.size Ad0.a_p_Runner_box_of cdv))) :
    PDB (cxOf CX0 P w K mg base ["self", "box"] "Runner.box_of" (defScope st_p_Runner_box_of) Ad0.a_p_Runner_box_of cdv A outer s H E).nox (defBody st_p_Runner_box_of) den_p_Runner_box_of :=
  (pdb_one (pds_ret (pd_meth (pd_var 0) (methK_of T.n_Runner T.C_Runner T.me_Runner_by_of) (ok_p_Runner_by_of T) hgd (hr.mono (by decide)) (bn_p_Runner_by_of_2 T) (pda_cons (pd_tup (pda_cons pd_str (pda_cons (pd_var 1) pda_nil))) pda_nil))))
theorem ok_p_Runner_box_of (T : Txt K mg Ad0) : FnG P w K mg base CX0 2 Ad0.a_p_Runner_box_of Ad0.fd_p_Runner_box_of ["self", "box"] (FnD K sem_p_Runner_box_of) :=
  fn_body T.F_p_Runner_box_of sc_p_Runner_box_of len_p_Runner_box_of (pb_p_Runner_box_of T) okd_p_Runner_box_of
theorem pb_p_Runner_finish (T : Txt K mg Ad0) (cdv : Value) (A : Around) (outer : List Env) (s : Shared) (H : Hp) (E : XK) (hgd : A.guards = some []) (hr : Room 2 (A.deeper (PyProof.Rows.envOfC "Runner.finish" (defScope st_p_Runner_finish) s.heap.objs.size Ad0.a_p_Runner_finish cdv))) :
    PDB (cxOf CX0 P w K mg base ["self", "found"] "Runner.finish" (defScope st_p_Runner_finish) Ad0.a_p_Runner_finish cdv A outer s H E).nox (defBody st_p_Runner_finish) den_p_Runner_finish :=
  (pdb_cons (pds_set (i := 1) sc_p_Runner_finish.nd rfl (by first | exact Or.inl rfl | exact Or.inr rfl) (pd_meth (pd_var 0) (methK_of T.n_Runner T.C_Runner T.me_Runner_box_of) (ok_p_Runner_box_of T) hgd (hr.mono (by decide)) (bn_p_Runner_box_of_2 T) (pda_cons pd_int pda_nil)))
    (pdb_cons (pds_if (pdt_cmp (opR_or op_ne (op_neD hr.units)) opD_ne (pd_ix (hu_of hr) (pd_var 1) pd_int (fun _ _ => rfl)) pd_str (nomark _)) (pdb_one pds_never) pdb_nil)
    (pdb_cons (pds_if (pdt_cmp (op_neEm hr.units) opD_neEm (pd_fld (pd_var 0) (fldK_of T.n_Runner T.C_Runner T.no_Runner_lent_keys) rfl) pd_dnew (nomark _)) (pdb_one pds_never) pdb_nil)
    (pdb_one (pds_fld (pd_var 0) (pd_tup (pda_cons pd_str (pda_cons (pd_ix (hu_of hr) (pd_var 1) pd_int (fun _ _ => rfl)) pda_nil))) (fldK_of T.n_Runner T.C_Runner T.no_Runner_own_end) rfl)))))
theorem ok_p_Runner_finish (T : Txt K mg Ad0) : FnG P w K mg base CX0 3 Ad0.a_p_Runner_finish Ad0.fd_p_Runner_finish ["self"] (FnD K sem_p_Runner_finish) :=
  fn_body T.F_p_Runner_finish sc_p_Runner_finish len_p_Runner_finish (pb_p_Runner_finish T) okd_p_Runner_finish
theorem pb_p_Runner_do_row (T : Txt K mg Ad0) (cdv : Value) (A : Around) (outer : List Env) (s : Shared) (H : Hp) (E : XK) (hgd : A.guards = some []) (hr : Room 3 (A.deeper (PyProof.Rows.envOfC "Runner.do_row" (defScope st_p_Runner_do_row) s.heap.objs.size Ad0.a_p_Runner_do_row cdv))) :
    PDB (cxOf CX0 P w K mg base ["self", "word", "rest", "later", "elder"] "Runner.do_row" (defScope st_p_Runner_do_row) Ad0.a_p_Runner_do_row cdv A outer s H E).nox (defBody st_p_Runner_do_row) den_p_Runner_do_row :=
  (pdb_cons (pds_par (ps_par rfl sc_p_Runner_do_row.nd (i := 3) (j := 4) rfl rfl (by decide) rfl rfl (pda_cons (pd_add (pd_fld (pd_var 0) (fldK_of T.n_Runner T.C_Runner T.no_Runner_at_row) rfl) pd_int) (pda_cons pd_non pda_nil)) (by rfl)))
    (pdb_cons (pds_if (pdt_cmp (opR_or op_eq (op_eqD hr.units)) opD_eq (pd_var 1) pd_str (nomark _)) (pdb_one (pds_asg (pd_tup (pda_cons pd_str (pda_cons (pd_ix (hu_of hr) (pd_var 2) pd_int (fun _ _ => rfl)) pda_nil))) (pdg_ix (pd_fld (pd_var 0) (fldK_of T.n_Runner T.C_Runner T.no_Runner_own_boxes) rfl) (pd_ix (hu_of hr) (pd_var 2) pd_int (fun _ _ => rfl))))) (pdb_one (pds_if (pdt_cmp (opR_or op_eq (op_eqD hr.units)) opD_eq (pd_var 1) pd_str (nomark _)) (pdb_one pds_never) (pdb_one (pds_if (pdt_cmp (opR_or op_eq (op_eqD hr.units)) opD_eq (pd_var 1) pd_str (nomark _)) (pdb_one pds_never) (pdb_one (pds_if (pdt_cmp (opR_or op_eq (op_eqD hr.units)) opD_eq (pd_var 1) pd_str (nomark _)) (pdb_one pds_never) (pdb_one (pds_if (pdt_cmp (opR_or op_eq (op_eqD hr.units)) opD_eq (pd_var 1) pd_str (nomark _)) (pdb_one pds_never) (pdb_one (pds_if (pdt_cmp (opR_or op_eq (op_eqD hr.units)) opD_eq (pd_var 1) pd_str (nomark _)) (pdb_one pds_never) (pdb_one (pds_if (pdt_cmp (opR_or op_eq (op_eqD hr.units)) opD_eq (pd_var 1) pd_str (nomark _)) (pdb_one pds_never) (pdb_one (pds_if (pdt_cmp (opR_or op_eq (op_eqD hr.units)) opD_eq (pd_var 1) pd_str (nomark _)) (pdb_one pds_never) (pdb_one (pds_expr (pd_meth0 (pd_var 0) (methK_of T.n_Runner T.C_Runner T.me_Runner_finish) (ok_p_Runner_finish T) hgd (hr.mono (by decide)) (bn_p_Runner_finish_1 T)))))))))))))))))))
    (pdb_one (pds_ret (pd_tup (pda_cons (pd_var 3) (pda_cons (pd_var 4) pda_nil)))))))
theorem ok_p_Runner_do_row (T : Txt K mg Ad0) : FnG P w K mg base CX0 4 Ad0.a_p_Runner_do_row Ad0.fd_p_Runner_do_row ["self", "word", "rest"] (FnD K sem_p_Runner_do_row) :=
  fn_body T.F_p_Runner_do_row sc_p_Runner_do_row len_p_Runner_do_row (pb_p_Runner_do_row T) okd_p_Runner_do_row
theorem pb_p_Runner_kept (T : Txt K mg Ad0) (cdv : Value) (A : Around) (outer : List Env) (s : Shared) (H : Hp) (E : XK) (hgd : A.guards = some []) (hr : Room 0 (A.deeper (PyProof.Rows.envOfC "Runner.kept" (defScope st_p_Runner_kept) s.heap.objs.size Ad0.a_p_Runner_kept cdv))) :
    PDB (cxOf CX0 P w K mg base ["self", "boxes", "pile"] "Runner.kept" (defScope st_p_Runner_kept) Ad0.a_p_Runner_kept cdv A outer s H E).nox (defBody st_p_Runner_kept) den_p_Runner_kept :=
  (pdb_cons (pds_par (ps_par rfl sc_p_Runner_kept.nd (i := 1) (j := 2) rfl rfl (by decide) rfl rfl (pda_cons (pd_callTy call_list_of callD_lstOfX (by rfl) T.b_list (by decide +kernel) (pda_cons (pd_fld (pd_var 0) (fldK_of T.n_Runner T.C_Runner T.no_Runner_own_boxes) rfl) pda_nil)) (pda_cons (pd_callTy call_list_of callD_lstOf (by rfl) T.b_list (by decide +kernel) (pda_cons (pd_fld (pd_var 0) (fldK_of T.n_Runner T.C_Runner T.no_Runner_own_pile) rfl) pda_nil)) pda_nil)) (by rfl)))
    (pdb_one (pds_ret (pd_tup (pda_cons (pd_fld (pd_var 0) (fldK_of T.n_Runner T.C_Runner T.no_Runner_at_row) rfl) (pda_cons (pd_var 1) (pda_cons (pd_var 2) (pda_cons (pd_callTy cr_dictD callD_dictD (by rfl) T.b_dict (by decide +kernel) (pda_cons (pd_fld (pd_var 0) (fldK_of T.n_Runner T.C_Runner T.no_Runner_lent_keys) rfl) pda_nil)) (pda_cons (pd_fld (pd_var 0) (fldK_of T.n_Runner T.C_Runner T.no_Runner_asks_many) rfl) (pda_cons (pd_fld (pd_var 0) (fldK_of T.n_Runner T.C_Runner T.no_Runner_used) rfl) (pda_cons (pd_fld (pd_var 0) (fldK_of T.n_Runner T.C_Runner T.no_Runner_rows_done) rfl) pda_nil)))))))))))
theorem ok_p_Runner_kept (T : Txt K mg Ad0) : FnG P w K mg base CX0 1 Ad0.a_p_Runner_kept Ad0.fd_p_Runner_kept ["self"] (FnD K sem_p_Runner_kept) :=
  fn_body T.F_p_Runner_kept sc_p_Runner_kept len_p_Runner_kept (pb_p_Runner_kept T) okd_p_Runner_kept
theorem pb_p_Runner_step (T : Txt K mg Ad0) (cdv : Value) (A : Around) (outer : List Env) (s : Shared) (H : Hp) (E : XK) (hgd : A.guards = some []) (hr : Room 4 (A.deeper (PyProof.Rows.envOfC "Runner.step" (defScope st_p_Runner_step) s.heap.objs.size Ad0.a_p_Runner_step cdv))) :
    PDB (cxOf CX0 P w K mg base ["self", "ahead", "elder", "word", "rest", "e"] "Runner.step" (defScope st_p_Runner_step) Ad0.a_p_Runner_step cdv A outer s H E).nox (defBody st_p_Runner_step) den_p_Runner_step :=
  (pdb_cons (pds_if (pdt_isnotN (pd_fld (pd_var 0) (fldK_of T.n_Runner T.C_Runner T.no_Runner_own_end) rfl)) (pdb_one (pds_ret pd_bl)) pdb_nil)
    (pdb_cons (pds_par (ps_par rfl sc_p_Runner_step.nd (i := 1) (j := 2) rfl rfl (by decide) rfl rfl (pda_cons (pd_meth0 (pd_var 0) (methK_of T.n_Runner T.C_Runner T.me_Runner_kept) (ok_p_Runner_kept T) hgd (hr.mono (by decide)) (bn_p_Runner_kept_1 T)) (pda_cons pd_non pda_nil)) (by rfl)))
    (pdb_cons (pds_if (pdt_cmp (opR_or op_eq (op_eqD hr.units)) opD_eq (pd_fld (pd_var 0) (fldK_of T.n_Runner T.C_Runner T.no_Runner_at_row) rfl) (pd_callB call_len3 callD_len (by rfl) T.b_len (by decide +kernel) (pda_cons (pd_fld (pd_var 0) (fldK_of T.n_Runner T.C_Runner T.no_Runner_own_program) rfl) pda_nil)) (nomark _)) (pdb_one (pds_fld (pd_var 0) (pd_tup (pda_cons pd_str (pda_cons pd_non pda_nil))) (fldK_of T.n_Runner T.C_Runner T.no_Runner_own_end) rfl)) (pdb_cons (pds_fldaug (pd_var 0) pd_int in_add opD_addI (fldK_of T.n_Runner T.C_Runner T.no_Runner_rows_done))
    (pdb_cons (pds_asg (pd_ix (hu_of hr) (pd_fld (pd_var 0) (fldK_of T.n_Runner T.C_Runner T.no_Runner_own_program) rfl) (pd_fld (pd_var 0) (fldK_of T.n_Runner T.C_Runner T.no_Runner_at_row) rfl) (fun _ _ => rfl)) (pdg_star (n := 1) rfl (pdgs_cons (pdg_name (i := 3) sc_p_Runner_step.nd rfl (by first | exact Or.inl rfl | exact Or.inr rfl)) (pdgs_star (pdgs_cons (pdg_name (i := 4) sc_p_Runner_step.nd rfl (by first | exact Or.inl rfl | exact Or.inr rfl)) pdgs_nil)))))
    (pdb_one (pds_tryAs (i := 5) (sub := fun _ => none) rfl rfl sc_p_Runner_step.nd rfl rfl ⟨rfl, by decide, .inl T.g_Fault⟩ (fun _ _ _ e => nomatch e) (fun pn xe po => (pdb_one (pds_asg (pd_meth (pd_var 0) (methK_of T.n_Runner T.C_Runner T.me_Runner_do_row) (ok_p_Runner_do_row T) hgd (hr.mono (by decide)) (bn_p_Runner_do_row_3 T) (pda_cons (pd_var 3) (pda_cons (pd_var 4) pda_nil))) (pdg_tup rfl (pdgs_cons (pdg_fld (pd_var 0) (fldK_of T.n_Runner T.C_Runner T.no_Runner_at_row)) (pdgs_cons (pdg_name (i := 2) sc_p_Runner_step.nd rfl (by first | exact Or.inl rfl | exact Or.inr rfl)) pdgs_nil)))))) (fun a oe C y d pn hz hf hm hd => pdb_one pds_never))))))
    (pdb_cons (pds_expr (pd_append (pd_fld (pd_var 0) (fldK_of T.n_Runner T.C_Runner T.no_Runner_past) rfl) (pd_tup (pda_cons (pd_var 1) (pda_cons (pd_var 2) pda_nil)))))
    (pdb_one (pds_ret (pd_isN (pd_fld (pd_var 0) (fldK_of T.n_Runner T.C_Runner T.no_Runner_own_end) rfl))))))))
theorem ok_p_Runner_step (T : Txt K mg Ad0) : FnG P w K mg base CX0 5 Ad0.a_p_Runner_step Ad0.fd_p_Runner_step ["self"] (FnD K sem_p_Runner_step) :=
  fn_body T.F_p_Runner_step sc_p_Runner_step len_p_Runner_step (pb_p_Runner_step T) okd_p_Runner_step
theorem pb_p_run (T : Txt K mg Ad0) (cdv : Value) (A : Around) (outer : List Env) (s : Shared) (H : Hp) (E : XK) (hgd : A.guards = some []) (hr : Room 8 (A.deeper (PyProof.Rows.envOfC "run" (defScope st_p_run) s.heap.objs.size Ad0.a_p_run cdv))) :
    PDB (cxOf (L2.CX P w) P w K mg base ["program", "contract", "given", "shelves", "answers", "most", "runner"] "run" (defScope st_p_run) Ad0.a_p_run cdv A outer s H E) (defBody st_p_run) den_p_run :=
  (pdb_cons (pds_setX (i := 6) sc_p_run.nd rfl (by first | exact Or.inl rfl | exact Or.inr rfl) (pdx_makeK ⟨T.n_Runner, T.mk_Runner⟩ (ok_p_Runner___init__ T) hgd (hr.mono (by decide)) (by rfl) T.g_Runner (bn_p_Runner___init___3_given_shelves_answers T) (pda_cons (pd_var 0) (pda_cons (pd_var 1) pda_nil)) (pdk_cons (pd_var 2) (pdk_cons (pd_var 3) (pdk_cons (pd_var 4) pdk_nil)))))
    (pdb_cons (pds_while (passes_of rfl) (pdt_isN (pd_meth0 (pd_var 6) (methK_of T.n_Runner T.C_Runner T.me_Runner_told) (ok_p_Runner_told T) hgd (hr.mono (by decide)) (bn_p_Runner_told_1 T))) (pdb_cons (pds_if (pdt_cmp (opR_or op_eq (op_eqD hr.units)) opD_eq (pd_meth0 (pd_var 6) (methK_of T.n_Runner T.C_Runner T.me_Runner_steps) (ok_p_Runner_steps T) hgd (hr.mono (by decide)) (bn_p_Runner_steps_1 T)) (pd_var 5) (nomark _)) (pdb_one (pds_ret (pd_tup (pda_cons pd_str (pda_cons pd_non (pda_cons (pd_var 5) (pda_cons (pd_fn (ok_p_copied T) hgd (hr.mono (by decide)) (by rfl) T.m_p_copied T.F_p_copied.kp (bn_p_copied_1 T) (pda_cons (pd_fld (pd_var 6) (fldK_of T.n_Runner T.C_Runner T.no_Runner_rooms) rfl) pda_nil)) pda_nil))))))) pdb_nil)
    (pdb_one (pds_expr (pd_meth0 (pd_var 6) (methK_of T.n_Runner T.C_Runner T.me_Runner_step) (ok_p_Runner_step T) hgd (hr.mono (by decide)) (bn_p_Runner_step_1 T))))))
    (pdb_one (pds_ret (pd_meth0 (pd_var 6) (methK_of T.n_Runner T.C_Runner T.me_Runner_told) (ok_p_Runner_told T) hgd (hr.mono (by decide)) (bn_p_Runner_told_1 T))))))
theorem ok_p_run (T : Txt K mg Ad0) : FnG P w K mg base (L2.CX P w) 9 Ad0.a_p_run Ad0.fd_p_run ["program", "contract", "given", "shelves", "answers", "most"] (FnDX K mg sem_p_run) :=
  fn_bodyX T.F_p_run sc_p_run len_p_run (pb_p_run T) okd_p_run
theorem pb_l_pool (T : Txt K mg Ad0) (cdv : Value) (A : Around) (outer : List Env) (s : Shared) (H : Hp) (E : XK) (hgd : A.guards = some []) (hr : Room 0 (A.deeper (PyProof.Rows.envOfC "_law_pool" (defScope st_l_pool) s.heap.objs.size Ad0.a_l_pool cdv))) :
    PDB (cxOf CX0 P w K mg base ["_law_script", "_law_k", "_law_cell", "_law_great", "_law_mixed"] "_law_pool" (defScope st_l_pool) Ad0.a_l_pool cdv A outer s H E).nox (defBody st_l_pool) den_l_pool :=
  (pdb_cons (pds_set (i := 2) sc_l_pool.nd rfl (by first | exact Or.inl rfl | exact Or.inr rfl) (pd_add (pd_mul pd_int (pd_callB (cr_sum rfl) callD_sum (by rfl) T.b_sum (by decide +kernel) (pda_cons (pd_slice (pd_var 0) pdo_none (pdo_some pd_int)) pda_nil))) (pd_var 1)))
    (pdb_cons (pds_if (pdt_cmp op_lt opD_lt (pd_var 1) (pd_callB call_len3 callD_len (by rfl) T.b_len (by decide +kernel) (pda_cons (pd_var 0) pda_nil)) (nomark _)) (pdb_one (pds_set (i := 2) sc_l_pool.nd rfl (by first | exact Or.inl rfl | exact Or.inr rfl) (pd_ix (hu_of hr) (pd_var 0) (pd_var 1) (fun _ _ => rfl)))) pdb_nil)
    (pdb_cons (pds_set (i := 3) sc_l_pool.nd rfl (by first | exact Or.inl rfl | exact Or.inr rfl) (pd_callB call_abs callD_abs (by rfl) T.b_abs (by decide +kernel) (pda_cons (pd_var 2) pda_nil)))
    (pdb_cons (pds_set (i := 4) sc_l_pool.nd rfl (by first | exact Or.inl rfl | exact Or.inr rfl) (pd_mod (pd_mul (pd_add (pd_add (pd_add (pd_mod (pd_var 3) pd_int) (pd_mul (pd_mul pd_int (pd_var 1)) (pd_var 1))) (pd_mul pd_int (pd_var 1))) pd_int) pd_int) pd_int))
    (pdb_one (pds_ret (pd_lstC (pda_cons (pd_mul (pd_var 3) (pd_callTy call_int1 callD_int (by rfl) T.b_int (by decide +kernel) (pda_cons (pd_ge (pd_var 3) (pd_pow pd_int pd_int)) pda_nil))) (pda_cons (pd_mod (pd_mul (pd_var 4) (pd_var 4)) pd_int) pda_nil)))))))))
theorem ok_l_pool (T : Txt K mg Ad0) : FnG P w K mg base CX0 1 Ad0.a_l_pool Ad0.fd_l_pool ["_law_script", "_law_k"] (FnD K sem_l_pool) :=
  fn_body T.F_l_pool sc_l_pool len_l_pool (pb_l_pool T) okd_l_pool
theorem pb_l_take (T : Txt K mg Ad0) (cdv : Value) (A : Around) (outer : List Env) (s : Shared) (H : Hp) (E : XK) (hgd : A.guards = some []) (hr : Room 0 (A.deeper (PyProof.Rows.envOfC "_law_take" (defScope st_l_take) s.heap.objs.size Ad0.a_l_take cdv))) :
    PDB (cxOf CX0 P w K mg base ["_law_pool_here", "_law_many", "_law_found"] "_law_take" (defScope st_l_take) Ad0.a_l_take cdv A outer s H E).nox (defBody st_l_take) den_l_take :=
  (pdb_cons (pds_if (pdt_cmp op_gt opD_gt (pd_ix (hu_of hr) (pd_var 0) pd_int (fun _ _ => rfl)) pd_int (nomark _)) (pdb_cons (pds_set (i := 2) sc_l_take.nd rfl (by first | exact Or.inl rfl | exact Or.inr rfl) (pd_mod (pd_ix (hu_of hr) (pd_var 0) pd_int (fun _ _ => rfl)) (pd_var 1)))
    (pdb_cons (pds_asg (pd_div (pd_ix (hu_of hr) (pd_var 0) pd_int (fun _ _ => rfl)) (pd_var 1)) (pdg_ix (pd_var 0) pd_int))
    (pdb_one (pds_ret (pd_var 2))))) pdb_nil)
    (pdb_cons (pds_asg (pd_mod (pd_add (pd_mul (pd_ix (hu_of hr) (pd_var 0) pd_int (fun _ _ => rfl)) pd_int) pd_int) pd_int) (pdg_ix (pd_var 0) pd_int))
    (pdb_one (pds_ret (pd_mod (pd_div (pd_mod (pd_mul (pd_ix (hu_of hr) (pd_var 0) pd_int (fun _ _ => rfl)) (pd_ix (hu_of hr) (pd_var 0) pd_int (fun _ _ => rfl))) pd_int) pd_int) (pd_var 1))))))
theorem ok_l_take (T : Txt K mg Ad0) : FnG P w K mg base CX0 1 Ad0.a_l_take Ad0.fd_l_take ["_law_pool_here", "_law_many"] (FnD K sem_l_take) :=
  fn_body T.F_l_take sc_l_take len_l_take (pb_l_take T) okd_l_take
theorem pb_l_number (T : Txt K mg Ad0) (cdv : Value) (A : Around) (outer : List Env) (s : Shared) (H : Hp) (E : XK) (hgd : A.guards = some []) (hr : Room 1 (A.deeper (PyProof.Rows.envOfC "_law_number" (defScope st_l_number) s.heap.objs.size Ad0.a_l_number cdv))) :
    PDB (cxOf CX0 P w K mg base ["_law_pool_here"] "_law_number" (defScope st_l_number) Ad0.a_l_number cdv A outer s H E).nox (defBody st_l_number) den_l_number :=
  (pdb_one (pds_ret (pd_ix (hu_of hr) (pd_lst (pda_cons pd_int (pda_cons pd_int (pda_cons pd_int (pda_cons pd_int (pda_cons pd_int (pda_cons pd_int (pda_cons pd_int (pda_cons pd_int (pda_cons pd_int (pda_cons (pd_fn (ok_l_take T) hgd (hr.mono (by decide)) (by rfl) T.m_l_take T.F_l_take.kp (bn_l_take_2 T) (pda_cons (pd_var 0) (pda_cons pd_int pda_nil))) pda_nil))))))))))) (pd_fn (ok_l_take T) hgd (hr.mono (by decide)) (by rfl) T.m_l_take T.F_l_take.kp (bn_l_take_2 T) (pda_cons (pd_var 0) (pda_cons pd_int pda_nil))) (fun _ _ => rfl))))
theorem ok_l_number (T : Txt K mg Ad0) : FnG P w K mg base CX0 2 Ad0.a_l_number Ad0.fd_l_number ["_law_pool_here"] (FnD K sem_l_number) :=
  fn_body T.F_l_number sc_l_number len_l_number (pb_l_number T) okd_l_number
theorem pb_l_contract (T : Txt K mg Ad0) (cdv : Value) (A : Around) (outer : List Env) (s : Shared) (H : Hp) (E : XK) (hgd : A.guards = some []) (hr : Room 0 (A.deeper (PyProof.Rows.envOfC "_law_contract" (defScope st_l_contract) s.heap.objs.size Ad0.a_l_contract cdv))) :
    PDB (cxOf CX0 P w K mg base ["_law_size", "_law_number_here", "_law_calls"] "_law_contract" (defScope st_l_contract) Ad0.a_l_contract cdv A outer s H E).nox (defBody st_l_contract) den_l_contract :=
  (pdb_cons (pds_set (i := 1) sc_l_contract.nd rfl (by first | exact Or.inl rfl | exact Or.inr rfl) (pd_tup (pda_cons pd_str (pda_cons pd_int (pda_cons pd_int pda_nil)))))
    (pdb_cons (pds_set (i := 2) sc_l_contract.nd rfl (by first | exact Or.inl rfl | exact Or.inr rfl) (pd_lstC (pda_cons (pd_tup (pda_cons pd_str (pda_cons (pd_tup (pda_cons (pd_var 1) pda_nil)) (pda_cons (pd_tup (pda_cons pd_str (pda_cons pd_str pda_nil))) pda_nil)))) (pda_cons (pd_tup (pda_cons pd_str (pda_cons (pd_tup (pda_cons (pd_tup (pda_cons pd_str (pda_cons pd_str pda_nil))) pda_nil)) (pda_cons (pd_tup (pda_cons pd_str pda_nil)) pda_nil)))) pda_nil))))
    (pdb_cons (pds_expr (pd_append (pd_var 2) (pd_tup (pda_cons pd_str (pda_cons (pd_tup (pda_cons (pd_tup (pda_cons pd_str (pda_cons pd_int (pda_cons pd_int pda_nil)))) (pda_cons (pd_tup (pda_cons pd_str (pda_cons pd_int pda_nil))) pda_nil))) (pda_cons (pd_tup (pda_cons pd_str (pda_cons pd_int (pda_cons pd_int pda_nil)))) pda_nil))))))
    (pdb_cons (pds_set (i := 2) sc_l_contract.nd rfl (by first | exact Or.inl rfl | exact Or.inr rfl) (pd_addCel (pd_var 2) (pd_lst (pda_cons (pd_tup (pda_cons pd_str (pda_cons (pd_tup pda_nil) (pda_cons (pd_tup (pda_cons pd_str (pda_cons pd_int (pda_cons pd_int pda_nil)))) pda_nil)))) (pda_cons (pd_tup (pda_cons pd_str (pda_cons (pd_tup (pda_cons (pd_tup (pda_cons pd_str (pda_cons pd_int (pda_cons pd_int pda_nil)))) pda_nil)) (pda_cons (pd_tup (pda_cons pd_str (pda_cons pd_str pda_nil))) pda_nil)))) pda_nil)))))
    (pdb_cons (pds_expr (pd_append (pd_var 2) (pd_tup (pda_cons pd_str (pda_cons (pd_tup (pda_cons (pd_tup (pda_cons pd_str (pda_cons pd_str pda_nil))) (pda_cons (pd_tup (pda_cons pd_str (pda_cons pd_int pda_nil))) pda_nil))) (pda_cons (pd_tup (pda_cons pd_str pda_nil)) pda_nil))))))
    (pdb_one (pds_ret (pd_tup (pda_cons (pd_lst (pda_cons (pd_tup (pda_cons pd_str (pda_cons (pd_var 0) pda_nil))) (pda_cons (pd_tup (pda_cons pd_str (pda_cons pd_int pda_nil))) pda_nil))) (pda_cons (pd_frz (pd_var 2)) pda_nil))))))))))
theorem ok_l_contract (T : Txt K mg Ad0) : FnG P w K mg base CX0 1 Ad0.a_l_contract Ad0.fd_l_contract ["_law_size"] (FnD K sem_l_contract) :=
  fn_body T.F_l_contract sc_l_contract len_l_contract (pb_l_contract T) okd_l_contract
theorem pb_l_shelves (T : Txt K mg Ad0) (cdv : Value) (A : Around) (outer : List Env) (s : Shared) (H : Hp) (E : XK) (hgd : A.guards = some []) (hr : Room 2 (A.deeper (PyProof.Rows.envOfC "_law_shelves" (defScope st_l_shelves) s.heap.objs.size Ad0.a_l_shelves cdv))) :
    PDB (cxOf CX0 P w K mg base ["_law_pool_here", "_law_size", "_law_found", "_law_name", "_law_many", "_law_key", "_law_k"] "_law_shelves" (defScope st_l_shelves) Ad0.a_l_shelves cdv A outer s H E).nox (defBody st_l_shelves) den_l_shelves :=
  (pdb_cons (pds_set (i := 2) sc_l_shelves.nd rfl (by first | exact Or.inl rfl | exact Or.inr rfl) (pd_disp (pdd_cons pd_str pd_dnewC (pdd_cons pd_str pd_dnewC pdd_nil)) (by rfl) (by rfl) (fun z => by cases z) (by decide)))
    (pdb_cons (pds_for PassesOwn.never rfl (pdi_list (pd_lst (pda_cons (pd_tup (pda_cons pd_str (pda_cons (pd_var 1) pda_nil))) (pda_cons (pd_tup (pda_cons pd_str (pda_cons pd_int pda_nil))) pda_nil)))) (pdg_tup rfl (pdgs_cons (pdg_name (i := 3) sc_l_shelves.nd rfl (by first | exact Or.inl rfl | exact Or.inr rfl)) (pdgs_cons (pdg_name (i := 4) sc_l_shelves.nd rfl (by first | exact Or.inl rfl | exact Or.inr rfl)) pdgs_nil))) (pdb_one (pds_for PassesOwn.never rfl (pdi_list (pd_lst (pda_cons pd_int (pda_cons pd_int (pda_cons pd_int (pda_cons pd_int pda_nil)))))) (pdg_name (i := 5) sc_l_shelves.nd rfl (by first | exact Or.inl rfl | exact Or.inr rfl)) (pdb_one (pds_if (pdt_cmp op_gt opD_gt (pd_fn (ok_l_take T) hgd (hr.mono (by decide)) (by rfl) T.m_l_take T.F_l_take.kp (bn_l_take_2 T) (pda_cons (pd_var 0) (pda_cons pd_int pda_nil))) pd_int (nomark _)) (pdb_one (pds_asg (pd_lc (g := (.one 6)) rfl sc_l_shelves.nd (pdi_range1 (by rfl) T.b_range (pda_cons (pd_var 4) pda_nil)) (blkOk_by (N := ["_law_pool_here", "_law_size", "_law_found", "_law_name", "_law_many", "_law_key", "_law_k"]) (sc := defScope st_l_shelves) (own := [("_law_k", 6)]) (by decide +kernel)) rfl (fun _ _ _ _ _ => (pg_name (i := 6) sc_l_shelves.nd rfl (by first | exact Or.inl rfl | exact Or.inr rfl))) (fun _ _ _ _ _ => pts_yes) (fun _ _ _ _ _ => (pd_fn (ok_l_number T) hgd (hr.mono (by decide)) (by rfl) T.m_l_number T.F_l_number.kp (bn_l_number_1 T) (pda_cons (pd_var 0) pda_nil)))) (pdg_ixC (hu_of hr) (pd_ix (hu_of hr) (pd_var 2) (pd_var 3) (fun _ _ => rfl)) (pd_var 5)))) pdb_nil)))))
    (pdb_one (pds_frzK 2 0 (pds_frzK 2 1 (pds_ret (pd_var 2)))))))
theorem ok_l_shelves (T : Txt K mg Ad0) : FnG P w K mg base CX0 3 Ad0.a_l_shelves Ad0.fd_l_shelves ["_law_pool_here", "_law_size"] (FnD K sem_l_shelves) :=
  fn_body T.F_l_shelves sc_l_shelves len_l_shelves (pb_l_shelves T) okd_l_shelves
theorem pb_l_input (T : Txt K mg Ad0) (cdv : Value) (A : Around) (outer : List Env) (s : Shared) (H : Hp) (E : XK) (hgd : A.guards = some []) (hr : Room 2 (A.deeper (PyProof.Rows.envOfC "_law_input" (defScope st_l_input) s.heap.objs.size Ad0.a_l_input cdv))) :
    PDB (cxOf CX0 P w K mg base ["_law_pool_here", "_law_k"] "_law_input" (defScope st_l_input) Ad0.a_l_input cdv A outer s H E).nox (defBody st_l_input) den_l_input :=
  (pdb_one (pds_ret (pd_lc (g := (.one 1)) rfl sc_l_input.nd (pdi_range1 (by rfl) T.b_range (pda_cons (pd_ix (hu_of hr) (pd_lst (pda_cons pd_int (pda_cons pd_int (pda_cons pd_int (pda_cons pd_int (pda_cons pd_int pda_nil)))))) (pd_fn (ok_l_take T) hgd (hr.mono (by decide)) (by rfl) T.m_l_take T.F_l_take.kp (bn_l_take_2 T) (pda_cons (pd_var 0) (pda_cons pd_int pda_nil))) (fun _ _ => rfl)) pda_nil)) (blkOk_by (N := ["_law_pool_here", "_law_k"]) (sc := defScope st_l_input) (own := [("_law_k", 1)]) (by decide +kernel)) rfl (fun _ _ _ _ _ => (pg_name (i := 1) sc_l_input.nd rfl (by first | exact Or.inl rfl | exact Or.inr rfl))) (fun _ _ _ _ _ => pts_yes) (fun _ _ _ _ _ => (pd_fn (ok_l_number T) hgd (hr.mono (by decide)) (by rfl) T.m_l_number T.F_l_number.kp (bn_l_number_1 T) (pda_cons (pd_var 0) pda_nil))))))
theorem ok_l_input (T : Txt K mg Ad0) : FnG P w K mg base CX0 3 Ad0.a_l_input Ad0.fd_l_input ["_law_pool_here"] (FnD K sem_l_input) :=
  fn_body T.F_l_input sc_l_input len_l_input (pb_l_input T) okd_l_input
theorem pb_l_odd_input (T : Txt K mg Ad0) (cdv : Value) (A : Around) (outer : List Env) (s : Shared) (H : Hp) (E : XK) (hgd : A.guards = some []) (hr : Room 1 (A.deeper (PyProof.Rows.envOfC "_law_odd_input" (defScope st_l_odd_input) s.heap.objs.size Ad0.a_l_odd_input cdv))) :
    PDB (cxOf CX0 P w K mg base ["_law_pool_here", "_law_some"] "_law_odd_input" (defScope st_l_odd_input) Ad0.a_l_odd_input cdv A outer s H E).nox (defBody st_l_odd_input) den_l_odd_input :=
  (pdb_cons (pds_set (i := 1) sc_l_odd_input.nd rfl (by first | exact Or.inl rfl | exact Or.inr rfl) (pd_lst (pda_cons pd_non (pda_cons (pd_rep (pd_lst (pda_cons pd_int pda_nil)) pd_int) (pda_cons (pd_lst (pda_cons pd_int pda_nil)) (pda_cons (pd_lst (pda_cons (pd_neg pd_int) pda_nil)) (pda_cons (pd_lst (pda_cons pd_bl pda_nil)) (pda_cons pd_str (pda_cons pd_dnew (pda_cons pd_int (pda_cons (pd_lst (pda_cons pd_non pda_nil)) (pda_cons (pd_lst (pda_cons (pd_lst (pda_cons pd_int pda_nil)) pda_nil)) (pda_cons (pd_lst (pda_cons pd_str pda_nil)) (pda_cons (pd_tup (pda_cons pd_int (pda_cons pd_int pda_nil))) (pda_cons (pd_lst (pda_cons pd_int (pda_cons (pd_tup (pda_cons pd_int pda_nil)) pda_nil))) pda_nil)))))))))))))))
    (pdb_one (pds_ret (pd_ix (hu_of hr) (pd_var 1) (pd_fn (ok_l_take T) hgd (hr.mono (by decide)) (by rfl) T.m_l_take T.F_l_take.kp (bn_l_take_2 T) (pda_cons (pd_var 0) (pda_cons pd_int pda_nil))) (fun _ _ => rfl)))))
theorem ok_l_odd_input (T : Txt K mg Ad0) : FnG P w K mg base CX0 2 Ad0.a_l_odd_input Ad0.fd_l_odd_input ["_law_pool_here"] (FnD K sem_l_odd_input) :=
  fn_body T.F_l_odd_input sc_l_odd_input len_l_odd_input (pb_l_odd_input T) okd_l_odd_input
theorem pb_l_odd_rooms (T : Txt K mg Ad0) (cdv : Value) (A : Around) (outer : List Env) (s : Shared) (H : Hp) (E : XK) (hgd : A.guards = some []) (hr : Room 1 (A.deeper (PyProof.Rows.envOfC "_law_odd_rooms" (defScope st_l_odd_rooms) s.heap.objs.size Ad0.a_l_odd_rooms cdv))) :
    PDB (cxOf CX0 P w K mg base ["_law_pool_here", "_law_rooms", "_law_size", "_law_good", "_law_some"] "_law_odd_rooms" (defScope st_l_odd_rooms) Ad0.a_l_odd_rooms cdv A outer s H E).nox (defBody st_l_odd_rooms) den_l_odd_rooms :=
  (pdb_cons (pds_set (i := 3) sc_l_odd_rooms.nd rfl (by first | exact Or.inl rfl | exact Or.inr rfl) (pd_ix (hu_of hr) (pd_var 1) pd_str (fun _ _ => rfl)))
    (pdb_cons (pds_set (i := 4) sc_l_odd_rooms.nd rfl (by first | exact Or.inl rfl | exact Or.inr rfl) (pd_lstC (pda_cons pd_dnew (pda_cons (pd_lst pda_nil) (pda_cons (pd_disp (pdd_cons pd_str pd_dnew pdd_nil) (by rfl) (by rfl) (fun z => by cases z) (by decide)) (pda_cons (pd_disp (pdd_cons pd_str (pd_var 3) pdd_nil) (by rfl) (by rfl) (fun z => by cases z) (by decide)) (pda_cons (pd_disp (pdd_cons pd_str pd_dnew (pdd_cons pd_str pd_dnew (pdd_cons pd_str pd_dnew pdd_nil))) (by rfl) (by rfl) (fun z => by cases z) (by decide)) (pda_cons pd_int (pda_cons pd_str pda_nil)))))))))
    (pdb_cons (pds_expr (pd_append (pd_var 4) (pd_disp (pdd_cons pd_str pd_dnew (pdd_cons pd_str pd_dnew pdd_nil)) (by rfl) (by rfl) (fun z => by cases z) (by decide))))
    (pdb_cons (pds_set (i := 4) sc_l_odd_rooms.nd rfl (by first | exact Or.inl rfl | exact Or.inr rfl) (pd_addCel (pd_var 4) (pd_lst (pda_cons (pd_disp (pdd_cons pd_str (pd_lst pda_nil) (pdd_cons pd_str (pd_var 3) pdd_nil)) (by rfl) (by rfl) (fun z => by cases z) (by decide)) (pda_cons (pd_disp (pdd_cons pd_str (pd_disp (pdd_cons pd_int (pd_rep (pd_lst (pda_cons pd_int pda_nil)) (pd_var 2)) pdd_nil) (by rfl) (by rfl) (fun z => by cases z) (by decide)) (pdd_cons pd_str (pd_var 3) pdd_nil)) (by rfl) (by rfl) (fun z => by cases z) (by decide)) pda_nil)))))
    (pdb_cons (pds_set (i := 4) sc_l_odd_rooms.nd rfl (by first | exact Or.inl rfl | exact Or.inr rfl) (pd_addCel (pd_var 4) (pd_lst (pda_cons (pd_disp (pdd_cons pd_str (pd_disp (pdd_cons (pd_neg pd_int) (pd_rep (pd_lst (pda_cons pd_int pda_nil)) (pd_var 2)) pdd_nil) (by rfl) (by rfl) (fun z => by cases z) (by decide)) (pdd_cons pd_str (pd_var 3) pdd_nil)) (by rfl) (by rfl) (fun z => by cases z) (by decide)) (pda_cons (pd_disp (pdd_cons pd_str (pd_dispB (pdd_cons pd_bl (pd_rep (pd_lst (pda_cons pd_int pda_nil)) (pd_var 2)) pdd_nil) (by rfl) (by rfl) (fun z => by cases z) (by decide)) (pdd_cons pd_str (pd_var 3) pdd_nil)) (by rfl) (by rfl) (fun z => by cases z) (by decide)) pda_nil)))))
    (pdb_cons (pds_set (i := 4) sc_l_odd_rooms.nd rfl (by first | exact Or.inl rfl | exact Or.inr rfl) (pd_addCel (pd_var 4) (pd_lst (pda_cons (pd_disp (pdd_cons pd_str (pd_disp (pdd_cons pd_int (pd_rep (pd_lst (pda_cons pd_int pda_nil)) (pd_add (pd_var 2) pd_int)) pdd_nil) (by rfl) (by rfl) (fun z => by cases z) (by decide)) (pdd_cons pd_str (pd_var 3) pdd_nil)) (by rfl) (by rfl) (fun z => by cases z) (by decide)) (pda_cons (pd_disp (pdd_cons pd_str (pd_disp (pdd_cons pd_int (pd_rep (pd_lst (pda_cons pd_int pda_nil)) (pd_sub (pd_var 2) pd_int)) pdd_nil) (by rfl) (by rfl) (fun z => by cases z) (by decide)) (pdd_cons pd_str (pd_var 3) pdd_nil)) (by rfl) (by rfl) (fun z => by cases z) (by decide)) pda_nil)))))
    (pdb_cons (pds_set (i := 4) sc_l_odd_rooms.nd rfl (by first | exact Or.inl rfl | exact Or.inr rfl) (pd_addCel (pd_var 4) (pd_lst (pda_cons (pd_disp (pdd_cons pd_str (pd_disp (pdd_cons pd_int (pd_repTA (pd_tup (pda_cons pd_int pda_nil)) (pd_var 2)) pdd_nil) (by rfl) (by rfl) (fun z => by cases z) (by decide)) (pdd_cons pd_str (pd_var 3) pdd_nil)) (by rfl) (by rfl) (fun z => by cases z) (by decide)) (pda_cons (pd_disp (pdd_cons pd_str (pd_disp (pdd_cons pd_int (pd_rep (pd_lst (pda_cons pd_int pda_nil)) (pd_var 2)) pdd_nil) (by rfl) (by rfl) (fun z => by cases z) (by decide)) (pdd_cons pd_str (pd_var 3) pdd_nil)) (by rfl) (by rfl) (fun z => by cases z) (by decide)) pda_nil)))))
    (pdb_cons (pds_set (i := 4) sc_l_odd_rooms.nd rfl (by first | exact Or.inl rfl | exact Or.inr rfl) (pd_addCel (pd_var 4) (pd_lst (pda_cons (pd_disp (pdd_cons pd_str (pd_disp (pdd_cons pd_int pd_non pdd_nil) (by rfl) (by rfl) (fun z => by cases z) (by decide)) (pdd_cons pd_str (pd_var 3) pdd_nil)) (by rfl) (by rfl) (fun z => by cases z) (by decide)) (pda_cons (pd_disp (pdd_cons pd_str (pd_disp (pdd_cons pd_str (pd_rep (pd_lst (pda_cons pd_int pda_nil)) (pd_var 2)) pdd_nil) (by rfl) (by rfl) (fun z => by cases z) (by decide)) (pdd_cons pd_str (pd_var 3) pdd_nil)) (by rfl) (by rfl) (fun z => by cases z) (by decide)) pda_nil)))))
    (pdb_cons (pds_set (i := 4) sc_l_odd_rooms.nd rfl (by first | exact Or.inl rfl | exact Or.inr rfl) (pd_addCel (pd_var 4) (pd_lst (pda_cons (pd_disp (pdd_cons pd_str pd_dnew (pdd_cons pd_str (pd_disp (pdd_cons pd_int (pd_lst (pda_cons pd_bl pda_nil)) pdd_nil) (by rfl) (by rfl) (fun z => by cases z) (by decide)) pdd_nil)) (by rfl) (by rfl) (fun z => by cases z) (by decide)) (pda_cons (pd_disp (pdd_cons pd_str pd_dnew (pdd_cons pd_str (pd_disp (pdd_cons pd_int (pd_lst (pda_cons pd_int pda_nil)) (pdd_cons pd_int (pd_lst (pda_cons pd_int (pda_cons pd_int pda_nil))) pdd_nil)) (by rfl) (by rfl) (fun z => by cases z) (by decide)) pdd_nil)) (by rfl) (by rfl) (fun z => by cases z) (by decide)) pda_nil)))))
    (pdb_cons (pds_expr (pd_append (pd_var 4) (pd_disp (pdd_cons pd_str pd_dnew (pdd_cons pd_str pd_non pdd_nil)) (by rfl) (by rfl) (fun z => by cases z) (by decide))))
    (pdb_one (pds_ret (pd_ix (hu_of hr) (pd_var 4) (pd_fn (ok_l_take T) hgd (hr.mono (by decide)) (by rfl) T.m_l_take T.F_l_take.kp (bn_l_take_2 T) (pda_cons (pd_var 0) (pda_cons pd_int pda_nil))) (fun _ _ => rfl))))))))))))))
theorem ok_l_odd_rooms (T : Txt K mg Ad0) : FnG P w K mg base CX0 2 Ad0.a_l_odd_rooms Ad0.fd_l_odd_rooms ["_law_pool_here", "_law_rooms", "_law_size"] (FnD K sem_l_odd_rooms) :=
  fn_body T.F_l_odd_rooms sc_l_odd_rooms len_l_odd_rooms (pb_l_odd_rooms T) okd_l_odd_rooms
theorem pb_l_odd_answers (T : Txt K mg Ad0) (cdv : Value) (A : Around) (outer : List Env) (s : Shared) (H : Hp) (E : XK) (hgd : A.guards = some []) (hr : Room 1 (A.deeper (PyProof.Rows.envOfC "_law_odd_answers" (defScope st_l_odd_answers) s.heap.objs.size Ad0.a_l_odd_answers cdv))) :
    PDB (cxOf CX0 P w K mg base ["_law_pool_here"] "_law_odd_answers" (defScope st_l_odd_answers) Ad0.a_l_odd_answers cdv A outer s H E).nox (defBody st_l_odd_answers) den_l_odd_answers :=
  (pdb_one (pds_ret (pd_ix (hu_of hr) (pd_lst (pda_cons pd_non (pda_cons (pd_lst (pda_cons pd_non pda_nil)) (pda_cons (pd_lst (pda_cons pd_bl pda_nil)) (pda_cons pd_str (pda_cons pd_dnew (pda_cons pd_int (pda_cons (pd_lst (pda_cons pd_int (pda_cons pd_str pda_nil))) (pda_cons (pd_lst (pda_cons (pd_tup (pda_cons pd_int pda_nil)) pda_nil)) (pda_cons (pd_disp (pdd_cons pd_int pd_int pdd_nil) (by rfl) (by rfl) (fun z => by cases z) (by decide)) (pda_cons (pd_lst (pda_cons pd_int (pda_cons (pd_lst (pda_cons pd_int pda_nil)) pda_nil))) pda_nil))))))))))) (pd_fn (ok_l_take T) hgd (hr.mono (by decide)) (by rfl) T.m_l_take T.F_l_take.kp (bn_l_take_2 T) (pda_cons (pd_var 0) (pda_cons pd_int pda_nil))) (fun _ _ => rfl))))
theorem ok_l_odd_answers (T : Txt K mg Ad0) : FnG P w K mg base CX0 2 Ad0.a_l_odd_answers Ad0.fd_l_odd_answers ["_law_pool_here"] (FnD K sem_l_odd_answers) :=
  fn_body T.F_l_odd_answers sc_l_odd_answers len_l_odd_answers (pb_l_odd_answers T) okd_l_odd_answers
theorem pb_l_told (T : Txt K mg Ad0) (cdv : Value) (A : Around) (outer : List Env) (s : Shared) (H : Hp) (E : XK) (hgd : A.guards = some []) (hr : Room 9 (A.deeper (PyProof.Rows.envOfC "_law_told" (defScope st_l_told) s.heap.objs.size Ad0.a_l_told cdv))) :
    PDB (cxOf CX0 P w K mg base ["_law_door", "_law_contract_here", "_law_cells", "_law_rooms", "_law_replies", "_law_error", "e"] "_law_told" (defScope st_l_told) Ad0.a_l_told cdv A outer s H E).nox (defBody st_l_told) den_l_told :=
  (pdb_cons (pds_set (i := 5) sc_l_told.nd rfl (by first | exact Or.inl rfl | exact Or.inr rfl) pd_non)
    (pdb_cons (pds_tryKeep (i := 6) (sub := subT_GateError) rfl rfl rfl sc_l_told.nd rfl rfl ⟨rfl, by decide, .inl T.g_GateError⟩ (sub_GateError T) (cl_GateError T) (fun pn xe po => (pdb_one (pds_if (pdt_cmp (opR_or op_eq (op_eqD hr.units)) opD_eq (pd_var 0) pd_int (nomark _)) (pdb_one (pds_exprX (pdx_makeK ⟨T.n_Runner, T.mk_Runner⟩ (ok_p_Runner___init__ T) hgd (hr.mono (by decide)) (by rfl) T.g_Runner (bn_p_Runner___init___3_given_shelves_answers T) (pda_cons (pd_lst (pda_cons (pd_tup (pda_cons pd_str pda_nil)) pda_nil)) (pda_cons (pd_var 1) pda_nil)) (pdk_cons (pd_var 2) (pdk_cons (pd_var 3) (pdk_cons (pd_var 4) pdk_nil)))))) (pdb_one (pds_exprX (pdx_fnK (ok_p_run T) hgd (hr.mono (by decide)) (by rfl) T.m_p_run T.F_p_run.kp (bn_p_run_2_answers_given_shelves T) (pda_cons (pd_lst (pda_cons (pd_tup (pda_cons pd_str (pda_cons pd_int (pda_cons pd_int pda_nil)))) (pda_cons (pd_tup (pda_cons pd_str pda_nil)) pda_nil))) (pda_cons (pd_var 1) pda_nil)) (pdk_cons (pd_var 4) (pdk_cons (pd_var 2) (pdk_cons (pd_var 3) pdk_nil))))))))) (fun a pn => (pdb_one (pds_set (i := 5) sc_l_told.nd rfl (by first | exact Or.inl rfl | exact Or.inr rfl) (pd_var 6)))))
    (pdb_cons (pds_if (pdt_isN (pd_var 5)) (pdb_one (pds_ret pd_str)) pdb_nil)
    (pdb_cons (pds_if (pdt_w (pdw_or (pdt_not (pdt_of (pd_isX (ob := isK_NoInput) (by rfl) T.b_isinstance (pd_var 5) (clsN_own (by rfl) T.g_NoInput) (isK_ok_NoInput T)))) (pdw_one_or (pdt_of (pd_isXn (ob := isKn_NoContract_NoProgram_NoText) (by rfl) T.b_isinstance (pd_var 5) (clsNs_cons (clsN_own (by rfl) T.g_NoContract) (clsNs_cons (clsN_own (by rfl) T.g_NoProgram) (clsNs_cons (clsN_own (by rfl) T.g_NoText) clsNs_nil))) (isKn_ok_NoContract_NoProgram_NoText T)))))) (pdb_one (pds_ret pd_str)) pdb_nil)
    (pdb_one (pds_ret (pd_xF (okx := fldT_part) (pd_var 5) (fld_ok_part T))))))))
theorem ok_l_told (T : Txt K mg Ad0) : FnG P w K mg base CX0 10 Ad0.a_l_told Ad0.fd_l_told ["_law_door", "_law_contract_here", "_law_cells", "_law_rooms", "_law_replies"] (FnD K sem_l_told) :=
  fn_body T.F_l_told sc_l_told len_l_told (pb_l_told T) okd_l_told
theorem pb_p_law (T : Txt K mg Ad0) (cdv : Value) (A : Around) (outer : List Env) (s : Shared) (H : Hp) (E : XK) (hgd : A.guards = some []) (hr : Room 10 (A.deeper (PyProof.Rows.envOfC "law" (defScope st_p_law) s.heap.objs.size Ad0.a_p_law cdv))) :
    PDB (cxOf CX0 P w K mg base ["_law_script", "_law_k", "_law_pool_here", "_law_size", "_law_contract_here", "_law_rooms", "_law_good", "_law_turn", "_law_some", "_law_due", "_law_at", "_law_odd", "_law_kept", "_law_door"] "law" (defScope st_p_law) Ad0.a_p_law cdv A outer s H E).nox (defBody st_p_law) den_p_law :=
  (pdb_cons (pds_for PassesOwn.never rfl (pdi_range1 (by rfl) T.b_range (pda_cons (pd_callB (call_max2 rfl) callD_max (by rfl) T.b_max (by decide +kernel) (pda_cons pd_int (pda_cons (pd_callB (call_min2 rfl) callD_min (by rfl) T.b_min (by decide +kernel) (pda_cons (pd_callB call_len3 callD_len (by rfl) T.b_len (by decide +kernel) (pda_cons (pd_var 0) pda_nil)) (pda_cons pd_int pda_nil))) pda_nil))) pda_nil)) (pdg_name (i := 1) sc_p_law.nd rfl (by first | exact Or.inl rfl | exact Or.inr rfl)) (pdb_cons (pds_set (i := 2) sc_p_law.nd rfl (by first | exact Or.inl rfl | exact Or.inr rfl) (pd_fn (ok_l_pool T) hgd (hr.mono (by decide)) (by rfl) T.m_l_pool T.F_l_pool.kp (bn_l_pool_2 T) (pda_cons (pd_var 0) (pda_cons (pd_var 1) pda_nil))))
    (pdb_cons (pds_set (i := 3) sc_p_law.nd rfl (by first | exact Or.inl rfl | exact Or.inr rfl) (pd_add pd_int (pd_fn (ok_l_take T) hgd (hr.mono (by decide)) (by rfl) T.m_l_take T.F_l_take.kp (bn_l_take_2 T) (pda_cons (pd_var 2) (pda_cons pd_int pda_nil)))))
    (pdb_cons (pds_par (ps_par rfl sc_p_law.nd (i := 4) (j := 5) rfl rfl (by decide) rfl rfl (pda_cons (pd_fn (ok_l_contract T) hgd (hr.mono (by decide)) (by rfl) T.m_l_contract T.F_l_contract.kp (bn_l_contract_1 T) (pda_cons (pd_var 3) pda_nil)) (pda_cons (pd_fn (ok_l_shelves T) hgd (hr.mono (by decide)) (by rfl) T.m_l_shelves T.F_l_shelves.kp (bn_l_shelves_2 T) (pda_cons (pd_var 2) (pda_cons (pd_var 3) pda_nil))) pda_nil)) (by rfl)))
    (pdb_cons (pds_set (i := 6) sc_p_law.nd rfl (by first | exact Or.inl rfl | exact Or.inr rfl) (pd_lst (pda_cons (pd_fn (ok_l_input T) hgd (hr.mono (by decide)) (by rfl) T.m_l_input T.F_l_input.kp (bn_l_input_1 T) (pda_cons (pd_var 2) pda_nil)) (pda_cons (pd_var 5) (pda_cons (pd_lst (pda_cons (pd_fn (ok_l_take T) hgd (hr.mono (by decide)) (by rfl) T.m_l_take T.F_l_take.kp (bn_l_take_2 T) (pda_cons (pd_var 2) (pda_cons pd_int pda_nil))) pda_nil)) pda_nil)))))
    (pdb_one (pds_for PassesOwn.never rfl (pdi_range1 (by rfl) T.b_range (pda_cons pd_int pda_nil)) (pdg_name (i := 7) sc_p_law.nd rfl (by first | exact Or.inl rfl | exact Or.inr rfl)) (pdb_cons (pds_set (i := 8) sc_p_law.nd rfl (by first | exact Or.inl rfl | exact Or.inr rfl) (pd_callTy call_list_of callD_lstOfC (by rfl) T.b_list (by decide +kernel) (pda_cons (pd_var 6) pda_nil)))
    (pdb_cons (pds_set (i := 9) sc_p_law.nd rfl (by first | exact Or.inl rfl | exact Or.inr rfl) pd_str)
    (pdb_cons (pds_for PassesOwn.never rfl (pdi_list (pd_lst (pda_cons pd_int (pda_cons pd_int (pda_cons pd_int pda_nil))))) (pdg_name (i := 10) sc_p_law.nd rfl (by first | exact Or.inl rfl | exact Or.inr rfl)) (pdb_one (pds_if (pdt_cmp (opR_or op_eq (op_eqD hr.units)) opD_eq (pd_fn (ok_l_take T) hgd (hr.mono (by decide)) (by rfl) T.m_l_take T.F_l_take.kp (bn_l_take_2 T) (pda_cons (pd_var 2) (pda_cons pd_int pda_nil))) pd_int (nomark _)) (pdb_cons (pds_set (i := 11) sc_p_law.nd rfl (by first | exact Or.inl rfl | exact Or.inr rfl) (pd_lst (pda_cons (pd_fn (ok_l_odd_input T) hgd (hr.mono (by decide)) (by rfl) T.m_l_odd_input T.F_l_odd_input.kp (bn_l_odd_input_1 T) (pda_cons (pd_var 2) pda_nil)) (pda_cons (pd_fn (ok_l_odd_rooms T) hgd (hr.mono (by decide)) (by rfl) T.m_l_odd_rooms T.F_l_odd_rooms.kp (bn_l_odd_rooms_3 T) (pda_cons (pd_var 2) (pda_cons (pd_var 5) (pda_cons (pd_var 3) pda_nil)))) (pda_cons (pd_fn (ok_l_odd_answers T) hgd (hr.mono (by decide)) (by rfl) T.m_l_odd_answers T.F_l_odd_answers.kp (bn_l_odd_answers_1 T) (pda_cons (pd_var 2) pda_nil)) pda_nil)))))
    (pdb_cons (pds_asg (pd_ix (hu_of hr) (pd_var 11) (pd_var 10) (fun _ _ => rfl)) (pdg_ix (pd_var 8) (pd_var 10)))
    (pdb_one (pds_set (i := 9) sc_p_law.nd rfl (by first | exact Or.inl rfl | exact Or.inr rfl) (pd_ix (hu_of hr) (pd_lst (pda_cons pd_str (pda_cons pd_str (pda_cons pd_str pda_nil)))) (pd_var 10) (fun _ _ => rfl)))))) pdb_nil)))
    (pdb_cons (pds_set (i := 12) sc_p_law.nd rfl (by first | exact Or.inl rfl | exact Or.inr rfl) (pd_callB (call_reprG hgd hr.units) callD_reprCG (by rfl) T.b_repr (by decide +kernel) (pda_cons (pd_var 8) pda_nil)))
    (pdb_one (pds_for PassesOwn.never rfl (pdi_range1 (by rfl) T.b_range (pda_cons pd_int pda_nil)) (pdg_name (i := 13) sc_p_law.nd rfl (by first | exact Or.inl rfl | exact Or.inr rfl)) (pdb_cons (pds_if (pdt_w (pdw_or (pdt_cmp (opR_or op_ne (op_neD hr.units)) opD_ne (pd_fn (ok_l_told T) hgd (hr.mono (by decide)) (by rfl) T.m_l_told T.F_l_told.kp (bn_l_told_5 T) (pda_cons (pd_var 13) (pda_cons (pd_var 4) (pda_cons (pd_ix (hu_of hr) (pd_var 8) pd_int (fun _ _ => rfl)) (pda_cons (pd_ix (hu_of hr) (pd_var 8) pd_int (fun _ _ => rfl)) (pda_cons (pd_ix (hu_of hr) (pd_var 8) pd_int (fun _ _ => rfl)) pda_nil)))))) (pd_var 9) (nomark _)) (pdw_one_or (pdt_cmp (opR_or op_ne (op_neD hr.units)) opD_ne (pd_callB (call_reprG hgd hr.units) callD_reprCG (by rfl) T.b_repr (by decide +kernel) (pda_cons (pd_var 8) pda_nil)) (pd_var 12) (nomark _))))) (pdb_one (pds_ret pd_bl)) pdb_nil)
    (pdb_one (pds_if (pdt_cmp (opR_or op_ne (op_neD hr.units)) opD_ne (pd_fn (ok_l_told T) hgd (hr.mono (by decide)) (by rfl) T.m_l_told T.F_l_told.kp (bn_l_told_5 T) (pda_cons (pd_var 13) (pda_cons (pd_var 4) (pda_cons (pd_ix (hu_of hr) (pd_var 6) pd_int (fun _ _ => rfl)) (pda_cons (pd_ix (hu_of hr) (pd_var 6) pd_int (fun _ _ => rfl)) (pda_cons (pd_ix (hu_of hr) (pd_var 6) pd_int (fun _ _ => rfl)) pda_nil)))))) pd_str (nomark _)) (pdb_one (pds_ret pd_bl)) pdb_nil))))))))))))))))
    (pdb_one (pds_ret (pd_eq hr.units (pd_fn (ok_l_told T) hgd (hr.mono (by decide)) (by rfl) T.m_l_told T.F_l_told.kp (bn_l_told_5 T) (pda_cons pd_int (pda_cons (pd_fn (ok_l_contract T) hgd (hr.mono (by decide)) (by rfl) T.m_l_contract T.F_l_contract.kp (bn_l_contract_1 T) (pda_cons pd_int pda_nil)) (pda_cons (pd_rep (pd_lst (pda_cons pd_int pda_nil)) pd_int) (pda_cons pd_non (pda_cons (pd_lst (pda_cons (pd_pow pd_int pd_int) (pda_cons (pd_neg (pd_pow pd_int pd_int)) pda_nil))) pda_nil)))))) pd_str))))
theorem ok_p_law (T : Txt K mg Ad0) : FnG P w K mg base CX0 11 Ad0.a_p_law Ad0.fd_p_law ["_law_script"] (FnD K sem_p_law) :=
  fn_body T.F_p_law sc_p_law len_p_law (pb_p_law T) okd_p_law
end
theorem all_mk {l : PySem.W.OpenLaw} {w : World} {K : PySem.W.Frag} {h : Heap} {mg : Str → Option Value} {fa : Addr} (X : K.In h) (G : h.Ns mainGlobals mg) (hfa : mg "law" = some (.ref fa))
    {x_Runner : Addr} (xg_Runner : PySem.W.nsIn K mainGlobals "Runner" = some (some (.ref x_Runner)))
    {f_p_is_whole : Addr} {od_p_is_whole an_p_is_whole : Option Addr} {sl_p_is_whole : Array (Option Value)} {oc_p_is_whole kV_p_is_whole dc_p_is_whole pm_p_is_whole cd_p_is_whole ct_p_is_whole : Value}
    {f_p_is_worth : Addr} {od_p_is_worth an_p_is_worth : Option Addr} {sl_p_is_worth : Array (Option Value)} {oc_p_is_worth dc_p_is_worth pm_p_is_worth cd_p_is_worth ct_p_is_worth : Value}
    {f_p_are_worths : Addr} {od_p_are_worths an_p_are_worths : Option Addr} {sl_p_are_worths : Array (Option Value)} {oc_p_are_worths kV_p_are_worths dc_p_are_worths pm_p_are_worths cd_p_are_worths ct_p_are_worths : Value}
    {f_p_are_rooms : Addr} {od_p_are_rooms an_p_are_rooms : Option Addr} {sl_p_are_rooms : Array (Option Value)} {oc_p_are_rooms kV_p_are_rooms dc_p_are_rooms pm_p_are_rooms cd_p_are_rooms ct_p_are_rooms : Value}
    {f_p_are_shelves : Addr} {od_p_are_shelves an_p_are_shelves : Option Addr} {sl_p_are_shelves : Array (Option Value)} {oc_p_are_shelves kV_p_are_shelves dc_p_are_shelves pm_p_are_shelves cd_p_are_shelves ct_p_are_shelves : Value}
    {f_p_copied : Addr} {od_p_copied an_p_copied : Option Addr} {sl_p_copied : Array (Option Value)} {oc_p_copied kV_p_copied dc_p_copied pm_p_copied cd_p_copied ct_p_copied : Value}
    {f_p_shelves_of : Addr} {od_p_shelves_of an_p_shelves_of : Option Addr} {sl_p_shelves_of : Array (Option Value)} {oc_p_shelves_of kV_p_shelves_of dc_p_shelves_of pm_p_shelves_of cd_p_shelves_of ct_p_shelves_of : Value}
    {f_p_look_at_given : Addr} {od_p_look_at_given an_p_look_at_given : Option Addr} {sl_p_look_at_given : Array (Option Value)} {oc_p_look_at_given kV_p_look_at_given dc_p_look_at_given pm_p_look_at_given cd_p_look_at_given ct_p_look_at_given : Value}
    {f_p_look_at_answers : Addr} {od_p_look_at_answers an_p_look_at_answers : Option Addr} {sl_p_look_at_answers : Array (Option Value)} {oc_p_look_at_answers kV_p_look_at_answers dc_p_look_at_answers pm_p_look_at_answers cd_p_look_at_answers ct_p_look_at_answers : Value}
    {f_p_Runner___init__ : Addr} {od_p_Runner___init__ an_p_Runner___init__ : Option Addr} {sl_p_Runner___init__ : Array (Option Value)} {oc_p_Runner___init__ dc_p_Runner___init__ pm_p_Runner___init__ cd_p_Runner___init__ ct_p_Runner___init__ : Value}
    {f_p_Runner_steps : Addr} {od_p_Runner_steps an_p_Runner_steps : Option Addr} {sl_p_Runner_steps : Array (Option Value)} {oc_p_Runner_steps kV_p_Runner_steps dc_p_Runner_steps pm_p_Runner_steps cd_p_Runner_steps ct_p_Runner_steps : Value}
    {f_p_Runner_told : Addr} {od_p_Runner_told an_p_Runner_told : Option Addr} {sl_p_Runner_told : Array (Option Value)} {oc_p_Runner_told kV_p_Runner_told dc_p_Runner_told pm_p_Runner_told cd_p_Runner_told ct_p_Runner_told : Value}
    {f_p_Runner_by_of : Addr} {od_p_Runner_by_of an_p_Runner_by_of : Option Addr} {sl_p_Runner_by_of : Array (Option Value)} {oc_p_Runner_by_of kV_p_Runner_by_of dc_p_Runner_by_of pm_p_Runner_by_of cd_p_Runner_by_of ct_p_Runner_by_of : Value}
    {f_p_Runner_box_of : Addr} {od_p_Runner_box_of an_p_Runner_box_of : Option Addr} {sl_p_Runner_box_of : Array (Option Value)} {oc_p_Runner_box_of kV_p_Runner_box_of dc_p_Runner_box_of pm_p_Runner_box_of cd_p_Runner_box_of ct_p_Runner_box_of : Value}
    {f_p_Runner_finish : Addr} {od_p_Runner_finish an_p_Runner_finish : Option Addr} {sl_p_Runner_finish : Array (Option Value)} {oc_p_Runner_finish kV_p_Runner_finish dc_p_Runner_finish pm_p_Runner_finish cd_p_Runner_finish ct_p_Runner_finish : Value}
    {f_p_Runner_do_row : Addr} {od_p_Runner_do_row an_p_Runner_do_row : Option Addr} {sl_p_Runner_do_row : Array (Option Value)} {oc_p_Runner_do_row kV_p_Runner_do_row dc_p_Runner_do_row pm_p_Runner_do_row cd_p_Runner_do_row ct_p_Runner_do_row : Value}
    {f_p_Runner_kept : Addr} {od_p_Runner_kept an_p_Runner_kept : Option Addr} {sl_p_Runner_kept : Array (Option Value)} {oc_p_Runner_kept kV_p_Runner_kept dc_p_Runner_kept pm_p_Runner_kept cd_p_Runner_kept ct_p_Runner_kept : Value}
    {f_p_Runner_step : Addr} {od_p_Runner_step an_p_Runner_step : Option Addr} {sl_p_Runner_step : Array (Option Value)} {oc_p_Runner_step kV_p_Runner_step dc_p_Runner_step pm_p_Runner_step cd_p_Runner_step ct_p_Runner_step : Value}
    {f_p_run : Addr} {od_p_run an_p_run : Option Addr} {sl_p_run : Array (Option Value)} {oc_p_run dc_p_run pm_p_run cd_p_run ct_p_run : Value}
    {f_l_pool : Addr} {od_l_pool an_l_pool : Option Addr} {sl_l_pool : Array (Option Value)} {oc_l_pool kV_l_pool dc_l_pool pm_l_pool cd_l_pool ct_l_pool : Value}
    {f_l_take : Addr} {od_l_take an_l_take : Option Addr} {sl_l_take : Array (Option Value)} {oc_l_take kV_l_take dc_l_take pm_l_take cd_l_take ct_l_take : Value}
    {f_l_number : Addr} {od_l_number an_l_number : Option Addr} {sl_l_number : Array (Option Value)} {oc_l_number kV_l_number dc_l_number pm_l_number cd_l_number ct_l_number : Value}
    {f_l_contract : Addr} {od_l_contract an_l_contract : Option Addr} {sl_l_contract : Array (Option Value)} {oc_l_contract kV_l_contract dc_l_contract pm_l_contract cd_l_contract ct_l_contract : Value}
    {f_l_shelves : Addr} {od_l_shelves an_l_shelves : Option Addr} {sl_l_shelves : Array (Option Value)} {oc_l_shelves kV_l_shelves dc_l_shelves pm_l_shelves cd_l_shelves ct_l_shelves : Value}
    {f_l_input : Addr} {od_l_input an_l_input : Option Addr} {sl_l_input : Array (Option Value)} {oc_l_input kV_l_input dc_l_input pm_l_input cd_l_input ct_l_input : Value}
    {f_l_odd_input : Addr} {od_l_odd_input an_l_odd_input : Option Addr} {sl_l_odd_input : Array (Option Value)} {oc_l_odd_input kV_l_odd_input dc_l_odd_input pm_l_odd_input cd_l_odd_input ct_l_odd_input : Value}
    {f_l_odd_rooms : Addr} {od_l_odd_rooms an_l_odd_rooms : Option Addr} {sl_l_odd_rooms : Array (Option Value)} {oc_l_odd_rooms kV_l_odd_rooms dc_l_odd_rooms pm_l_odd_rooms cd_l_odd_rooms ct_l_odd_rooms : Value}
    {f_l_odd_answers : Addr} {od_l_odd_answers an_l_odd_answers : Option Addr} {sl_l_odd_answers : Array (Option Value)} {oc_l_odd_answers kV_l_odd_answers dc_l_odd_answers pm_l_odd_answers cd_l_odd_answers ct_l_odd_answers : Value}
    {f_l_told : Addr} {od_l_told an_l_told : Option Addr} {sl_l_told : Array (Option Value)} {oc_l_told kV_l_told dc_l_told pm_l_told cd_l_told ct_l_told : Value}
    {f_p_law : Addr} {od_p_law an_p_law : Option Addr} {sl_p_law : Array (Option Value)} {oc_p_law kV_p_law dc_p_law pm_p_law cd_p_law ct_p_law : Value}
    (a_p_is_whole : PySem.W.nsIn K mainGlobals "is_whole" = some (some (.ref f_p_is_whole)))
    (l_p_is_whole : K.lookup f_p_is_whole = some ⟨oc_p_is_whole, od_p_is_whole, .func (PySem.W.fnOf "is_whole" "is_whole" (defArgs st_p_is_whole) (defBody st_p_is_whole) (defScope st_p_is_whole) .none kV_p_is_whole dc_p_is_whole pm_p_is_whole an_p_is_whole cd_p_is_whole ct_p_is_whole), sl_p_is_whole⟩)
    (c_p_is_whole : PySem.W.codeIn K cd_p_is_whole "is_whole" = true) (k_p_is_whole : PySem.W.keepIn K (.ref f_p_is_whole) = true)
    {kd_p_is_worth : Addr}
    (a_p_is_worth : PySem.W.nsIn K mainGlobals "is_worth" = some (some (.ref f_p_is_worth)))
    (l_p_is_worth : K.lookup f_p_is_worth = some ⟨oc_p_is_worth, od_p_is_worth, .func (PySem.W.fnOf "is_worth" "is_worth" (defArgs st_p_is_worth) (defBody st_p_is_worth) (defScope st_p_is_worth) .none (.ref kd_p_is_worth) dc_p_is_worth pm_p_is_worth an_p_is_worth cd_p_is_worth ct_p_is_worth), sl_p_is_worth⟩)
    (c_p_is_worth : PySem.W.codeIn K cd_p_is_worth "is_worth" = true) (k_p_is_worth : PySem.W.keepIn K (.ref f_p_is_worth) = true)
    {u_p_is_worth_wide : Value} (q_p_is_worth_wide : PySem.W.nsIn K kd_p_is_worth "wide" = some (some u_p_is_worth_wide)) (r_p_is_worth_wide : RelV (.int 16) u_p_is_worth_wide)
    (a_p_are_worths : PySem.W.nsIn K mainGlobals "are_worths" = some (some (.ref f_p_are_worths)))
    (l_p_are_worths : K.lookup f_p_are_worths = some ⟨oc_p_are_worths, od_p_are_worths, .func (PySem.W.fnOf "are_worths" "are_worths" (defArgs st_p_are_worths) (defBody st_p_are_worths) (defScope st_p_are_worths) .none kV_p_are_worths dc_p_are_worths pm_p_are_worths an_p_are_worths cd_p_are_worths ct_p_are_worths), sl_p_are_worths⟩)
    (c_p_are_worths : PySem.W.codeIn K cd_p_are_worths "are_worths" = true) (k_p_are_worths : PySem.W.keepIn K (.ref f_p_are_worths) = true)
    (a_p_are_rooms : PySem.W.nsIn K mainGlobals "are_rooms" = some (some (.ref f_p_are_rooms)))
    (l_p_are_rooms : K.lookup f_p_are_rooms = some ⟨oc_p_are_rooms, od_p_are_rooms, .func (PySem.W.fnOf "are_rooms" "are_rooms" (defArgs st_p_are_rooms) (defBody st_p_are_rooms) (defScope st_p_are_rooms) .none kV_p_are_rooms dc_p_are_rooms pm_p_are_rooms an_p_are_rooms cd_p_are_rooms ct_p_are_rooms), sl_p_are_rooms⟩)
    (c_p_are_rooms : PySem.W.codeIn K cd_p_are_rooms "are_rooms" = true) (k_p_are_rooms : PySem.W.keepIn K (.ref f_p_are_rooms) = true)
    (a_p_are_shelves : PySem.W.nsIn K mainGlobals "are_shelves" = some (some (.ref f_p_are_shelves)))
    (l_p_are_shelves : K.lookup f_p_are_shelves = some ⟨oc_p_are_shelves, od_p_are_shelves, .func (PySem.W.fnOf "are_shelves" "are_shelves" (defArgs st_p_are_shelves) (defBody st_p_are_shelves) (defScope st_p_are_shelves) .none kV_p_are_shelves dc_p_are_shelves pm_p_are_shelves an_p_are_shelves cd_p_are_shelves ct_p_are_shelves), sl_p_are_shelves⟩)
    (c_p_are_shelves : PySem.W.codeIn K cd_p_are_shelves "are_shelves" = true) (k_p_are_shelves : PySem.W.keepIn K (.ref f_p_are_shelves) = true)
    (a_p_copied : PySem.W.nsIn K mainGlobals "copied" = some (some (.ref f_p_copied)))
    (l_p_copied : K.lookup f_p_copied = some ⟨oc_p_copied, od_p_copied, .func (PySem.W.fnOf "copied" "copied" (defArgs st_p_copied) (defBody st_p_copied) (defScope st_p_copied) .none kV_p_copied dc_p_copied pm_p_copied an_p_copied cd_p_copied ct_p_copied), sl_p_copied⟩)
    (c_p_copied : PySem.W.codeIn K cd_p_copied "copied" = true) (k_p_copied : PySem.W.keepIn K (.ref f_p_copied) = true)
    (a_p_shelves_of : PySem.W.nsIn K mainGlobals "shelves_of" = some (some (.ref f_p_shelves_of)))
    (l_p_shelves_of : K.lookup f_p_shelves_of = some ⟨oc_p_shelves_of, od_p_shelves_of, .func (PySem.W.fnOf "shelves_of" "shelves_of" (defArgs st_p_shelves_of) (defBody st_p_shelves_of) (defScope st_p_shelves_of) .none kV_p_shelves_of dc_p_shelves_of pm_p_shelves_of an_p_shelves_of cd_p_shelves_of ct_p_shelves_of), sl_p_shelves_of⟩)
    (c_p_shelves_of : PySem.W.codeIn K cd_p_shelves_of "shelves_of" = true) (k_p_shelves_of : PySem.W.keepIn K (.ref f_p_shelves_of) = true)
    (a_p_look_at_given : PySem.W.nsIn K mainGlobals "look_at_given" = some (some (.ref f_p_look_at_given)))
    (l_p_look_at_given : K.lookup f_p_look_at_given = some ⟨oc_p_look_at_given, od_p_look_at_given, .func (PySem.W.fnOf "look_at_given" "look_at_given" (defArgs st_p_look_at_given) (defBody st_p_look_at_given) (defScope st_p_look_at_given) .none kV_p_look_at_given dc_p_look_at_given pm_p_look_at_given an_p_look_at_given cd_p_look_at_given ct_p_look_at_given), sl_p_look_at_given⟩)
    (c_p_look_at_given : PySem.W.codeIn K cd_p_look_at_given "look_at_given" = true) (k_p_look_at_given : PySem.W.keepIn K (.ref f_p_look_at_given) = true)
    (a_p_look_at_answers : PySem.W.nsIn K mainGlobals "look_at_answers" = some (some (.ref f_p_look_at_answers)))
    (l_p_look_at_answers : K.lookup f_p_look_at_answers = some ⟨oc_p_look_at_answers, od_p_look_at_answers, .func (PySem.W.fnOf "look_at_answers" "look_at_answers" (defArgs st_p_look_at_answers) (defBody st_p_look_at_answers) (defScope st_p_look_at_answers) .none kV_p_look_at_answers dc_p_look_at_answers pm_p_look_at_answers an_p_look_at_answers cd_p_look_at_answers ct_p_look_at_answers), sl_p_look_at_answers⟩)
    (c_p_look_at_answers : PySem.W.codeIn K cd_p_look_at_answers "look_at_answers" = true) (k_p_look_at_answers : PySem.W.keepIn K (.ref f_p_look_at_answers) = true)
    {kd_p_Runner___init__ : Addr}
    (a_p_Runner___init__ : PySem.W.findIn K (.ref x_Runner) "__init__" = some (some (.ref f_p_Runner___init__))) (ty_p_Runner___init__ : PySem.W.isFn K (.ref f_p_Runner___init__) = true)
    (l_p_Runner___init__ : K.lookup f_p_Runner___init__ = some ⟨oc_p_Runner___init__, od_p_Runner___init__, .func (PySem.W.fnOf "__init__" "Runner.__init__" (defArgs st_p_Runner___init__) (defBody st_p_Runner___init__) (defScope st_p_Runner___init__) .none (.ref kd_p_Runner___init__) dc_p_Runner___init__ pm_p_Runner___init__ an_p_Runner___init__ cd_p_Runner___init__ ct_p_Runner___init__), sl_p_Runner___init__⟩)
    (c_p_Runner___init__ : PySem.W.codeIn K cd_p_Runner___init__ "Runner.__init__" = true) (k_p_Runner___init__ : PySem.W.keepIn K (.ref f_p_Runner___init__) = true)
    {u_p_Runner___init___shelves : Value} (q_p_Runner___init___shelves : PySem.W.nsIn K kd_p_Runner___init__ "shelves" = some (some u_p_Runner___init___shelves)) (r_p_Runner___init___shelves : RelV (.non) u_p_Runner___init___shelves)
    (a_p_Runner_steps : PySem.W.findIn K (.ref x_Runner) "steps" = some (some (.ref f_p_Runner_steps))) (ty_p_Runner_steps : PySem.W.isFn K (.ref f_p_Runner_steps) = true)
    (l_p_Runner_steps : K.lookup f_p_Runner_steps = some ⟨oc_p_Runner_steps, od_p_Runner_steps, .func (PySem.W.fnOf "steps" "Runner.steps" (defArgs st_p_Runner_steps) (defBody st_p_Runner_steps) (defScope st_p_Runner_steps) .none kV_p_Runner_steps dc_p_Runner_steps pm_p_Runner_steps an_p_Runner_steps cd_p_Runner_steps ct_p_Runner_steps), sl_p_Runner_steps⟩)
    (c_p_Runner_steps : PySem.W.codeIn K cd_p_Runner_steps "Runner.steps" = true) (k_p_Runner_steps : PySem.W.keepIn K (.ref f_p_Runner_steps) = true)
    (a_p_Runner_told : PySem.W.findIn K (.ref x_Runner) "told" = some (some (.ref f_p_Runner_told))) (ty_p_Runner_told : PySem.W.isFn K (.ref f_p_Runner_told) = true)
    (l_p_Runner_told : K.lookup f_p_Runner_told = some ⟨oc_p_Runner_told, od_p_Runner_told, .func (PySem.W.fnOf "told" "Runner.told" (defArgs st_p_Runner_told) (defBody st_p_Runner_told) (defScope st_p_Runner_told) .none kV_p_Runner_told dc_p_Runner_told pm_p_Runner_told an_p_Runner_told cd_p_Runner_told ct_p_Runner_told), sl_p_Runner_told⟩)
    (c_p_Runner_told : PySem.W.codeIn K cd_p_Runner_told "Runner.told" = true) (k_p_Runner_told : PySem.W.keepIn K (.ref f_p_Runner_told) = true)
    (a_p_Runner_by_of : PySem.W.findIn K (.ref x_Runner) "by_of" = some (some (.ref f_p_Runner_by_of))) (ty_p_Runner_by_of : PySem.W.isFn K (.ref f_p_Runner_by_of) = true)
    (l_p_Runner_by_of : K.lookup f_p_Runner_by_of = some ⟨oc_p_Runner_by_of, od_p_Runner_by_of, .func (PySem.W.fnOf "by_of" "Runner.by_of" (defArgs st_p_Runner_by_of) (defBody st_p_Runner_by_of) (defScope st_p_Runner_by_of) .none kV_p_Runner_by_of dc_p_Runner_by_of pm_p_Runner_by_of an_p_Runner_by_of cd_p_Runner_by_of ct_p_Runner_by_of), sl_p_Runner_by_of⟩)
    (c_p_Runner_by_of : PySem.W.codeIn K cd_p_Runner_by_of "Runner.by_of" = true) (k_p_Runner_by_of : PySem.W.keepIn K (.ref f_p_Runner_by_of) = true)
    (a_p_Runner_box_of : PySem.W.findIn K (.ref x_Runner) "box_of" = some (some (.ref f_p_Runner_box_of))) (ty_p_Runner_box_of : PySem.W.isFn K (.ref f_p_Runner_box_of) = true)
    (l_p_Runner_box_of : K.lookup f_p_Runner_box_of = some ⟨oc_p_Runner_box_of, od_p_Runner_box_of, .func (PySem.W.fnOf "box_of" "Runner.box_of" (defArgs st_p_Runner_box_of) (defBody st_p_Runner_box_of) (defScope st_p_Runner_box_of) .none kV_p_Runner_box_of dc_p_Runner_box_of pm_p_Runner_box_of an_p_Runner_box_of cd_p_Runner_box_of ct_p_Runner_box_of), sl_p_Runner_box_of⟩)
    (c_p_Runner_box_of : PySem.W.codeIn K cd_p_Runner_box_of "Runner.box_of" = true) (k_p_Runner_box_of : PySem.W.keepIn K (.ref f_p_Runner_box_of) = true)
    (a_p_Runner_finish : PySem.W.findIn K (.ref x_Runner) "finish" = some (some (.ref f_p_Runner_finish))) (ty_p_Runner_finish : PySem.W.isFn K (.ref f_p_Runner_finish) = true)
    (l_p_Runner_finish : K.lookup f_p_Runner_finish = some ⟨oc_p_Runner_finish, od_p_Runner_finish, .func (PySem.W.fnOf "finish" "Runner.finish" (defArgs st_p_Runner_finish) (defBody st_p_Runner_finish) (defScope st_p_Runner_finish) .none kV_p_Runner_finish dc_p_Runner_finish pm_p_Runner_finish an_p_Runner_finish cd_p_Runner_finish ct_p_Runner_finish), sl_p_Runner_finish⟩)
    (c_p_Runner_finish : PySem.W.codeIn K cd_p_Runner_finish "Runner.finish" = true) (k_p_Runner_finish : PySem.W.keepIn K (.ref f_p_Runner_finish) = true)
    (a_p_Runner_do_row : PySem.W.findIn K (.ref x_Runner) "do_row" = some (some (.ref f_p_Runner_do_row))) (ty_p_Runner_do_row : PySem.W.isFn K (.ref f_p_Runner_do_row) = true)
    (l_p_Runner_do_row : K.lookup f_p_Runner_do_row = some ⟨oc_p_Runner_do_row, od_p_Runner_do_row, .func (PySem.W.fnOf "do_row" "Runner.do_row" (defArgs st_p_Runner_do_row) (defBody st_p_Runner_do_row) (defScope st_p_Runner_do_row) .none kV_p_Runner_do_row dc_p_Runner_do_row pm_p_Runner_do_row an_p_Runner_do_row cd_p_Runner_do_row ct_p_Runner_do_row), sl_p_Runner_do_row⟩)
    (c_p_Runner_do_row : PySem.W.codeIn K cd_p_Runner_do_row "Runner.do_row" = true) (k_p_Runner_do_row : PySem.W.keepIn K (.ref f_p_Runner_do_row) = true)
    (a_p_Runner_kept : PySem.W.findIn K (.ref x_Runner) "kept" = some (some (.ref f_p_Runner_kept))) (ty_p_Runner_kept : PySem.W.isFn K (.ref f_p_Runner_kept) = true)
    (l_p_Runner_kept : K.lookup f_p_Runner_kept = some ⟨oc_p_Runner_kept, od_p_Runner_kept, .func (PySem.W.fnOf "kept" "Runner.kept" (defArgs st_p_Runner_kept) (defBody st_p_Runner_kept) (defScope st_p_Runner_kept) .none kV_p_Runner_kept dc_p_Runner_kept pm_p_Runner_kept an_p_Runner_kept cd_p_Runner_kept ct_p_Runner_kept), sl_p_Runner_kept⟩)
    (c_p_Runner_kept : PySem.W.codeIn K cd_p_Runner_kept "Runner.kept" = true) (k_p_Runner_kept : PySem.W.keepIn K (.ref f_p_Runner_kept) = true)
    (a_p_Runner_step : PySem.W.findIn K (.ref x_Runner) "step" = some (some (.ref f_p_Runner_step))) (ty_p_Runner_step : PySem.W.isFn K (.ref f_p_Runner_step) = true)
    (l_p_Runner_step : K.lookup f_p_Runner_step = some ⟨oc_p_Runner_step, od_p_Runner_step, .func (PySem.W.fnOf "step" "Runner.step" (defArgs st_p_Runner_step) (defBody st_p_Runner_step) (defScope st_p_Runner_step) .none kV_p_Runner_step dc_p_Runner_step pm_p_Runner_step an_p_Runner_step cd_p_Runner_step ct_p_Runner_step), sl_p_Runner_step⟩)
    (c_p_Runner_step : PySem.W.codeIn K cd_p_Runner_step "Runner.step" = true) (k_p_Runner_step : PySem.W.keepIn K (.ref f_p_Runner_step) = true)
    {kd_p_run : Addr}
    (a_p_run : PySem.W.nsIn K mainGlobals "run" = some (some (.ref f_p_run)))
    (l_p_run : K.lookup f_p_run = some ⟨oc_p_run, od_p_run, .func (PySem.W.fnOf "run" "run" (defArgs st_p_run) (defBody st_p_run) (defScope st_p_run) .none (.ref kd_p_run) dc_p_run pm_p_run an_p_run cd_p_run ct_p_run), sl_p_run⟩)
    (c_p_run : PySem.W.codeIn K cd_p_run "run" = true) (k_p_run : PySem.W.keepIn K (.ref f_p_run) = true)
    {u_p_run_shelves : Value} (q_p_run_shelves : PySem.W.nsIn K kd_p_run "shelves" = some (some u_p_run_shelves)) (r_p_run_shelves : RelV (.non) u_p_run_shelves)
    {u_p_run_most : Value} (q_p_run_most : PySem.W.nsIn K kd_p_run "most" = some (some u_p_run_most)) (r_p_run_most : RelV (.int 1000) u_p_run_most)
    (a_l_pool : PySem.W.nsIn K mainGlobals "_law_pool" = some (some (.ref f_l_pool)))
    (l_l_pool : K.lookup f_l_pool = some ⟨oc_l_pool, od_l_pool, .func (PySem.W.fnOf "_law_pool" "_law_pool" (defArgs st_l_pool) (defBody st_l_pool) (defScope st_l_pool) .none kV_l_pool dc_l_pool pm_l_pool an_l_pool cd_l_pool ct_l_pool), sl_l_pool⟩)
    (c_l_pool : PySem.W.codeIn K cd_l_pool "_law_pool" = true) (k_l_pool : PySem.W.keepIn K (.ref f_l_pool) = true)
    (a_l_take : PySem.W.nsIn K mainGlobals "_law_take" = some (some (.ref f_l_take)))
    (l_l_take : K.lookup f_l_take = some ⟨oc_l_take, od_l_take, .func (PySem.W.fnOf "_law_take" "_law_take" (defArgs st_l_take) (defBody st_l_take) (defScope st_l_take) .none kV_l_take dc_l_take pm_l_take an_l_take cd_l_take ct_l_take), sl_l_take⟩)
    (c_l_take : PySem.W.codeIn K cd_l_take "_law_take" = true) (k_l_take : PySem.W.keepIn K (.ref f_l_take) = true)
    (a_l_number : PySem.W.nsIn K mainGlobals "_law_number" = some (some (.ref f_l_number)))
    (l_l_number : K.lookup f_l_number = some ⟨oc_l_number, od_l_number, .func (PySem.W.fnOf "_law_number" "_law_number" (defArgs st_l_number) (defBody st_l_number) (defScope st_l_number) .none kV_l_number dc_l_number pm_l_number an_l_number cd_l_number ct_l_number), sl_l_number⟩)
    (c_l_number : PySem.W.codeIn K cd_l_number "_law_number" = true) (k_l_number : PySem.W.keepIn K (.ref f_l_number) = true)
    (a_l_contract : PySem.W.nsIn K mainGlobals "_law_contract" = some (some (.ref f_l_contract)))
    (l_l_contract : K.lookup f_l_contract = some ⟨oc_l_contract, od_l_contract, .func (PySem.W.fnOf "_law_contract" "_law_contract" (defArgs st_l_contract) (defBody st_l_contract) (defScope st_l_contract) .none kV_l_contract dc_l_contract pm_l_contract an_l_contract cd_l_contract ct_l_contract), sl_l_contract⟩)
    (c_l_contract : PySem.W.codeIn K cd_l_contract "_law_contract" = true) (k_l_contract : PySem.W.keepIn K (.ref f_l_contract) = true)
    (a_l_shelves : PySem.W.nsIn K mainGlobals "_law_shelves" = some (some (.ref f_l_shelves)))
    (l_l_shelves : K.lookup f_l_shelves = some ⟨oc_l_shelves, od_l_shelves, .func (PySem.W.fnOf "_law_shelves" "_law_shelves" (defArgs st_l_shelves) (defBody st_l_shelves) (defScope st_l_shelves) .none kV_l_shelves dc_l_shelves pm_l_shelves an_l_shelves cd_l_shelves ct_l_shelves), sl_l_shelves⟩)
    (c_l_shelves : PySem.W.codeIn K cd_l_shelves "_law_shelves" = true) (k_l_shelves : PySem.W.keepIn K (.ref f_l_shelves) = true)
    (a_l_input : PySem.W.nsIn K mainGlobals "_law_input" = some (some (.ref f_l_input)))
    (l_l_input : K.lookup f_l_input = some ⟨oc_l_input, od_l_input, .func (PySem.W.fnOf "_law_input" "_law_input" (defArgs st_l_input) (defBody st_l_input) (defScope st_l_input) .none kV_l_input dc_l_input pm_l_input an_l_input cd_l_input ct_l_input), sl_l_input⟩)
    (c_l_input : PySem.W.codeIn K cd_l_input "_law_input" = true) (k_l_input : PySem.W.keepIn K (.ref f_l_input) = true)
    (a_l_odd_input : PySem.W.nsIn K mainGlobals "_law_odd_input" = some (some (.ref f_l_odd_input)))
    (l_l_odd_input : K.lookup f_l_odd_input = some ⟨oc_l_odd_input, od_l_odd_input, .func (PySem.W.fnOf "_law_odd_input" "_law_odd_input" (defArgs st_l_odd_input) (defBody st_l_odd_input) (defScope st_l_odd_input) .none kV_l_odd_input dc_l_odd_input pm_l_odd_input an_l_odd_input cd_l_odd_input ct_l_odd_input), sl_l_odd_input⟩)
    (c_l_odd_input : PySem.W.codeIn K cd_l_odd_input "_law_odd_input" = true) (k_l_odd_input : PySem.W.keepIn K (.ref f_l_odd_input) = true)
    (a_l_odd_rooms : PySem.W.nsIn K mainGlobals "_law_odd_rooms" = some (some (.ref f_l_odd_rooms)))
    (l_l_odd_rooms : K.lookup f_l_odd_rooms = some ⟨oc_l_odd_rooms, od_l_odd_rooms, .func (PySem.W.fnOf "_law_odd_rooms" "_law_odd_rooms" (defArgs st_l_odd_rooms) (defBody st_l_odd_rooms) (defScope st_l_odd_rooms) .none kV_l_odd_rooms dc_l_odd_rooms pm_l_odd_rooms an_l_odd_rooms cd_l_odd_rooms ct_l_odd_rooms), sl_l_odd_rooms⟩)
    (c_l_odd_rooms : PySem.W.codeIn K cd_l_odd_rooms "_law_odd_rooms" = true) (k_l_odd_rooms : PySem.W.keepIn K (.ref f_l_odd_rooms) = true)
    (a_l_odd_answers : PySem.W.nsIn K mainGlobals "_law_odd_answers" = some (some (.ref f_l_odd_answers)))
    (l_l_odd_answers : K.lookup f_l_odd_answers = some ⟨oc_l_odd_answers, od_l_odd_answers, .func (PySem.W.fnOf "_law_odd_answers" "_law_odd_answers" (defArgs st_l_odd_answers) (defBody st_l_odd_answers) (defScope st_l_odd_answers) .none kV_l_odd_answers dc_l_odd_answers pm_l_odd_answers an_l_odd_answers cd_l_odd_answers ct_l_odd_answers), sl_l_odd_answers⟩)
    (c_l_odd_answers : PySem.W.codeIn K cd_l_odd_answers "_law_odd_answers" = true) (k_l_odd_answers : PySem.W.keepIn K (.ref f_l_odd_answers) = true)
    (a_l_told : PySem.W.nsIn K mainGlobals "_law_told" = some (some (.ref f_l_told)))
    (l_l_told : K.lookup f_l_told = some ⟨oc_l_told, od_l_told, .func (PySem.W.fnOf "_law_told" "_law_told" (defArgs st_l_told) (defBody st_l_told) (defScope st_l_told) .none kV_l_told dc_l_told pm_l_told an_l_told cd_l_told ct_l_told), sl_l_told⟩)
    (c_l_told : PySem.W.codeIn K cd_l_told "_law_told" = true) (k_l_told : PySem.W.keepIn K (.ref f_l_told) = true)
    (a_p_law : PySem.W.nsIn K mainGlobals "law" = some (some (.ref f_p_law)))
    (l_p_law : K.lookup f_p_law = some ⟨oc_p_law, od_p_law, .func (PySem.W.fnOf "law" "law" (defArgs st_p_law) (defBody st_p_law) (defScope st_p_law) .none kV_p_law dc_p_law pm_p_law an_p_law cd_p_law ct_p_law), sl_p_law⟩)
    (c_p_law : PySem.W.codeIn K cd_p_law "law" = true) (k_p_law : PySem.W.keepIn K (.ref f_p_law) = true)
    (z_abs : PySem.W.nsIn K mainGlobals "abs" = some none)
    (z_all : PySem.W.nsIn K mainGlobals "all" = some none)
    (z_bool : PySem.W.nsIn K mainGlobals "bool" = some none)
    (z_dict : PySem.W.nsIn K mainGlobals "dict" = some none)
    (z_int : PySem.W.nsIn K mainGlobals "int" = some none)
    (z_isinstance : PySem.W.nsIn K mainGlobals "isinstance" = some none)
    (z_len : PySem.W.nsIn K mainGlobals "len" = some none)
    (z_list : PySem.W.nsIn K mainGlobals "list" = some none)
    (z_max : PySem.W.nsIn K mainGlobals "max" = some none)
    (z_min : PySem.W.nsIn K mainGlobals "min" = some none)
    (z_range : PySem.W.nsIn K mainGlobals "range" = some none)
    (z_repr : PySem.W.nsIn K mainGlobals "repr" = some none)
    (z_sum : PySem.W.nsIn K mainGlobals "sum" = some none)
    (z_tuple : PySem.W.nsIn K mainGlobals "tuple" = some none)
    {x_Fault : Addr} (xg_Fault : PySem.W.nsIn K mainGlobals "Fault" = some (some (.ref x_Fault)))
    {x_GateError : Addr} (xg_GateError : PySem.W.nsIn K mainGlobals "GateError" = some (some (.ref x_GateError)))
    {x_NoCall : Addr} (xg_NoCall : PySem.W.nsIn K mainGlobals "NoCall" = some (some (.ref x_NoCall)))
    {x_NoContract : Addr} (xg_NoContract : PySem.W.nsIn K mainGlobals "NoContract" = some (some (.ref x_NoContract)))
    {x_NoInput : Addr} (xg_NoInput : PySem.W.nsIn K mainGlobals "NoInput" = some (some (.ref x_NoInput)))
    {x_NoProgram : Addr} (xg_NoProgram : PySem.W.nsIn K mainGlobals "NoProgram" = some (some (.ref x_NoProgram)))
    {x_NoText : Addr} (xg_NoText : PySem.W.nsIn K mainGlobals "NoText" = some (some (.ref x_NoText)))
    (pg_Runner : PySem.W.plainGet K x_Runner Str.empty = true) (hd_Runner : PySem.W.hasDictIn K x_Runner = true) (po_Runner : PySem.W.plainOver K x_Runner = true) (sa_Runner : PySem.W.findIn K (.ref x_Runner) "__setattr__" = some (some (.builtin "object.__setattr__")))
    (mk_Runner : PySem.W.makesIn K x_Runner = true) (kc_Runner : PySem.W.keepIn K (.ref x_Runner) = true)
    (no_Runner_asks_many : PySem.W.findIn K (.ref x_Runner) "asks_many" = some none)
    (no_Runner_at_row : PySem.W.findIn K (.ref x_Runner) "at_row" = some none)
    (no_Runner_lent_keys : PySem.W.findIn K (.ref x_Runner) "lent_keys" = some none)
    (no_Runner_own_answers : PySem.W.findIn K (.ref x_Runner) "own_answers" = some none)
    (no_Runner_own_boxes : PySem.W.findIn K (.ref x_Runner) "own_boxes" = some none)
    (no_Runner_own_contract : PySem.W.findIn K (.ref x_Runner) "own_contract" = some none)
    (no_Runner_own_end : PySem.W.findIn K (.ref x_Runner) "own_end" = some none)
    (no_Runner_own_given : PySem.W.findIn K (.ref x_Runner) "own_given" = some none)
    (no_Runner_own_pile : PySem.W.findIn K (.ref x_Runner) "own_pile" = some none)
    (no_Runner_own_program : PySem.W.findIn K (.ref x_Runner) "own_program" = some none)
    (no_Runner_past : PySem.W.findIn K (.ref x_Runner) "past" = some none)
    (no_Runner_rooms : PySem.W.findIn K (.ref x_Runner) "rooms" = some none)
    (no_Runner_rows_done : PySem.W.findIn K (.ref x_Runner) "rows_done" = some none)
    (no_Runner_used : PySem.W.findIn K (.ref x_Runner) "used" = some none)
    {j_NoInput : Addr} {jo_NoInput ja_NoInput : Option Addr} {js_NoInput : Array (Option Value)} {jc_NoInput jk_NoInput jd_NoInput jp_NoInput jv_NoInput jt_NoInput : Value}
    (ji_NoInput : PySem.W.findIn K (.ref x_NoInput) "__init__" = some (some (.ref j_NoInput)))
    (jl_NoInput : K.lookup j_NoInput = some ⟨jc_NoInput, jo_NoInput, .func (PySem.W.fnOf "__init__" "NoInput.__init__" (defArgs sti_NoInput) (defBody sti_NoInput) (defScope sti_NoInput) .none jk_NoInput jd_NoInput jp_NoInput ja_NoInput jv_NoInput jt_NoInput), js_NoInput⟩)
    (jq_NoInput : PySem.W.codeIn K jv_NoInput "NoInput.__init__" = true) (jw_NoInput : PySem.W.keepIn K (.ref j_NoInput) = true) (jy_NoInput : PySem.W.typeIn K (.ref j_NoInput) = some (.type "function"))
    {on_NoInput oq_NoInput : Str} {oN_NoInput : Addr} {ob_NoInput om_NoInput : List Value} {os_NoInput : List Str} {ou_NoInput : List Value} {oa_NoInput : Bool} {oc_NoInput : Option Bool} {od_NoInput : Option Addr} {o0_NoInput o1_NoInput o2_NoInput o3_NoInput o5_NoInput : Option Value}
    (ol_NoInput : K.lookup x_NoInput = some (excClassObj on_NoInput oq_NoInput x_NoInput oN_NoInput ob_NoInput om_NoInput true os_NoInput ou_NoInput oa_NoInput oc_NoInput od_NoInput o0_NoInput o1_NoInput o2_NoInput o3_NoInput o5_NoInput "ValueError.__new__")) (or_NoInput : PySem.HandSPX.refsVE om_NoInput = true) (ox_NoInput : PySem.W.findIn K (.ref x_NoInput) "__setattr__" = some (some (.builtin "object.__setattr__")))
    (nf_NoInput_part : PySem.W.findIn K (.ref x_NoInput) "part" = some none)
    (cr_GateError : PySem.W.readsIn K x_GateError (.type "type") = true) (cs_GateError : PySem.W.specialIn K (.ref x_GateError) "__getattribute__" = some (some (.builtin "type.__getattribute__"))) (cf_GateError : PySem.W.findCls K (.ref x_GateError) (.type "type") "__init__" = some (.val (.builtin "ValueError.__init__")))
    (xk_NoInput : PySem.W.keepIn K (.ref x_NoInput) = true) (xb_NoInput : PySem.W.subIn K (.ref x_NoInput) (.type "BaseException") = some true) (xt_NoInput : PySem.W.typeIn K (.ref x_NoInput) = some (.type "type"))
    (ya_NoInput : PySem.W.findIn K (.ref x_NoInput) "__getattribute__" = some (some (.builtin "BaseException.__getattribute__"))) (yb_NoInput : PySem.W.findIn K (.ref x_NoInput) "__getattr__" = some none) (yd_NoInput : PySem.W.hasDictIn K x_NoInput = true) (ye_NoInput : PySem.W.findIn K (.ref x_NoInput) "__class__" = some (some (.builtin "object.__class__"))) (yf_NoInput : PySem.W.specialIn K (.builtin "object.__class__") "__get__" = some (some (.builtin "getset_descriptor.__get__"))) (yg_NoInput : PySem.W.takesIn K (.builtin "object.__class__") = some true) (yh_NoInput : PySem.W.mroIn K x_NoInput (.type "object") = some true)
    (h_NoInput_GateError : PySem.W.exmOne K (.ref x_NoInput) (.ref x_GateError) = some true)
    (h_NoInput_NoCall : PySem.W.exmOne K (.ref x_NoInput) (.ref x_NoCall) = some false)
    (i_NoInput_NoContract_NoProgram_NoText : PySem.W.kitAny K (.ref x_NoInput) [(.ref x_NoContract), (.ref x_NoProgram), (.ref x_NoText)] = some false)
    (i_NoInput_NoInput : PySem.W.kitOne K (.ref x_NoInput) (.ref x_NoInput) = some true)
    {t_BOXES : Tok} (y_BOXES : PySem.W.nsIn K mainGlobals "BOXES" = some (some (.int 6 t_BOXES)))
    {t_MOST_GIVEN : Tok} (y_MOST_GIVEN : PySem.W.nsIn K mainGlobals "MOST_GIVEN" = some (some (.int 16 t_MOST_GIVEN)))
    {t_PILE : Tok} (y_PILE : PySem.W.nsIn K mainGlobals "PILE" = some (some (.int 8 t_PILE))) :
    ∃ fd : FuncData, (∀ (s : Shared) (v : Value), BindsTo s fd ⟨[v], []⟩ [("_law_script", v)]) ∧ ∀ base : Heap, K.In base → base.Ns mainGlobals mg → FnG l.prog w K mg base CX0 11 fa fd ["_law_script"] (FnD K sem_p_law) := by
  have e := hfa.symm.trans (PySem.W.mg_of X G a_p_law)
  cases e
  have T : Txt K mg ⟨f_p_is_whole, _, f_p_is_worth, _, f_p_are_worths, _, f_p_are_rooms, _, f_p_are_shelves, _, f_p_copied, _, f_p_shelves_of, _, f_p_look_at_given, _, f_p_look_at_answers, _, f_p_Runner___init__, _, f_p_Runner_steps, _, f_p_Runner_told, _, f_p_Runner_by_of, _, f_p_Runner_box_of, _, f_p_Runner_finish, _, f_p_Runner_do_row, _, f_p_Runner_kept, _, f_p_Runner_step, _, f_p_run, _, f_l_pool, _, f_l_take, _, f_l_number, _, f_l_contract, _, f_l_shelves, _, f_l_input, _, f_l_odd_input, _, f_l_odd_rooms, _, f_l_odd_answers, _, f_l_told, _, fa, _, x_Fault, x_GateError, x_NoCall, x_NoContract, x_NoInput, x_NoProgram, x_NoText, x_Runner, j_NoInput, _⟩ :=
    ⟨⟨⟨oc_p_is_whole, od_p_is_whole, _, _, dc_p_is_whole, pm_p_is_whole, an_p_is_whole, cd_p_is_whole, ct_p_is_whole, sl_p_is_whole, rfl, l_p_is_whole, c_p_is_whole, .inl ⟨rfl, rfl⟩, .inl rfl⟩, k_p_is_whole⟩,
     PySem.W.mg_of X G a_p_is_whole,
     ⟨⟨oc_p_is_worth, od_p_is_worth, _, _, dc_p_is_worth, pm_p_is_worth, an_p_is_worth, cd_p_is_worth, ct_p_is_worth, sl_p_is_worth, rfl, l_p_is_worth, c_p_is_worth, .inl ⟨rfl, rfl⟩, .inr ⟨_, rfl, fun q hq => by
      cases List.mem_singleton.mp hq
      exact ⟨_, q_p_is_worth_wide, r_p_is_worth_wide⟩⟩⟩, k_p_is_worth⟩,
     PySem.W.mg_of X G a_p_is_worth,
     ⟨⟨oc_p_are_worths, od_p_are_worths, _, _, dc_p_are_worths, pm_p_are_worths, an_p_are_worths, cd_p_are_worths, ct_p_are_worths, sl_p_are_worths, rfl, l_p_are_worths, c_p_are_worths, .inl ⟨rfl, rfl⟩, .inl rfl⟩, k_p_are_worths⟩,
     PySem.W.mg_of X G a_p_are_worths,
     ⟨⟨oc_p_are_rooms, od_p_are_rooms, _, _, dc_p_are_rooms, pm_p_are_rooms, an_p_are_rooms, cd_p_are_rooms, ct_p_are_rooms, sl_p_are_rooms, rfl, l_p_are_rooms, c_p_are_rooms, .inl ⟨rfl, rfl⟩, .inl rfl⟩, k_p_are_rooms⟩,
     PySem.W.mg_of X G a_p_are_rooms,
     ⟨⟨oc_p_are_shelves, od_p_are_shelves, _, _, dc_p_are_shelves, pm_p_are_shelves, an_p_are_shelves, cd_p_are_shelves, ct_p_are_shelves, sl_p_are_shelves, rfl, l_p_are_shelves, c_p_are_shelves, .inl ⟨rfl, rfl⟩, .inl rfl⟩, k_p_are_shelves⟩,
     PySem.W.mg_of X G a_p_are_shelves,
     ⟨⟨oc_p_copied, od_p_copied, _, _, dc_p_copied, pm_p_copied, an_p_copied, cd_p_copied, ct_p_copied, sl_p_copied, rfl, l_p_copied, c_p_copied, .inl ⟨rfl, rfl⟩, .inl rfl⟩, k_p_copied⟩,
     PySem.W.mg_of X G a_p_copied,
     ⟨⟨oc_p_shelves_of, od_p_shelves_of, _, _, dc_p_shelves_of, pm_p_shelves_of, an_p_shelves_of, cd_p_shelves_of, ct_p_shelves_of, sl_p_shelves_of, rfl, l_p_shelves_of, c_p_shelves_of, .inl ⟨rfl, rfl⟩, .inl rfl⟩, k_p_shelves_of⟩,
     PySem.W.mg_of X G a_p_shelves_of,
     ⟨⟨oc_p_look_at_given, od_p_look_at_given, _, _, dc_p_look_at_given, pm_p_look_at_given, an_p_look_at_given, cd_p_look_at_given, ct_p_look_at_given, sl_p_look_at_given, rfl, l_p_look_at_given, c_p_look_at_given, .inl ⟨rfl, rfl⟩, .inl rfl⟩, k_p_look_at_given⟩,
     PySem.W.mg_of X G a_p_look_at_given,
     ⟨⟨oc_p_look_at_answers, od_p_look_at_answers, _, _, dc_p_look_at_answers, pm_p_look_at_answers, an_p_look_at_answers, cd_p_look_at_answers, ct_p_look_at_answers, sl_p_look_at_answers, rfl, l_p_look_at_answers, c_p_look_at_answers, .inl ⟨rfl, rfl⟩, .inl rfl⟩, k_p_look_at_answers⟩,
     PySem.W.mg_of X G a_p_look_at_answers,
     ⟨⟨oc_p_Runner___init__, od_p_Runner___init__, _, _, dc_p_Runner___init__, pm_p_Runner___init__, an_p_Runner___init__, cd_p_Runner___init__, ct_p_Runner___init__, sl_p_Runner___init__, rfl, l_p_Runner___init__, c_p_Runner___init__, .inl ⟨rfl, rfl⟩, .inr ⟨_, rfl, fun q hq => by
      cases List.mem_singleton.mp hq
      exact ⟨_, q_p_Runner___init___shelves, r_p_Runner___init___shelves⟩⟩⟩, k_p_Runner___init__⟩,
     ⟨⟨oc_p_Runner_steps, od_p_Runner_steps, _, _, dc_p_Runner_steps, pm_p_Runner_steps, an_p_Runner_steps, cd_p_Runner_steps, ct_p_Runner_steps, sl_p_Runner_steps, rfl, l_p_Runner_steps, c_p_Runner_steps, .inl ⟨rfl, rfl⟩, .inl rfl⟩, k_p_Runner_steps⟩,
     ⟨⟨oc_p_Runner_told, od_p_Runner_told, _, _, dc_p_Runner_told, pm_p_Runner_told, an_p_Runner_told, cd_p_Runner_told, ct_p_Runner_told, sl_p_Runner_told, rfl, l_p_Runner_told, c_p_Runner_told, .inl ⟨rfl, rfl⟩, .inl rfl⟩, k_p_Runner_told⟩,
     ⟨⟨oc_p_Runner_by_of, od_p_Runner_by_of, _, _, dc_p_Runner_by_of, pm_p_Runner_by_of, an_p_Runner_by_of, cd_p_Runner_by_of, ct_p_Runner_by_of, sl_p_Runner_by_of, rfl, l_p_Runner_by_of, c_p_Runner_by_of, .inl ⟨rfl, rfl⟩, .inl rfl⟩, k_p_Runner_by_of⟩,
     ⟨⟨oc_p_Runner_box_of, od_p_Runner_box_of, _, _, dc_p_Runner_box_of, pm_p_Runner_box_of, an_p_Runner_box_of, cd_p_Runner_box_of, ct_p_Runner_box_of, sl_p_Runner_box_of, rfl, l_p_Runner_box_of, c_p_Runner_box_of, .inl ⟨rfl, rfl⟩, .inl rfl⟩, k_p_Runner_box_of⟩,
     ⟨⟨oc_p_Runner_finish, od_p_Runner_finish, _, _, dc_p_Runner_finish, pm_p_Runner_finish, an_p_Runner_finish, cd_p_Runner_finish, ct_p_Runner_finish, sl_p_Runner_finish, rfl, l_p_Runner_finish, c_p_Runner_finish, .inl ⟨rfl, rfl⟩, .inl rfl⟩, k_p_Runner_finish⟩,
     ⟨⟨oc_p_Runner_do_row, od_p_Runner_do_row, _, _, dc_p_Runner_do_row, pm_p_Runner_do_row, an_p_Runner_do_row, cd_p_Runner_do_row, ct_p_Runner_do_row, sl_p_Runner_do_row, rfl, l_p_Runner_do_row, c_p_Runner_do_row, .inl ⟨rfl, rfl⟩, .inl rfl⟩, k_p_Runner_do_row⟩,
     ⟨⟨oc_p_Runner_kept, od_p_Runner_kept, _, _, dc_p_Runner_kept, pm_p_Runner_kept, an_p_Runner_kept, cd_p_Runner_kept, ct_p_Runner_kept, sl_p_Runner_kept, rfl, l_p_Runner_kept, c_p_Runner_kept, .inl ⟨rfl, rfl⟩, .inl rfl⟩, k_p_Runner_kept⟩,
     ⟨⟨oc_p_Runner_step, od_p_Runner_step, _, _, dc_p_Runner_step, pm_p_Runner_step, an_p_Runner_step, cd_p_Runner_step, ct_p_Runner_step, sl_p_Runner_step, rfl, l_p_Runner_step, c_p_Runner_step, .inl ⟨rfl, rfl⟩, .inl rfl⟩, k_p_Runner_step⟩,
     ⟨⟨oc_p_run, od_p_run, _, _, dc_p_run, pm_p_run, an_p_run, cd_p_run, ct_p_run, sl_p_run, rfl, l_p_run, c_p_run, .inl ⟨rfl, rfl⟩, .inr ⟨_, rfl, fun q hq => by
      simp only [List.mem_cons, List.not_mem_nil, or_false] at hq
      rcases hq with rfl | rfl
      · exact ⟨_, q_p_run_shelves, r_p_run_shelves⟩
      · exact ⟨_, q_p_run_most, r_p_run_most⟩⟩⟩, k_p_run⟩,
     PySem.W.mg_of X G a_p_run,
     ⟨⟨oc_l_pool, od_l_pool, _, _, dc_l_pool, pm_l_pool, an_l_pool, cd_l_pool, ct_l_pool, sl_l_pool, rfl, l_l_pool, c_l_pool, .inl ⟨rfl, rfl⟩, .inl rfl⟩, k_l_pool⟩,
     PySem.W.mg_of X G a_l_pool,
     ⟨⟨oc_l_take, od_l_take, _, _, dc_l_take, pm_l_take, an_l_take, cd_l_take, ct_l_take, sl_l_take, rfl, l_l_take, c_l_take, .inl ⟨rfl, rfl⟩, .inl rfl⟩, k_l_take⟩,
     PySem.W.mg_of X G a_l_take,
     ⟨⟨oc_l_number, od_l_number, _, _, dc_l_number, pm_l_number, an_l_number, cd_l_number, ct_l_number, sl_l_number, rfl, l_l_number, c_l_number, .inl ⟨rfl, rfl⟩, .inl rfl⟩, k_l_number⟩,
     PySem.W.mg_of X G a_l_number,
     ⟨⟨oc_l_contract, od_l_contract, _, _, dc_l_contract, pm_l_contract, an_l_contract, cd_l_contract, ct_l_contract, sl_l_contract, rfl, l_l_contract, c_l_contract, .inl ⟨rfl, rfl⟩, .inl rfl⟩, k_l_contract⟩,
     PySem.W.mg_of X G a_l_contract,
     ⟨⟨oc_l_shelves, od_l_shelves, _, _, dc_l_shelves, pm_l_shelves, an_l_shelves, cd_l_shelves, ct_l_shelves, sl_l_shelves, rfl, l_l_shelves, c_l_shelves, .inl ⟨rfl, rfl⟩, .inl rfl⟩, k_l_shelves⟩,
     PySem.W.mg_of X G a_l_shelves,
     ⟨⟨oc_l_input, od_l_input, _, _, dc_l_input, pm_l_input, an_l_input, cd_l_input, ct_l_input, sl_l_input, rfl, l_l_input, c_l_input, .inl ⟨rfl, rfl⟩, .inl rfl⟩, k_l_input⟩,
     PySem.W.mg_of X G a_l_input,
     ⟨⟨oc_l_odd_input, od_l_odd_input, _, _, dc_l_odd_input, pm_l_odd_input, an_l_odd_input, cd_l_odd_input, ct_l_odd_input, sl_l_odd_input, rfl, l_l_odd_input, c_l_odd_input, .inl ⟨rfl, rfl⟩, .inl rfl⟩, k_l_odd_input⟩,
     PySem.W.mg_of X G a_l_odd_input,
     ⟨⟨oc_l_odd_rooms, od_l_odd_rooms, _, _, dc_l_odd_rooms, pm_l_odd_rooms, an_l_odd_rooms, cd_l_odd_rooms, ct_l_odd_rooms, sl_l_odd_rooms, rfl, l_l_odd_rooms, c_l_odd_rooms, .inl ⟨rfl, rfl⟩, .inl rfl⟩, k_l_odd_rooms⟩,
     PySem.W.mg_of X G a_l_odd_rooms,
     ⟨⟨oc_l_odd_answers, od_l_odd_answers, _, _, dc_l_odd_answers, pm_l_odd_answers, an_l_odd_answers, cd_l_odd_answers, ct_l_odd_answers, sl_l_odd_answers, rfl, l_l_odd_answers, c_l_odd_answers, .inl ⟨rfl, rfl⟩, .inl rfl⟩, k_l_odd_answers⟩,
     PySem.W.mg_of X G a_l_odd_answers,
     ⟨⟨oc_l_told, od_l_told, _, _, dc_l_told, pm_l_told, an_l_told, cd_l_told, ct_l_told, sl_l_told, rfl, l_l_told, c_l_told, .inl ⟨rfl, rfl⟩, .inl rfl⟩, k_l_told⟩,
     PySem.W.mg_of X G a_l_told,
     ⟨⟨oc_p_law, od_p_law, _, _, dc_p_law, pm_p_law, an_p_law, cd_p_law, ct_p_law, sl_p_law, rfl, l_p_law, c_p_law, .inl ⟨rfl, rfl⟩, .inl rfl⟩, k_p_law⟩,
     PySem.W.mg_of X G a_p_law,
     ⟨pg_Runner, hd_Runner, po_Runner, sa_Runner⟩,
     ⟨mk_Runner, a_p_Runner___init__, ty_p_Runner___init__, kc_Runner⟩,
     ⟨a_p_Runner_box_of, ty_p_Runner_box_of, k_p_Runner_box_of⟩,
     ⟨a_p_Runner_by_of, ty_p_Runner_by_of, k_p_Runner_by_of⟩,
     ⟨a_p_Runner_do_row, ty_p_Runner_do_row, k_p_Runner_do_row⟩,
     ⟨a_p_Runner_finish, ty_p_Runner_finish, k_p_Runner_finish⟩,
     ⟨a_p_Runner_kept, ty_p_Runner_kept, k_p_Runner_kept⟩,
     ⟨a_p_Runner_step, ty_p_Runner_step, k_p_Runner_step⟩,
     ⟨a_p_Runner_steps, ty_p_Runner_steps, k_p_Runner_steps⟩,
     ⟨a_p_Runner_told, ty_p_Runner_told, k_p_Runner_told⟩,
     no_Runner_asks_many,
     no_Runner_at_row,
     no_Runner_lent_keys,
     no_Runner_own_answers,
     no_Runner_own_boxes,
     no_Runner_own_contract,
     no_Runner_own_end,
     no_Runner_own_given,
     no_Runner_own_pile,
     no_Runner_own_program,
     no_Runner_past,
     no_Runner_rooms,
     no_Runner_rows_done,
     no_Runner_used,
     PySem.W.mg_none_of X G z_abs,
     PySem.W.mg_none_of X G z_all,
     PySem.W.mg_none_of X G z_bool,
     PySem.W.mg_none_of X G z_dict,
     PySem.W.mg_none_of X G z_int,
     PySem.W.mg_none_of X G z_isinstance,
     PySem.W.mg_none_of X G z_len,
     PySem.W.mg_none_of X G z_list,
     PySem.W.mg_none_of X G z_max,
     PySem.W.mg_none_of X G z_min,
     PySem.W.mg_none_of X G z_range,
     PySem.W.mg_none_of X G z_repr,
     PySem.W.mg_none_of X G z_sum,
     PySem.W.mg_none_of X G z_tuple,
     PySem.W.mg_of X G xg_Fault,
     xg_Fault,
     PySem.W.mg_of X G xg_GateError,
     xg_GateError,
     PySem.W.mg_of X G xg_NoCall,
     xg_NoCall,
     PySem.W.mg_of X G xg_NoContract,
     xg_NoContract,
     PySem.W.mg_of X G xg_NoInput,
     xg_NoInput,
     PySem.W.mg_of X G xg_NoProgram,
     xg_NoProgram,
     PySem.W.mg_of X G xg_NoText,
     xg_NoText,
     PySem.W.mg_of X G xg_Runner,
     xg_Runner,
     ⟨ya_NoInput, yb_NoInput, xb_NoInput, yd_NoInput, ye_NoInput, yf_NoInput, yg_NoInput, yh_NoInput⟩,
     ⟨⟨jc_NoInput, jo_NoInput, _, _, jd_NoInput, jp_NoInput, ja_NoInput, jv_NoInput, jt_NoInput, js_NoInput, rfl, jl_NoInput, jq_NoInput, .inl ⟨rfl, rfl⟩, .inl rfl⟩, jw_NoInput⟩,
     ji_NoInput,
     jy_NoInput,
     ⟨⟨_, _, _, _, _, _, _, _, _, _, _, _, _, _, _, ol_NoInput, or_NoInput⟩, ox_NoInput, xb_NoInput, xt_NoInput, xk_NoInput⟩,
     nf_NoInput_part,
     ⟨ya_NoInput, yb_NoInput, xb_NoInput, yd_NoInput⟩,
     ⟨cr_GateError, cs_GateError, cf_GateError⟩,
     h_NoInput_GateError,
     h_NoInput_NoCall,
     i_NoInput_NoContract_NoProgram_NoText,
     i_NoInput_NoInput,
     ⟨_, PySem.W.mg_of X G y_BOXES⟩,
     ⟨_, PySem.W.mg_of X G y_MOST_GIVEN⟩,
     ⟨_, PySem.W.mg_of X G y_PILE⟩⟩
  exact ⟨_, fun s v => .of_eq rfl, fun base _ _ => ok_p_law T⟩
end My
set_option maxRecDepth 100000 in
set_option maxHeartbeats 0 in
theorem PySem.Challenge.cw_boundgate_k35_no_inputs_holds : PySem.Challenge.rw_boundgate_k35_no_inputs.Holds := by
  w_on; o_law; k_head; (case hw => w_witness2)
  k_fill
  refine DL.walk_end (l := PySem.Challenge.rw_boundgate_k35_no_inputs) (k := 11) (x := "_law_script") (sem := My.sem_p_law) rfl rfl ⟨rfl, by decide, by decide⟩ (fun w h Y => PySem.W.kIn_of Y) ?F My.end_law
  case F =>
    intro w mg fa h KX G hmg
    refine' My.all_mk KX G hmg ?xg_Runner ?a_p_is_whole ?l_p_is_whole ?c_p_is_whole ?k_p_is_whole ?a_p_is_worth ?l_p_is_worth ?c_p_is_worth ?k_p_is_worth ?q_p_is_worth_wide ?r_p_is_worth_wide ?a_p_are_worths ?l_p_are_worths ?c_p_are_worths ?k_p_are_worths ?a_p_are_rooms ?l_p_are_rooms ?c_p_are_rooms ?k_p_are_rooms ?a_p_are_shelves ?l_p_are_shelves ?c_p_are_shelves ?k_p_are_shelves ?a_p_copied ?l_p_copied ?c_p_copied ?k_p_copied ?a_p_shelves_of ?l_p_shelves_of ?c_p_shelves_of ?k_p_shelves_of ?a_p_look_at_given ?l_p_look_at_given ?c_p_look_at_given ?k_p_look_at_given ?a_p_look_at_answers ?l_p_look_at_answers ?c_p_look_at_answers ?k_p_look_at_answers ?a_p_Runner___init__ ?ty_p_Runner___init__ ?l_p_Runner___init__ ?c_p_Runner___init__ ?k_p_Runner___init__ ?q_p_Runner___init___shelves ?r_p_Runner___init___shelves ?a_p_Runner_steps ?ty_p_Runner_steps ?l_p_Runner_steps ?c_p_Runner_steps ?k_p_Runner_steps ?a_p_Runner_told ?ty_p_Runner_told ?l_p_Runner_told ?c_p_Runner_told ?k_p_Runner_told ?a_p_Runner_by_of ?ty_p_Runner_by_of ?l_p_Runner_by_of ?c_p_Runner_by_of ?k_p_Runner_by_of ?a_p_Runner_box_of ?ty_p_Runner_box_of ?l_p_Runner_box_of ?c_p_Runner_box_of ?k_p_Runner_box_of ?a_p_Runner_finish ?ty_p_Runner_finish ?l_p_Runner_finish ?c_p_Runner_finish ?k_p_Runner_finish ?a_p_Runner_do_row ?ty_p_Runner_do_row ?l_p_Runner_do_row ?c_p_Runner_do_row ?k_p_Runner_do_row ?a_p_Runner_kept ?ty_p_Runner_kept ?l_p_Runner_kept ?c_p_Runner_kept ?k_p_Runner_kept ?a_p_Runner_step ?ty_p_Runner_step ?l_p_Runner_step ?c_p_Runner_step ?k_p_Runner_step ?a_p_run ?l_p_run ?c_p_run ?k_p_run ?q_p_run_shelves ?r_p_run_shelves ?q_p_run_most ?r_p_run_most ?a_l_pool ?l_l_pool ?c_l_pool ?k_l_pool ?a_l_take ?l_l_take ?c_l_take ?k_l_take ?a_l_number ?l_l_number ?c_l_number ?k_l_number ?a_l_contract ?l_l_contract ?c_l_contract ?k_l_contract ?a_l_shelves ?l_l_shelves ?c_l_shelves ?k_l_shelves ?a_l_input ?l_l_input ?c_l_input ?k_l_input ?a_l_odd_input ?l_l_odd_input ?c_l_odd_input ?k_l_odd_input ?a_l_odd_rooms ?l_l_odd_rooms ?c_l_odd_rooms ?k_l_odd_rooms ?a_l_odd_answers ?l_l_odd_answers ?c_l_odd_answers ?k_l_odd_answers ?a_l_told ?l_l_told ?c_l_told ?k_l_told ?a_p_law ?l_p_law ?c_p_law ?k_p_law ?z_abs ?z_all ?z_bool ?z_dict ?z_int ?z_isinstance ?z_len ?z_list ?z_max ?z_min ?z_range ?z_repr ?z_sum ?z_tuple ?xg_Fault ?xg_GateError ?xg_NoCall ?xg_NoContract ?xg_NoInput ?xg_NoProgram ?xg_NoText ?pg_Runner ?hd_Runner ?po_Runner ?sa_Runner ?mk_Runner ?kc_Runner ?no_Runner_asks_many ?no_Runner_at_row ?no_Runner_lent_keys ?no_Runner_own_answers ?no_Runner_own_boxes ?no_Runner_own_contract ?no_Runner_own_end ?no_Runner_own_given ?no_Runner_own_pile ?no_Runner_own_program ?no_Runner_past ?no_Runner_rooms ?no_Runner_rows_done ?no_Runner_used ?ji_NoInput ?jl_NoInput ?jq_NoInput ?jw_NoInput ?jy_NoInput ?ol_NoInput ?or_NoInput ?ox_NoInput ?nf_NoInput_part ?cr_GateError ?cs_GateError ?cf_GateError ?xk_NoInput ?xb_NoInput ?xt_NoInput ?ya_NoInput ?yb_NoInput ?yd_NoInput ?ye_NoInput ?yf_NoInput ?yg_NoInput ?yh_NoInput ?h_NoInput_GateError ?h_NoInput_NoCall ?i_NoInput_NoContract_NoProgram_NoText ?i_NoInput_NoInput ?y_BOXES ?y_MOST_GIVEN ?y_PILE
    (case xg_Runner => k_is)
    (case a_p_is_whole => k_is)
    (case l_p_is_whole => k_is)
    (case c_p_is_whole => k_is)
    (case k_p_is_whole => k_is)
    (case a_p_is_worth => k_is)
    (case l_p_is_worth => k_is)
    (case c_p_is_worth => k_is)
    (case k_p_is_worth => k_is)
    (case q_p_is_worth_wide => k_is)
    (case r_p_is_worth_wide => first | exact ⟨_, rfl⟩ | exact rfl)
    (case a_p_are_worths => k_is)
    (case l_p_are_worths => k_is)
    (case c_p_are_worths => k_is)
    (case k_p_are_worths => k_is)
    (case a_p_are_rooms => k_is)
    (case l_p_are_rooms => k_is)
    (case c_p_are_rooms => k_is)
    (case k_p_are_rooms => k_is)
    (case a_p_are_shelves => k_is)
    (case l_p_are_shelves => k_is)
    (case c_p_are_shelves => k_is)
    (case k_p_are_shelves => k_is)
    (case a_p_copied => k_is)
    (case l_p_copied => k_is)
    (case c_p_copied => k_is)
    (case k_p_copied => k_is)
    (case a_p_shelves_of => k_is)
    (case l_p_shelves_of => k_is)
    (case c_p_shelves_of => k_is)
    (case k_p_shelves_of => k_is)
    (case a_p_look_at_given => k_is)
    (case l_p_look_at_given => k_is)
    (case c_p_look_at_given => k_is)
    (case k_p_look_at_given => k_is)
    (case a_p_look_at_answers => k_is)
    (case l_p_look_at_answers => k_is)
    (case c_p_look_at_answers => k_is)
    (case k_p_look_at_answers => k_is)
    (case a_p_Runner___init__ => k_is)
    (case ty_p_Runner___init__ => k_is)
    (case l_p_Runner___init__ => k_is)
    (case c_p_Runner___init__ => k_is)
    (case k_p_Runner___init__ => k_is)
    (case q_p_Runner___init___shelves => k_is)
    (case r_p_Runner___init___shelves => first | exact ⟨_, rfl⟩ | exact rfl)
    (case a_p_Runner_steps => k_is)
    (case ty_p_Runner_steps => k_is)
    (case l_p_Runner_steps => k_is)
    (case c_p_Runner_steps => k_is)
    (case k_p_Runner_steps => k_is)
    (case a_p_Runner_told => k_is)
    (case ty_p_Runner_told => k_is)
    (case l_p_Runner_told => k_is)
    (case c_p_Runner_told => k_is)
    (case k_p_Runner_told => k_is)
    (case a_p_Runner_by_of => k_is)
    (case ty_p_Runner_by_of => k_is)
    (case l_p_Runner_by_of => k_is)
    (case c_p_Runner_by_of => k_is)
    (case k_p_Runner_by_of => k_is)
    (case a_p_Runner_box_of => k_is)
    (case ty_p_Runner_box_of => k_is)
    (case l_p_Runner_box_of => k_is)
    (case c_p_Runner_box_of => k_is)
    (case k_p_Runner_box_of => k_is)
    (case a_p_Runner_finish => k_is)
    (case ty_p_Runner_finish => k_is)
    (case l_p_Runner_finish => k_is)
    (case c_p_Runner_finish => k_is)
    (case k_p_Runner_finish => k_is)
    (case a_p_Runner_do_row => k_is)
    (case ty_p_Runner_do_row => k_is)
    (case l_p_Runner_do_row => k_is)
    (case c_p_Runner_do_row => k_is)
    (case k_p_Runner_do_row => k_is)
    (case a_p_Runner_kept => k_is)
    (case ty_p_Runner_kept => k_is)
    (case l_p_Runner_kept => k_is)
    (case c_p_Runner_kept => k_is)
    (case k_p_Runner_kept => k_is)
    (case a_p_Runner_step => k_is)
    (case ty_p_Runner_step => k_is)
    (case l_p_Runner_step => k_is)
    (case c_p_Runner_step => k_is)
    (case k_p_Runner_step => k_is)
    (case a_p_run => k_is)
    (case l_p_run => k_is)
    (case c_p_run => k_is)
    (case k_p_run => k_is)
    (case q_p_run_shelves => k_is)
    (case r_p_run_shelves => first | exact ⟨_, rfl⟩ | exact rfl)
    (case q_p_run_most => k_is)
    (case r_p_run_most => first | exact ⟨_, rfl⟩ | exact rfl)
    (case a_l_pool => k_is)
    (case l_l_pool => k_is)
    (case c_l_pool => k_is)
    (case k_l_pool => k_is)
    (case a_l_take => k_is)
    (case l_l_take => k_is)
    (case c_l_take => k_is)
    (case k_l_take => k_is)
    (case a_l_number => k_is)
    (case l_l_number => k_is)
    (case c_l_number => k_is)
    (case k_l_number => k_is)
    (case a_l_contract => k_is)
    (case l_l_contract => k_is)
    (case c_l_contract => k_is)
    (case k_l_contract => k_is)
    (case a_l_shelves => k_is)
    (case l_l_shelves => k_is)
    (case c_l_shelves => k_is)
    (case k_l_shelves => k_is)
    (case a_l_input => k_is)
    (case l_l_input => k_is)
    (case c_l_input => k_is)
    (case k_l_input => k_is)
    (case a_l_odd_input => k_is)
    (case l_l_odd_input => k_is)
    (case c_l_odd_input => k_is)
    (case k_l_odd_input => k_is)
    (case a_l_odd_rooms => k_is)
    (case l_l_odd_rooms => k_is)
    (case c_l_odd_rooms => k_is)
    (case k_l_odd_rooms => k_is)
    (case a_l_odd_answers => k_is)
    (case l_l_odd_answers => k_is)
    (case c_l_odd_answers => k_is)
    (case k_l_odd_answers => k_is)
    (case a_l_told => k_is)
    (case l_l_told => k_is)
    (case c_l_told => k_is)
    (case k_l_told => k_is)
    (case a_p_law => k_is)
    (case l_p_law => k_is)
    (case c_p_law => k_is)
    (case k_p_law => k_is)
    (case z_abs => k_is)
    (case z_all => k_is)
    (case z_bool => k_is)
    (case z_dict => k_is)
    (case z_int => k_is)
    (case z_isinstance => k_is)
    (case z_len => k_is)
    (case z_list => k_is)
    (case z_max => k_is)
    (case z_min => k_is)
    (case z_range => k_is)
    (case z_repr => k_is)
    (case z_sum => k_is)
    (case z_tuple => k_is)
    (case xg_Fault => k_is)
    (case xg_GateError => k_is)
    (case xg_NoCall => k_is)
    (case xg_NoContract => k_is)
    (case xg_NoInput => k_is)
    (case xg_NoProgram => k_is)
    (case xg_NoText => k_is)
    (case pg_Runner => k_is)
    (case hd_Runner => k_is)
    (case po_Runner => k_is)
    (case sa_Runner => k_is)
    (case mk_Runner => k_is)
    (case kc_Runner => k_is)
    (case no_Runner_asks_many => k_is)
    (case no_Runner_at_row => k_is)
    (case no_Runner_lent_keys => k_is)
    (case no_Runner_own_answers => k_is)
    (case no_Runner_own_boxes => k_is)
    (case no_Runner_own_contract => k_is)
    (case no_Runner_own_end => k_is)
    (case no_Runner_own_given => k_is)
    (case no_Runner_own_pile => k_is)
    (case no_Runner_own_program => k_is)
    (case no_Runner_past => k_is)
    (case no_Runner_rooms => k_is)
    (case no_Runner_rows_done => k_is)
    (case no_Runner_used => k_is)
    (case ji_NoInput => k_is)
    (case jl_NoInput => k_is)
    (case jq_NoInput => k_is)
    (case jw_NoInput => k_is)
    (case jy_NoInput => k_is)
    (case ol_NoInput => first | k_is | exact rfl)
    (case or_NoInput => first | exact rfl | decide)
    (case ox_NoInput => k_is)
    (case nf_NoInput_part => k_is)
    (case cr_GateError => first | k_is | exact rfl | decide +kernel)
    (case cs_GateError => k_is)
    (case cf_GateError => k_is)
    (case xk_NoInput => k_is)
    (case xb_NoInput => k_is)
    (case xt_NoInput => k_is)
    (case ya_NoInput => k_is)
    (case yb_NoInput => k_is)
    (case yd_NoInput => k_is)
    (case ye_NoInput => k_is)
    (case yf_NoInput => k_is)
    (case yg_NoInput => k_is)
    (case yh_NoInput => k_is)
    (case h_NoInput_GateError => kts_exm)
    (case h_NoInput_NoCall => kts_exm)
    (case i_NoInput_NoContract_NoProgram_NoText => kit_is)
    (case i_NoInput_NoInput => kit_is)
    (case y_BOXES => k_is)
    (case y_MOST_GIVEN => k_is)
    (case y_PILE => k_is)
