import PyProof.Rows.All
import Wide.All
import OpenK.AllK
import Wide.FinOn
import HandS.ForMost
import HandS.ForExc
import HandS.Wide
import HandS.Flow
import HandS.Defaults
import PyProof.ReprRoads
import HandS.IsInst
import HandS.RaiseMore
import PyProof.ReprLen
import HandS.ExcIs
import PyProof.EqKinds
import HandS.Style
import HandS.SetFor
import HandS.WideBits
import HandS.SortInts
import HandS.TryOnly
import KE.KExcIs
import HandS.ExcField
import KE.KRevSl
import HandS.Small
import HandS.Conv
import HandS.TupAny
import KE.GoesEnum
import HandS.Strs
import HandS.Zip
import HandS.ListItems
import KE.KDictZip
import HandS.More
import PyProof.Rows.StrMeet
import HandS.Deep
import HandS.DictComp
import KE.KEqNest
import HandS.ListEq
import PyProof.NeKinds
import KE.DataMinMax
import KE.KUnpackStar
import HandS.ExcValue
import HandS.Text
import HandS.ExcInit
import HandS.SetBool
import KE.GoesZip
import HandS.FStr
import HandS.TupMul
import PyProof.Rows.FactsExc_KeyError
import PyProof.ExcBaseAll.LookupError
import HandS.Dict
import HandS.SortRule
import PyProof.Rows.FactsExc_LookupError
import PySem.Challenge.RW_boundgate_k05_refusals_apart
set_option Elab.async false
set_option autoImplicit false
set_option linter.all false
set_option maxRecDepth 100000
set_option maxHeartbeats 4000000
namespace DL
open PySem L2

/-- a name of the module that stands for a class, or a def -/
def ClsK (K : PySem.W.Frag) (n : Str) (C : Addr) : Prop := PySem.W.nsIn K mainGlobals n = some (some (.ref C))
/-! ### plain data -/
inductive D where
  | non | bl (b : Bool) | int (i : Int) | str (s : Str)
  | lst (ds : List D) | slst (ds : List D) | tup (ds : List D) | dic (kvs : List (Key × D))
  | ref (a : Addr) | ty (n : String) | cel (k : Nat) | fn (f : Str)

abbrev AsM := Nat → Option Addr

mutual
inductive Rp (K : PySem.W.Frag) (as : AsM) (H : Hp) : V → D → Prop
  | non : Rp K as H .non .non
  | bl (b : Bool) : Rp K as H (.bl b) (.bl b)
  | int (i : Int) : Rp K as H (.int i) (.int i)
  | str (x : Str) : Rp K as H (.str x) (.str x)
  | lst {a : Addr} {xs : List V} {ds : List D} : H a = some (.lst xs) → RpA K as H xs ds → Rp K as H (.ref a) (.lst ds)
  | slst {a : Addr} {xs : List V} {ds : List D} : SqL K H a xs → RpA K as H xs ds → Rp K as H (.ref a) (.slst ds)
  | tup {a : Addr} {xs : List V} {ds : List D} : SqT K H a xs → RpA K as H xs ds → Rp K as H (.ref a) (.tup ds)
  | dic {a : Addr} {xs : List (Key × V)} {ds : List (Key × D)} : H a = some (.dK xs) → RpK K as H xs ds → Rp K as H (.ref a) (.dic ds)
  | ref (a : Addr) : Rp K as H (.ref a) (.ref a)
  | ty (n : String) : Rp K as H (.ty n) (.ty n)
  | cel {k : Nat} {p : Addr} : as k = some p → Rp K as H (.ref p) (.cel k)
  | fn {f : Str} {p : Addr} : ClsK K f p → Rp K as H (.ref p) (.fn f)
inductive RpA (K : PySem.W.Frag) (as : AsM) (H : Hp) : List V → List D → Prop
  | nil : RpA K as H [] []
  | cons {v : V} {vs : List V} {d : D} {ds : List D} : Rp K as H v d → RpA K as H vs ds → RpA K as H (v :: vs) (d :: ds)
inductive RpK (K : PySem.W.Frag) (as : AsM) (H : Hp) : List (Key × V) → List (Key × D) → Prop
  | nil : RpK K as H [] []
  | cons {k : Key} {v : V} {vs : List (Key × V)} {d : D} {ds : List (Key × D)} : Rp K as H v d → RpK K as H vs ds → RpK K as H ((k, v) :: vs) ((k, d) :: ds)
end

structure Le (as : AsM) (H : Hp) (as' : AsM) (H' : Hp) : Prop where
  hp : ∀ a o, H a = some o → H' a = some o
  am : ∀ k p, as k = some p → as' k = some p
theorem Le.refl {as : AsM} {H : Hp} : Le as H as H := ⟨fun _ _ h => h, fun _ _ h => h⟩
theorem Le.trans {as as1 as2 : AsM} {H H1 H2 : Hp} (a : Le as H as1 H1) (b : Le as1 H1 as2 H2) : Le as H as2 H2 :=
  ⟨fun x o h => b.hp x o (a.hp x o h), fun x o h => b.am x o (a.am x o h)⟩
theorem seqL_mono {K : PySem.W.Frag} {H H' : Hp} {a : Addr} {xs : List V} (e : ∀ a o, H a = some o → H' a = some o) (h : SqL K H a xs) : SqL K H' a xs := by
  rcases h with (h | ⟨o, h⟩) | h
  · exact .inl (.inl (e _ _ h))
  · exact .inl (.inr ⟨o, e _ _ h⟩)
  · exact .inr h
theorem seqT_mono {K : PySem.W.Frag} {H H' : Hp} {a : Addr} {xs : List V} (e : ∀ a o, H a = some o → H' a = some o) (h : SqT K H a xs) : SqT K H' a xs := by
  rcases h with (h | ⟨o, h⟩) | h
  · exact .inl (.inl (e _ _ h))
  · exact .inl (.inr ⟨o, e _ _ h⟩)
  · exact .inr h
section
variable {K : PySem.W.Frag} {as as' : AsM} {H H' : Hp}
mutual
theorem Rp.mono (l : Le as H as' H') : ∀ {d : D} {v : V}, Rp K as H v d → Rp K as' H' v d
  | .non, _, h => by cases h; exact .non
  | .bl _, _, h => by cases h; exact .bl _
  | .int _, _, h => by cases h; exact .int _
  | .str _, _, h => by cases h; exact .str _
  | .lst ds, _, h => by cases h with | lst h1 h2 => exact .lst (l.hp _ _ h1) (RpA.mono l h2)
  | .slst ds, _, h => by cases h with | slst h1 h2 => exact .slst (seqL_mono l.hp h1) (RpA.mono l h2)
  | .tup ds, _, h => by cases h with | tup h1 h2 => exact .tup (seqT_mono l.hp h1) (RpA.mono l h2)
  | .dic ds, _, h => by cases h with | dic h1 h2 => exact .dic (l.hp _ _ h1) (RpK.mono l h2)
  | .ref _, _, h => by cases h; exact .ref _
  | .ty _, _, h => by cases h; exact .ty _
  | .cel _, _, h => by cases h with | cel h1 => exact .cel (l.am _ _ h1)
  | .fn _, _, h => by cases h with | fn h1 => exact .fn h1
theorem RpA.mono (l : Le as H as' H') : ∀ {ds : List D} {vs : List V}, RpA K as H vs ds → RpA K as' H' vs ds
  | [], _, h => by cases h; exact .nil
  | d :: ds, _, h => by cases h with | cons h1 h2 => exact .cons (Rp.mono l h1) (RpA.mono l h2)
theorem RpK.mono (l : Le as H as' H') : ∀ {ds : List (Key × D)} {vs : List (Key × V)}, RpK K as H vs ds → RpK K as' H' vs ds
  | [], _, h => by cases h; exact .nil
  | (k, d) :: ds, _, h => by cases h with | cons h1 h2 => exact .cons (Rp.mono l h1) (RpK.mono l h2)
end
theorem RpA.length : ∀ {ds : List D} {vs : List V}, RpA K as H vs ds → vs.length = ds.length
  | [], _, h => by cases h; rfl
  | d :: ds, _, h => by cases h with | cons h1 h2 => exact congrArg Nat.succ (RpA.length h2)
theorem RpA.append : ∀ {ds es : List D} {vs us : List V}, RpA K as H vs ds → RpA K as H us es → RpA K as H (vs ++ us) (ds ++ es)
  | [], _, _, _, h, g => by cases h; exact g
  | d :: ds, _, _, _, h, g => by cases h with | cons h1 h2 => exact .cons h1 (RpA.append h2 g)
theorem RpA.get : ∀ {ds : List D} {vs : List V} {i : Nat} {d : D}, RpA K as H vs ds → ds[i]? = some d → ∃ v, vs[i]? = some v ∧ Rp K as H v d
  | [], _, i, _, h, e => by simp at e
  | d :: ds, _, 0, _, h, e => by cases h with | cons h1 h2 => simp at e; subst e; exact ⟨_, rfl, h1⟩
  | d :: ds, _, i + 1, _, h, e => by
    cases h with
    | cons h1 h2 =>
      obtain ⟨v, q, r⟩ := RpA.get (i := i) h2 (by simpa using e)
      exact ⟨v, by simpa using q, r⟩
theorem RpA.set : ∀ {ds : List D} {vs : List V} {v : V} {d : D} (i : Nat), RpA K as H vs ds → Rp K as H v d → RpA K as H (vs.set i v) (ds.set i d)
  | [], _, _, _, i, h, r => by cases h; exact .nil
  | d :: ds, _, _, _, 0, h, r => by cases h with | cons h1 h2 => exact .cons r h2
  | d :: ds, _, _, _, i + 1, h, r => by cases h with | cons h1 h2 => exact .cons h1 (RpA.set i h2 r)
theorem RpA.take : ∀ {ds : List D} {vs : List V} (n : Nat), RpA K as H vs ds → RpA K as H (vs.take n) (ds.take n)
  | _, _, 0, _ => .nil
  | [], _, n + 1, h => by cases h; exact .nil
  | d :: ds, _, n + 1, h => by cases h with | cons h1 h2 => exact .cons h1 (RpA.take n h2)
theorem RpA.drop : ∀ {ds : List D} {vs : List V} (n : Nat), RpA K as H vs ds → RpA K as H (vs.drop n) (ds.drop n)
  | _, _, 0, h => h
  | [], _, n + 1, h => by cases h; exact .nil
  | d :: ds, _, n + 1, h => by cases h with | cons h1 h2 => exact RpA.drop n h2
theorem RpA.ints : ∀ {ns : List Int}, RpA K as H (ns.map V.int) (ns.map D.int)
  | [] => .nil
  | n :: ns => .cons (.int n) RpA.ints
end

/-- what flies: the class by its name, its fields where it has its own dict -/
structure DX where
  cls : Str
  fs : Option (List (Str × D))
inductive XD (K : PySem.W.Frag) (as : AsM) (H0 : Hp) : DX → Option Addr → Prop
  | no (C : Str) : XD K as H0 ⟨C, none⟩ none
  | fs {C : Str} {d : Addr} {vs : List (Str × V)} {ds : List (Str × D)} : H0 d = some (.xd vs) → Paired (fun (p : Str × V) (q : Str × D) => p.1 = q.1 ∧ Rp K as H0 p.2 q.2) vs ds → XD K as H0 ⟨C, some ds⟩ (some d)
theorem XD.mono {K : PySem.W.Frag} {as as' : AsM} {H H' : Hp} {x : DX} {d : Option Addr} (l : Le as H as' H') (h : XD K as H x d) : XD K as' H' x d := by
  cases h with
  | no => exact .no _
  | fs h1 h2 => exact .fs (l.hp _ _ h1) (L2.Paired.mapP h2 fun _ _ z => ⟨z.1, z.2.mono l⟩)
/-- an exception that is kept -/
def ExH (cls : Value) (d : Option Addr) (a : Addr) : HO := .ext fun h => ∃ oe : Obj, h.get? a = some oe ∧ Zc cls d oe ∧ ∃ vs, oe.data = .fields vs
/-! ### the mini heap of things that change -/
inductive Co where
  | lst (ds : List D) | dic (kvs : List (Key × D)) | ins (n : Str) (fs : List (Str × D)) | fdic (od : Obj) (vs : List (Key × V)) (kvs : List (Key × D)) | exc (x : DX) | any (u : HO)
abbrev Cells := Nat → Option Co
def put (cs : Cells) (k : Nat) (o : Co) : Cells := fun j => if j = k then some o else cs j
def del (cs : Cells) (k : Nat) : Cells := fun j => if j = k then none else cs j
@[simp] theorem put_same {cs : Cells} {k : Nat} {o : Co} : put cs k o k = some o := if_pos rfl
theorem put_ne {cs : Cells} {k j : Nat} {o : Co} (h : j ≠ k) : put cs k o j = cs j := if_neg h
@[simp] theorem put_put {cs : Cells} {k : Nat} {o u : Co} : put (put cs k o) k u = put cs k u := by
  funext j; unfold put; split <;> rfl
theorem del_put {cs : Cells} {k : Nat} {o : Co} (h : cs k = none) : del (put cs k o) k = cs := by
  funext j
  show (if j = k then none else (if j = k then some o else cs j)) = cs j
  by_cases e : j = k
  · rw [if_pos e, e]; exact h.symm
  · rw [if_neg e, if_neg e]
inductive RpC (K : PySem.W.Frag) (as : AsM) (H0 : Hp) : Addr → HO → Co → Prop
  | lst {p : Addr} {vs : List V} {ds : List D} : RpA K as H0 vs ds → RpC K as H0 p (.lst vs) (.lst ds)
  | dic {p : Addr} {vs : List (Key × V)} {ds : List (Key × D)} : RpK K as H0 vs ds → RpC K as H0 p (.dK vs) (.dic ds)
  | ins {p C dx : Addr} {n : Str} {vs : List (Str × V)} {ds : List (Str × D)} : ClsK K n C → Paired (fun (p : Str × V) (q : Str × D) => p.1 = q.1 ∧ Rp K as H0 p.2 q.2) vs ds → RpC K as H0 p (.ins C dx vs) (.ins n ds)
  | fdic {p : Addr} {od : Obj} {vs : List (Key × V)} {ds : List (Key × D)} : RpK K as H0 vs ds → RpC K as H0 p (.frz od (.dK vs)) (.fdic od vs ds)
  | exc {p : Addr} {x : DX} {C : Addr} {d : Option Addr} : XD K as H0 x d → ClsK K x.cls C → RpC K as H0 p (ExH (.ref C) d p) (.exc x)
  | any {p : Addr} {u : HO} : RpC K as H0 p u (.any u)
theorem RpC.mono {K : PySem.W.Frag} {as as' : AsM} {H H' : Hp} {p : Addr} {u : HO} {o : Co} (l : Le as H as' H') (h : RpC K as H p u o) : RpC K as' H' p u o := by
  cases h with
  | lst h => exact .lst (h.mono l)
  | dic h => exact .dic (h.mono l)
  | fdic h => exact .fdic (h.mono l)
  | exc h h' => exact .exc (h.mono l) h'
  | any => exact .any
  | ins hc h => exact .ins hc (L2.Paired.mapP h fun _ _ z => ⟨z.1, z.2.mono l⟩)

structure Z where
  env : List (Option D)
  cs : Cells

/-- the heap side -/
structure OkC (K : PySem.W.Frag) (as : AsM) (H0 H : Hp) (cs : Cells) : Prop where
  ex : ∀ a o, H0 a = some o → H a = some o
  fin : ∃ n, ∀ k, n ≤ k → as k = none
  cel : ∀ k o, cs k = some o → ∃ p u, as k = some p ∧ H0 p = none ∧ H p = some u ∧ RpC K as H0 p u o
  inj : ∀ k k' p, as k = some p → as k' = some p → cs k ≠ none → cs k' ≠ none → k = k'
/-- the names' side -/
structure OkE (K : PySem.W.Frag) (as : AsM) (H0 : Hp) (σ : L2.St) (env : List (Option D)) : Prop where
  len : env.length = σ.length
  at_ : ∀ (i : Nat) (d : D), env[i]? = some (some d) → ∃ v, σ[i]? = some (some v) ∧ Rp K as H0 v d
structure Ok (K : PySem.W.Frag) (as : AsM) (H0 H : Hp) (σ : L2.St) (z : Z) : Prop where
  c : OkC K as H0 H z.cs
  e : OkE K as H0 σ z.env
theorem OkE.mono {K : PySem.W.Frag} {as as' : AsM} {H H' : Hp} {σ : L2.St} {env : List (Option D)} (l : Le as H as' H') (h : OkE K as H σ env) : OkE K as' H' σ env :=
  ⟨h.len, fun i d e => let ⟨v, a, b⟩ := h.at_ i d e; ⟨v, a, b.mono l⟩⟩
theorem OkE.set {K : PySem.W.Frag} {as : AsM} {H : Hp} {σ : L2.St} {env : List (Option D)} {v : V} {d : D} (h : OkE K as H σ env) (i : Nat) (r : Rp K as H v d) : OkE K as H (σ.set i (some v)) (env.set i (some d)) := by
  refine ⟨by rw [List.length_set, List.length_set]; exact h.len, fun j e hj => ?_⟩
  by_cases hij : i = j
  · subst hij
    have hlt : i < env.length := by
      rcases Nat.lt_or_ge i env.length with q | q
      · exact q
      · rw [List.getElem?_eq_none (by rw [List.length_set]; exact q)] at hj; cases hj
    rw [List.getElem?_set_self hlt] at hj
    cases hj
    exact ⟨v, by rw [List.getElem?_set_self (by rw [← h.len]; exact hlt)], r⟩
  · rw [List.getElem?_set_ne hij] at hj
    obtain ⟨v', a, b⟩ := h.at_ j e hj
    exact ⟨v', by rw [List.getElem?_set_ne hij]; exact a, b⟩
/-- the world grows by a known thing -/
theorem OkC.grow {K : PySem.W.Frag} {as : AsM} {H0 H : Hp} {cs : Cells} {p : Addr} {o : HO} (h : OkC K as H0 H cs) (hp : H p = none) : Le as H0 as (upd H0 p o) ∧ OkC K as (upd H0 p o) (upd H p o) cs := by
  have n0 : H0 p = none := by
    cases q : H0 p with
    | none => rfl
    | some u => rw [h.ex p u q] at hp; cases hp
  have l : Le as H0 as (upd H0 p o) := ⟨fun a u e => by rw [upd_ne (ne_of_none e n0)]; exact e, fun _ _ e => e⟩
  refine ⟨l, ⟨fun a u e => ?_, h.fin, fun k u e => ?_, h.inj⟩⟩
  · by_cases q : a = p
    · subst q; rw [upd_same] at e ⊢; exact e
    · rw [upd_ne q] at e ⊢; exact h.ex a u e
  · obtain ⟨p', u', h1, h2, h3, h4⟩ := h.cel k u e
    have ne : p' ≠ p := ne_of_none h3 hp
    exact ⟨p', u', h1, by rw [upd_ne ne]; exact h2, by rw [upd_ne ne]; exact h3, h4.mono l⟩
/-- a new thing that may change -/
theorem OkC.cell {K : PySem.W.Frag} {as : AsM} {H0 H : Hp} {cs : Cells} {p : Addr} {u : HO} {o : Co} (h : OkC K as H0 H cs) (hp : H p = none) (r : RpC K as H0 p u o) :
    ∃ k as', cs k = none ∧ Le as H0 as' H0 ∧ OkC K as' H0 (upd H p u) (put cs k o) ∧ as' k = some p := by
  obtain ⟨n, hn⟩ := h.fin
  have an : as n = none := hn n (Nat.le_refl _)
  have n0 : H0 p = none := by
    cases q : H0 p with
    | none => rfl
    | some u => rw [h.ex p u q] at hp; cases hp
  have cn : cs n = none := by
    cases q : cs n with
    | none => rfl
    | some u => obtain ⟨p', _, h1, _⟩ := h.cel n u q; rw [an] at h1; cases h1
  have l : Le as H0 (fun k => if k = n then some p else as k) H0 := ⟨fun _ _ e => e, fun k q e => by
    have : k ≠ n := fun z => by subst z; rw [an] at e; cases e
    show (if k = n then some p else as k) = _
    rw [if_neg this]; exact e⟩
  refine ⟨n, _, cn, l, ⟨fun a u e => ?_, ⟨n + 1, fun k hk => ?_⟩, fun k u e => ?_, fun k k' q e1 e2 c1 c2 => ?_⟩, if_pos rfl⟩
  · rw [upd_ne (ne_of_none e n0)]; exact h.ex a u e
  · show (if k = n then some p else as k) = none
    rw [if_neg (by omega)]; exact hn k (by omega)
  · by_cases q : k = n
    · subst q
      rw [put_same] at e; cases e
      exact ⟨p, _, if_pos rfl, n0, upd_same, r.mono l⟩
    · rw [put_ne q] at e
      obtain ⟨p', u', h1, h2, h3, h4⟩ := h.cel k u e
      exact ⟨p', u', by rw [if_neg q]; exact h1, h2, by rw [upd_ne (ne_of_none h3 hp)]; exact h3, h4.mono l⟩
  · have old : ∀ j q', j ≠ n → put cs n o j ≠ none → as j = some q' → q' ≠ p := fun j q' hj c e z => by
      subst z
      rw [put_ne hj] at c
      cases w : cs j with
      | none => exact c w
      | some u =>
        obtain ⟨p', _, h1, _, h3, _⟩ := h.cel j u w
        rw [e] at h1; cases h1
        rw [hp] at h3; cases h3
    by_cases q1 : k = n
    · by_cases q2 : k' = n
      · rw [q1, q2]
      · rw [if_pos q1] at e1; rw [if_neg q2] at e2
        cases e1
        exact absurd rfl (old k' p q2 c2 e2)
    · by_cases q2 : k' = n
      · rw [if_pos q2] at e2; rw [if_neg q1] at e1
        cases e2
        exact absurd rfl (old k p q1 c1 e1)
      · rw [if_neg q1] at e1; rw [if_neg q2] at e2
        rw [put_ne q1] at c1; rw [put_ne q2] at c2
        exact h.inj k k' q e1 e2 c1 c2
/-- such a thing turns -/
theorem OkC.turn {K : PySem.W.Frag} {as : AsM} {H0 H : Hp} {cs : Cells} {k : Nat} {p : Addr} {u : HO} {o o0 : Co} (h : OkC K as H0 H cs) (hk : cs k = some o0) (hp : as k = some p) (r : RpC K as H0 p u o) :
    OkC K as H0 (upd H p u) (put cs k o) := by
  obtain ⟨p', u', h1, n0, h3, _⟩ := h.cel k o0 hk
  rw [hp] at h1; cases h1
  refine ⟨fun a w e => ?_, h.fin, fun j w e => ?_, fun j j' q e1 e2 c1 c2 => ?_⟩
  · rw [upd_ne (ne_of_none e n0)]; exact h.ex a w e
  · by_cases q : j = k
    · subst q
      rw [put_same] at e; cases e
      exact ⟨p, _, hp, n0, upd_same, r⟩
    · rw [put_ne q] at e
      obtain ⟨p', u', g1, g2, g3, g4⟩ := h.cel j w e
      have ne : p' ≠ p := fun z => by
        subst z
        exact q (h.inj j k p' g1 hp (by rw [e]; simp) (by rw [hk]; simp))
      exact ⟨p', u', g1, g2, by rw [upd_ne ne]; exact g3, g4⟩
  · have low : ∀ j, put cs k o j ≠ none → cs j ≠ none := fun j c => by
      by_cases q : j = k
      · subst q; rw [hk]; simp
      · rw [put_ne q] at c; exact c
    exact h.inj j j' q e1 e2 (low j c1) (low j' c2)
/-- it becomes a thing that is known for good -/
theorem OkC.freeze {K : PySem.W.Frag} {as : AsM} {H0 H : Hp} {cs : Cells} {k : Nat} {p : Addr} {u : HO} {o : Co} (h : OkC K as H0 H cs) (hk : cs k = some o) (hp : as k = some p) (hu : H p = some u) :
    Le as H0 as (upd H0 p u) ∧ OkC K as (upd H0 p u) H (del cs k) := by
  obtain ⟨p', u', h1, n0, h3, _⟩ := h.cel k o hk
  rw [hp] at h1; cases h1
  have l : Le as H0 as (upd H0 p u) := ⟨fun a w e => by rw [upd_ne (ne_of_none e n0)]; exact e, fun _ _ e => e⟩
  have low : ∀ j, del cs k j ≠ none → j ≠ k ∧ cs j ≠ none := fun j c => by
    by_cases q : j = k
    · exact absurd (if_pos q) c
    · unfold del at c; rw [if_neg q] at c; exact ⟨q, c⟩
  refine ⟨l, ⟨fun a w e => ?_, h.fin, fun j w e => ?_, fun j j' q e1 e2 c1 c2 => h.inj j j' q e1 e2 (low j c1).2 (low j' c2).2⟩⟩
  · by_cases q : a = p
    · subst q; rw [upd_same] at e; rw [← e]; exact hu
    · rw [upd_ne q] at e; exact h.ex a w e
  · have q := (low j (by rw [e]; simp)).1
    have e' : cs j = some w := by unfold del at e; rw [if_neg q] at e; exact e
    obtain ⟨p', u', g1, g2, g3, g4⟩ := h.cel j w e'
    have ne : p' ≠ p := fun z => by
      subst z
      exact q (h.inj j k p' g1 hp (by rw [e']; simp) (by rw [hk]; simp))
    exact ⟨p', u', g1, by rw [upd_ne ne]; exact g2, g3, g4.mono l⟩

/-! ### what is said of code -/
abbrev DE := Z → (D → Z → Prop) → Prop
abbrev DA := Z → (List D → Z → Prop) → Prop
abbrev DT := Z → (Bool → Z → Prop) → Prop
structure DEnds where
  nx : Z → Prop
  rt : D → Cells → Prop
  bk : Z → Prop := fun _ => False
  ct : Z → Prop := fun _ => False
  xx : DX → Z → Prop := fun _ _ => False
abbrev DS := DEnds → Z → Prop

def lift (K : PySem.W.Frag) (de : DE) : TE := fun σ H Q => ∃ as H0 c R, Ok K as H0 H σ c ∧ de c R ∧
  ∀ as' H0' H' c' v d, Le as H0 as' H0' → Ok K as' H0' H' σ c' → Rp K as' H0' v d → R d c' → Q v H'
def liftA (K : PySem.W.Frag) (da : DA) : TA := fun σ H Q => ∃ as H0 c R, Ok K as H0 H σ c ∧ da c R ∧
  ∀ as' H0' H' c' vs ds, Le as H0 as' H0' → Ok K as' H0' H' σ c' → RpA K as' H0' vs ds → R ds c' → Q vs H'
def liftT (K : PySem.W.Frag) (dt : DT) : TT := fun σ H Q => ∃ as H0 c R, Ok K as H0 H σ c ∧ dt c R ∧
  ∀ as' H0' H' c' b, Le as H0 as' H0' → Ok K as' H0' H' σ c' → R b c' → Q b H'
/-- a wish of the low side about what flies, kept by one of ours -/
def Tie (K : PySem.W.Frag) (mg : Str → Option Value) (as : AsM) (H0 : Hp) (xx : DX → Z → Prop) (W : WX) : Prop :=
  ∀ as' H0' H' σ' c' x d C, Le as H0 as' H0' → Ok K as' H0' H' σ' c' → XD K as' H0' x d → mg x.cls = some (.ref C) → xx x c' → W (.ref C) d σ' H'
theorem Tie.mono {K : PySem.W.Frag} {mg : Str → Option Value} {as as1 : AsM} {H0 H1 : Hp} {xx : DX → Z → Prop} {W : WX} (h : Tie K mg as H0 xx W) (l : Le as H0 as1 H1) : Tie K mg as1 H1 xx W :=
  fun _ _ _ _ _ _ _ _ l' o q e z => h _ _ _ _ _ _ _ _ (l.trans l') o q e z
structure Exits (K : PySem.W.Frag) (mg : Str → Option Value) (W : WX) (as : AsM) (H0 : Hp) (DD : DEnds) (Dn : Ends) : Prop where
  nx : ∀ as' H0' H' σ' c', Le as H0 as' H0' → Ok K as' H0' H' σ' c' → DD.nx c' → Dn.nx σ' H'
  bk : ∀ as' H0' H' σ' c', Le as H0 as' H0' → Ok K as' H0' H' σ' c' → DD.bk c' → Dn.bk σ' H'
  ct : ∀ as' H0' H' σ' c', Le as H0 as' H0' → Ok K as' H0' H' σ' c' → DD.ct c' → Dn.ct σ' H'
  rt : ∀ as' H0' H' cs' v d, Le as H0 as' H0' → OkC K as' H0' H' cs' → Rp K as' H0' v d → DD.rt d cs' → Dn.rt v H'
  xx : Tie K mg as H0 DD.xx W
theorem Exits.mono {K : PySem.W.Frag} {mg : Str → Option Value} {W : WX} {as as1 : AsM} {H0 H1 : Hp} {DD : DEnds} {Dn : Ends} (h : Exits K mg W as H0 DD Dn) (l : Le as H0 as1 H1) : Exits K mg W as1 H1 DD Dn :=
  ⟨fun _ _ _ _ _ l' o q => h.nx _ _ _ _ _ (l.trans l') o q, fun _ _ _ _ _ l' o q => h.bk _ _ _ _ _ (l.trans l') o q, fun _ _ _ _ _ l' o q => h.ct _ _ _ _ _ (l.trans l') o q, fun _ _ _ _ _ _ l' o r q => h.rt _ _ _ _ _ _ (l.trans l') o r q, h.xx.mono l⟩
def liftS (K : PySem.W.Frag) (mg : Str → Option Value) (W : WX) (ds : DS) : TS := fun Dn σ H => ∃ as H0 c DD, Ok K as H0 H σ c ∧ ds DD c ∧ Exits K mg W as H0 DD Dn

abbrev PD (X : Cx) (e : Expr) (de : DE) : Prop := PE X e (lift X.K de)
abbrev PDA (X : Cx) (es : List Expr) (da : DA) : Prop := PA X es (liftA X.K da)
abbrev PDT (X : Cx) (e : Expr) (dt : DT) : Prop := PT X e (liftT X.K dt)
abbrev PDW (X : Cx) (e : Expr) (dt : DT) : Prop := PW X e (liftT X.K dt)
abbrev PDS (X : Cx) (st : Stmt) (ds : DS) : Prop := ∀ W : WX, Takes X W → PS X st (liftS X.K X.mg W ds)
abbrev PDB (X : Cx) (sts : List Stmt) (ds : DS) : Prop := ∀ W : WX, Takes X W → PSs X sts (liftS X.K X.mg W ds)

section
variable {X : Cx}
theorem pe_imp {e : Expr} {t t' : TE} (h : PE X e t) (i : ∀ σ H Q, t' σ H Q → t σ H Q) : PE X e t' := ⟨fun pins s σ H Q I q => h.run pins s σ H Q I (i σ H Q q)⟩
theorem pt_imp {e : Expr} {t t' : TT} (h : PT X e t) (i : ∀ σ H Q, t' σ H Q → t σ H Q) : PT X e t' := ⟨fun pins s σ H Q I q => h.run pins s σ H Q I (i σ H Q q)⟩
theorem pw_imp {e : Expr} {t t' : TT} (h : PW X e t) (i : ∀ σ H Q, t' σ H Q → t σ H Q) : PW X e t' := ⟨fun wh pins s σ H Q I q => h.run wh pins s σ H Q I (i σ H Q q)⟩
theorem pa_imp {es : List Expr} {t t' : TA} (h : PA X es t) (i : ∀ σ H Q, t' σ H Q → t σ H Q) : PA X es t' := ⟨fun pos pins s σ H Q I q => h.run pos pins s σ H Q I (i σ H Q q)⟩
theorem ps_imp {st : Stmt} {t t' : TS} (h : PS X st t) (i : ∀ Dn σ H, t' Dn σ H → t Dn σ H) : PS X st t' := ⟨fun pins s σ H Dn I q => h.run pins s σ H Dn I (i Dn σ H q)⟩
theorem pss_imp {st : List Stmt} {t t' : TS} (h : PSs X st t) (i : ∀ Dn σ H, t' Dn σ H → t Dn σ H) : PSs X st t' := ⟨fun pins s σ H Dn I q => h.run pins s σ H Dn I (i Dn σ H q)⟩
end

/-! ### names, constants -/
def dVar (i : Nat) : DE := fun c R => ∃ d, c.env[i]? = some (some d) ∧ R d c
def dC (d : D) : DE := fun c R => R d c
section
variable {X : Cx}
theorem pd_var (i : Nat) {x : Str} {pos : Pos} (hN : X.N[i]? = some x := by rfl) (hv : Vis X.env.scope x := by first | exact Or.inl rfl | exact Or.inr (Or.inl rfl) | exact Or.inr (Or.inr rfl))
    (hd : (x == ("__debug__" : Str)) = false := by decide) (hcd : (x == ("__classdict__" : Str)) = false := by decide) : PD X (.Name x pos) (dVar i) :=
  pe_imp (pe_var hN hv hd hcd) fun σ H Q ⟨as, H0, c, R, ok, ⟨d, e, r⟩, q⟩ => by
    obtain ⟨v, e1, r1⟩ := ok.e.at_ i d e
    exact ⟨v, e1, q _ _ _ _ _ _ .refl ok r1 r⟩
theorem lift_c {K : PySem.W.Frag} {v : V} {d : D} (h : ∀ as H, Rp K as H v d) : ∀ σ H Q, lift K (dC d) σ H Q → tC v σ H Q :=
  fun σ H Q ⟨as, H0, c, R, ok, r, q⟩ => q _ _ _ _ _ _ .refl ok (h _ _) r
theorem pd_int {i : Int} {j pos} : PD X (.Constant (.int i) j pos) (dC (.int i)) := pe_imp pe_int (lift_c fun _ _ => .int i)
theorem pd_bl {b : Bool} {j pos} : PD X (.Constant (.bool b) j pos) (dC (.bl b)) := pe_imp pe_bl (lift_c fun _ _ => .bl b)
theorem pd_non {j pos} : PD X (.Constant .none j pos) (dC .non) := pe_imp pe_non (lift_c fun _ _ => .non)
theorem pd_str {x : Str} {j pos} : PD X (.Constant (.str x) j pos) (dC (.str x)) := pe_imp pe_str (lift_c fun _ _ => .str x)
end

/-! ### operators -/
abbrev DF := D → D → Z → (D → Z → Prop) → Prop
def dBin (f : DF) (da db : DE) : DE := fun c R => da c fun x c1 => db c1 fun y c2 => f x y c2 R
def OpD (K : PySem.W.Frag) (r : R2) (f : DF) : Prop := ∀ as H0 H σ c v1 v2 d1 d2 R (Q : VK), Ok K as H0 H σ c → Rp K as H0 v1 d1 → Rp K as H0 v2 d2 → f d1 d2 c R →
  (∀ as' H0' H' c' v d, Le as H0 as' H0' → Ok K as' H0' H' σ c' → Rp K as' H0' v d → R d c' → Q v H') → r v1 v2 H Q
theorem lift_op {K : PySem.W.Frag} {r : R2} {f : DF} {da db : DE} (h : OpD K r f) : ∀ σ H Q, lift K (dBin f da db) σ H Q → tOp r (lift K da) (lift K db) σ H Q :=
  fun σ H Q ⟨as, H0, c, R, ok, q, k⟩ => ⟨as, H0, c, _, ok, q, fun as1 H1 Hn1 c1 v1 d1 l1 ok1 r1 q1 => ⟨as1, H1, c1, _, ok1, q1, fun as2 H2 Hn2 c2 v2 d2 l2 ok2 r2 q2 =>
    h as2 H2 Hn2 σ c2 v1 v2 d1 d2 R Q ok2 (r1.mono l2) r2 q2 fun as3 H3 Hn3 c3 v3 d3 l3 ok3 r3 q3 => k _ _ _ _ _ _ ((l1.trans l2).trans l3) ok3 r3 q3⟩⟩
theorem opR_or {X : Cx} {f : Value → Value → Sem Value} {r r' : R2} (h : OpR X f r) (h' : OpR X f r') : OpR X f (fun x y H Q => r x y H Q ∨ r' x y H Q) :=
  fun pins s σ H x y v u Q I rx ry z => z.elim (h pins s σ H x y v u Q I rx ry) (h' pins s σ H x y v u Q I rx ry)
def dInt2 (C : Int → Int → Prop) (g : Int → Int → D) : DF := fun x y c R => match x, y with
  | .int i, .int j => C i j ∧ R (g i j) c
  | _, _ => False
theorem opD_int {K : PySem.W.Frag} {C : Int → Int → Prop} {g : Int → Int → V} {g' : Int → Int → D} (hg : ∀ i j as H, Rp K as H (g i j) (g' i j)) : OpD K (rI C g) (dInt2 C g') := by
  intro as H0 H σ c v1 v2 d1 d2 R Q ok r1 r2 h k
  cases d1 with
  | int i =>
    cases d2 with
    | int j => cases r1; cases r2; exact ⟨i, j, rfl, rfl, h.1, k _ _ _ _ _ _ .refl ok (hg i j _ _) h.2⟩
    | _ => exact h.elim
  | _ => exact h.elim
theorem opD_int0 {K : PySem.W.Frag} {g : Int → Int → V} {g' : Int → Int → D} (hg : ∀ i j as H, Rp K as H (g i j) (g' i j)) : OpD K (rI0 g) (dInt2 (fun _ _ => True) g') := by
  intro as H0 H σ c v1 v2 d1 d2 R Q ok r1 r2 h k
  cases d1 with
  | int i =>
    cases d2 with
    | int j => cases r1; cases r2; exact ⟨i, j, rfl, rfl, k _ _ _ _ _ _ .refl ok (hg i j _ _) h.2⟩
    | _ => exact h.elim
  | _ => exact h.elim
end DL

namespace DL
open PySem L2

/-! ### data as the library's -/
mutual
def py : D → PyData
  | .non => .none | .bl b => .bool b | .int i => .int i | .str s => .str s
  | .lst ds => .list (pyA ds) | .slst ds => .list (pyA ds) | .tup ds => .tuple (pyA ds)
  | .dic _ => .none | .ref _ => .none | .ty _ => .none | .cel _ => .none | .fn _ => .none
def pyA : List D → List PyData
  | [] => []
  | d :: ds => py d :: pyA ds
end
mutual
def plain : D → Bool
  | .non => true | .bl _ => true | .int _ => true | .str _ => true
  | .lst ds => plainA ds | .slst ds => plainA ds | .tup ds => plainA ds
  | .dic _ => false | .ref _ => false | .ty _ => false | .cel _ => false | .fn _ => false
def plainA : List D → Bool
  | [] => true
  | d :: ds => plain d && plainA ds
end
section
variable {K : PySem.W.Frag} {as : AsM} {H0 H : Hp}
mutual
theorem Rp.dp (e : ∀ a o, H0 a = some o → H a = some o) : ∀ {d : D} {v : V}, plain d = true → Rp K as H0 v d → Dp K H v (py d)
  | .non, _, _, h => by cases h; exact .non
  | .bl _, _, _, h => by cases h; exact .bl _
  | .int _, _, _, h => by cases h; exact .int _
  | .str _, _, _, h => by cases h; exact .str _
  | .lst ds, _, p, h => by cases h with | lst h1 h2 => exact .lst (SqL.of (e _ _ h1)) (RpA.dp e p h2)
  | .slst ds, _, p, h => by cases h with | slst h1 h2 => exact .lst (seqL_mono e h1) (RpA.dp e p h2)
  | .tup ds, _, p, h => by cases h with | tup h1 h2 => exact .tup (seqT_mono e h1) (RpA.dp e p h2)
  | .dic ds, _, p, h => by cases p
  | .ref _, _, p, h => by cases p
  | .ty _, _, p, h => by cases p
  | .cel _, _, p, h => by cases p
  | .fn _, _, p, h => by cases p
theorem RpA.dp (e : ∀ a o, H0 a = some o → H a = some o) : ∀ {ds : List D} {vs : List V}, plainA ds = true → RpA K as H0 vs ds → DpAll K H vs (pyA ds)
  | [], _, _, h => by cases h; exact .nil
  | d :: ds, _, p, h => by
    cases h with
    | cons h1 h2 =>
      have p' := Bool.and_eq_true_iff.mp (show (plain d && plainA ds) = true from p)
      exact .cons (Rp.dp e p'.1 h1) (RpA.dp e p'.2 h2)
end
end

/-! ### operators by data -/
section
variable {X : Cx} {K : PySem.W.Frag} {a b c : Expr} {da db dc : DE} {pos : Pos}
theorem pd_bin {op : Operator} {r : R2} {f : DF} (ho : OpR X (binaryOp op) r) (hd : OpD X.K r f) (ha : PD X a da) (hb : PD X b db) : PD X (.BinOp a op b pos) (dBin f da db) := pe_imp (pe_op ho ha hb) (lift_op hd)
theorem pd_cmp {op : CmpOp} {r : R2} {f : DF} (ho : OpR X (compareOp op) r) (hd : OpD X.K r f) (ha : PD X a da) (hb : PD X b db) (hm : behindInMarks op b = false) : PD X (.Compare a [op] [b] pos) (dBin f da db) := pe_imp (pe_cmpR ho ha hb hm) (lift_op hd)

/-! #### plus -/
def dAdd : DF := fun x y c R => match x, y with
  | .int i, .int j => R (.int (i + j)) c
  | .int i, .bl k => R (.int (i + PyProof.Rows.b2i k)) c
  | .str s, .str t => s.length + t.length ≤ sizeLine ∧ R (.str (s ++ t)) c
  | .lst xs, .lst ys => xs.length + ys.length ≤ sizeLine ∧ R (.lst (xs ++ ys)) c
  | .tup xs, .tup ys => xs ≠ [] ∧ xs.length + ys.length ≤ sizeLine ∧ R (.tup (xs ++ ys)) c
  | _, _ => False
/-- a new known thing -/
theorem new_known {σ : L2.St} {as : AsM} {H0 H : Hp} {c : Z} {p : Addr} {o : HO} (ok : Ok K as H0 H σ c) (hp : H p = none) : Le as H0 as (upd H0 p o) ∧ Ok K as (upd H0 p o) (upd H p o) σ c :=
  let ⟨l, k⟩ := ok.c.grow (o := o) hp
  ⟨l, k, ok.e.mono l⟩
theorem rp_lst {as : AsM} {H0 : Hp} {p : Addr} {vs : List V} {ds : List D} (l : Le as H0 as (upd H0 p (.lst vs))) (r : RpA K as H0 vs ds) : Rp K as (upd H0 p (.lst vs)) (.ref p) (.lst ds) := .lst upd_same (r.mono l)
theorem rp_tup {as : AsM} {H0 : Hp} {p : Addr} {vs : List V} {ds : List D} (l : Le as H0 as (upd H0 p (.tup vs))) (r : RpA K as H0 vs ds) : Rp K as (upd H0 p (.tup vs)) (.ref p) (.tup ds) := .tup (SqT.of upd_same) (r.mono l)
def rAdd5 (K : PySem.W.Frag) : R2 := fun x y H Q => rI0 (fun i j => .int (i + j)) x y H Q ∨ (∃ i k, x = .int i ∧ y = .bl k ∧ Q (.int (i + PyProof.Rows.b2i k)) H) ∨ (∃ i j, x = .str i ∧ y = .str j ∧ i.length + j.length ≤ sizeLine ∧ Q (.str (i ++ j)) H) ∨ rCat x y H Q ∨ rCatT K x y H Q
theorem op_add5 : OpR X (binaryOp .Add) (rAdd5 X.K) := opR_or op_add (opR_or op_add_ib (opR_or op_add_str (opR_or op_cat op_catT)))
theorem opD_add : OpD K (rAdd5 K) dAdd := by
  intro as H0 H σ c v1 v2 d1 d2 R Q ok r1 r2 h k
  cases d1 with
  | int i =>
    cases d2 with
    | int j => cases r1; cases r2; exact .inl ⟨i, j, rfl, rfl, k _ _ _ _ _ _ .refl ok (.int _) h⟩
    | bl j => cases r1; cases r2; exact .inr (.inl ⟨i, j, rfl, rfl, k _ _ _ _ _ _ .refl ok (.int _) h⟩)
    | _ => exact h.elim
  | str s =>
    cases d2 with
    | str t => cases r1; cases r2; exact .inr (.inr (.inl ⟨s, t, rfl, rfl, h.1, k _ _ _ _ _ _ .refl ok (.str _) h.2⟩))
    | _ => exact h.elim
  | lst xs =>
    cases d2 with
    | lst ys =>
      cases r1 with
      | lst g1 g2 =>
        cases r2 with
        | lst g3 g4 =>
          refine .inr (.inr (.inr (.inl ⟨_, _, _, _, rfl, rfl, ok.c.ex _ _ g1, ok.c.ex _ _ g3, by rw [g2.length, g4.length]; exact h.1, fun p hp => ?_⟩)))
          obtain ⟨l, ok'⟩ := new_known (o := .lst _) ok hp
          exact k _ _ _ _ _ _ l ok' (rp_lst l (g2.append g4)) h.2
    | _ => exact h.elim
  | tup xs =>
    cases d2 with
    | tup ys =>
      cases r1 with
      | tup g1 g2 =>
        cases r2 with
        | tup g3 g4 =>
          have n1 : ∀ {vs : List V}, RpA K as H0 vs xs → vs ≠ [] := fun {vs} q z => by
            subst z
            have := q.length
            exact h.1 (List.eq_nil_of_length_eq_zero this.symm)
          have q2 := g2.length
          have q4 := g4.length
          refine .inr (.inr (.inr (.inr ⟨_, _, _, _, rfl, rfl, seqT_mono ok.c.ex g1, seqT_mono ok.c.ex g3, n1 g2, by rw [q2, q4]; exact h.2.1, ?_⟩)))
          refine ⟨fun e => ?_, fun e p hp => ?_⟩
          · subst e
            have : ys = [] := List.eq_nil_of_length_eq_zero q4.symm
            subst this
            exact k _ _ _ _ _ _ .refl ok (.tup g1 g2) (by have := h.2.2; rw [List.append_nil] at this; exact this)
          · obtain ⟨l, ok'⟩ := new_known (o := .tup _) ok hp
            exact k _ _ _ _ _ _ l ok' (rp_tup l (g2.append g4)) h.2.2
    | _ => exact h.elim
  | _ => exact h.elim
theorem pd_add (ha : PD X a da) (hb : PD X b db) : PD X (.BinOp a .Add b pos) (dBin dAdd da db) := pd_bin op_add5 opD_add ha hb

/-! #### other arithmetic -/
def dSub : DF := dInt2 (fun _ _ => True) fun i j => .int (i - j)
def dMul : DF := dInt2 CMul fun i j => .int (i * j)
theorem pd_mul (ha : PD X a da) (hb : PD X b db) : PD X (.BinOp a .Mult b pos) (dBin dMul da db) := pd_bin op_mul (opD_int fun _ _ _ _ => .int _) ha hb
def dDiv : DF := dInt2 (fun _ j => 0 < j ∧ j < 2 ^ 200) fun i j => .int (i / j)
theorem div_room {i j : Int} (h : 0 < j ∧ j < 2 ^ 200) : CDivW i j := wide_div (b := 200) h.1 (by
  have h1 := h.1
  have h2 := h.2
  have e : (2 : Int) ^ 200 = ((2 ^ 200 : Nat) : Int) := by norm_cast
  omega) (by decide) (by decide)
theorem opD_intC {C C' : Int → Int → Prop} {g : Int → Int → V} {g' : Int → Int → D} (hC : ∀ i j, C' i j → C i j) (hg : ∀ i j as H, Rp K as H (g i j) (g' i j)) : OpD K (rI C g) (dInt2 C' g') := by
  intro as H0 H σ c v1 v2 d1 d2 R Q ok r1 r2 h k
  cases d1 with
  | int i =>
    cases d2 with
    | int j => cases r1; cases r2; exact ⟨i, j, rfl, rfl, hC i j h.1, k _ _ _ _ _ _ .refl ok (hg i j _ _) h.2⟩
    | _ => exact h.elim
  | _ => exact h.elim
theorem pd_div (ha : PD X a da) (hb : PD X b db) : PD X (.BinOp a .FloorDiv b pos) (dBin dDiv da db) := pd_bin op_fdivW (opD_intC (fun _ _ h => div_room h) fun _ _ _ _ => .int _) ha hb
def dMod : DF := dInt2 (fun _ j => 0 < j) fun i j => .int (i % j)
theorem pd_mod (ha : PD X a da) (hb : PD X b db) : PD X (.BinOp a .Mod b pos) (dBin dMod da db) := pd_bin op_mod (opD_int fun _ _ _ _ => .int _) ha hb
def dPow : DF := dInt2 CPow fun i j => .int (i ^ j.toNat)
theorem pd_pow (ha : PD X a da) (hb : PD X b db) : PD X (.BinOp a .Pow b pos) (dBin dPow da db) := pd_bin op_pow (opD_int fun _ _ _ _ => .int _) ha hb
def dShl : DF := dInt2 CPow fun i j => .int (i * 2 ^ j.toNat)
def dShr : DF := dInt2 (fun _ j => 0 ≤ j) fun i j => .int (i / 2 ^ j.toNat)
def dAnd : DF := dInt2 (fun _ _ => True) fun i j => .int (Builtin.bitAnd i j)
def dOr : DF := dInt2 (fun _ _ => True) fun i j => .int (Builtin.bitOr i j)
def dXor : DF := dInt2 (fun _ _ => True) fun i j => .int (Builtin.bitXor i j)
def dNeg (da : DE) : DE := fun c R => da c fun x c1 => match x with | .int i => R (.int (-i)) c1 | _ => False
theorem pd_neg (ha : PD X a da) : PD X (.UnaryOp .USub a pos) (dNeg da) := pe_imp (pe_un un_neg ha) fun σ H Q ⟨as, H0, c, R, ok, q, k⟩ => ⟨as, H0, c, _, ok, q, fun as1 H1 Hn c1 v d l1 ok1 r1 q1 => by
  cases d with
  | int i => cases r1; exact ⟨i, rfl, k _ _ _ _ _ _ l1 ok1 (.int _) q1⟩
  | _ => exact q1.elim⟩

/-! #### comparisons -/
def dLt : DF := dInt2 (fun _ _ => True) fun i j => .bl (decide (i < j))
def dLe : DF := dInt2 (fun _ _ => True) fun i j => .bl (decide (i ≤ j))
def dGt : DF := dInt2 (fun _ _ => True) fun i j => .bl (decide (j < i))
def dGe : DF := dInt2 (fun _ _ => True) fun i j => .bl (decide (j ≤ i))
theorem opD_lt : OpD K (rI0 fun i j => .bl (decide (i < j))) dLt := opD_int0 fun _ _ _ _ => .bl _
theorem opD_gt : OpD K (rI0 fun i j => .bl (decide (j < i))) dGt := opD_int0 fun _ _ _ _ => .bl _
theorem opD_ge : OpD K (rI0 fun i j => .bl (decide (j ≤ i))) dGe := opD_int0 fun _ _ _ _ => .bl _
theorem pd_lt (ha : PD X a da) (hb : PD X b db) : PD X (.Compare a [.Lt] [b] pos) (dBin dLt da db) := pd_cmp op_lt opD_lt ha hb (nomark _)
theorem pd_ge (ha : PD X a da) (hb : PD X b db) : PD X (.Compare a [.GtE] [b] pos) (dBin dGe da db) := pd_cmp op_ge opD_ge ha hb (nomark _)
def dEq : DF := fun x y c R => match x, y with
  | .int i, .int j => R (.bl (decide (i = j))) c
  | .bl i, .bl j => R (.bl (decide (i = j))) c
  | .str i, .str j => R (.bl (decide (i = j))) c
  | x, y => plain x = true ∧ plain y = true ∧ SeqAt.shaped (py x) = true ∧ SeqAt.shaped (py y) = true ∧ R (.bl (PyData.eqv (py x) (py y))) c
def dNe : DF := fun x y c R => match x, y with
  | .int i, .int j => R (.bl (!decide (i = j))) c
  | .bl i, .bl j => R (.bl (!decide (i = j))) c
  | .str i, .str j => R (.bl (!decide (i = j))) c
  | x, y => plain x = true ∧ plain y = true ∧ SeqAt.shaped (py x) = true ∧ SeqAt.shaped (py y) = true ∧ R (.bl (!PyData.eqv (py x) (py y))) c
theorem dec_i {i j : Int} : decide (V.int i = V.int j) = decide (i = j) := by simp
theorem dec_b {i j : Bool} : decide (V.bl i = V.bl j) = decide (i = j) := by simp
theorem dec_s {i j : Str} : decide (V.str i = V.str j) = decide (i = j) := by simp
theorem opD_eq : OpD K (fun x y H Q => rEq x y H Q ∨ rEqD K x y H Q) dEq := by
  intro as H0 H σ c v1 v2 d1 d2 R Q ok r1 r2 h k
  have dp : ∀ {x y : D} {v u : V}, Rp K as H0 v x → Rp K as H0 u y → plain x = true ∧ plain y = true ∧ SeqAt.shaped (py x) = true ∧ SeqAt.shaped (py y) = true ∧ R (.bl (PyData.eqv (py x) (py y))) c → rEqD K v u H Q :=
    fun a b ⟨h1, h2, h3, h4, h5⟩ => ⟨_, _, a.dp ok.c.ex h1, b.dp ok.c.ex h2, h3, h4, k _ _ _ _ _ _ .refl ok (.bl _) h5⟩
  cases d1 <;> cases d2
  all_goals first
    | exact .inr (dp r1 r2 h)
    | (cases r1; cases r2; exact .inl ⟨rfl, by rw [dec_i]; exact k _ _ _ _ _ _ .refl ok (.bl _) h⟩)
    | (cases r1; cases r2; exact .inl ⟨rfl, by rw [dec_b]; exact k _ _ _ _ _ _ .refl ok (.bl _) h⟩)
    | (cases r1; cases r2; exact .inl ⟨rfl, by rw [dec_s]; exact k _ _ _ _ _ _ .refl ok (.bl _) h⟩)
theorem opD_ne : OpD K (fun x y H Q => rNe x y H Q ∨ rNeD K x y H Q) dNe := by
  intro as H0 H σ c v1 v2 d1 d2 R Q ok r1 r2 h k
  have dp : ∀ {x y : D} {v u : V}, Rp K as H0 v x → Rp K as H0 u y → plain x = true ∧ plain y = true ∧ SeqAt.shaped (py x) = true ∧ SeqAt.shaped (py y) = true ∧ R (.bl (!PyData.eqv (py x) (py y))) c → rNeD K v u H Q :=
    fun a b ⟨h1, h2, h3, h4, h5⟩ => ⟨_, _, a.dp ok.c.ex h1, b.dp ok.c.ex h2, h3, h4, k _ _ _ _ _ _ .refl ok (.bl _) h5⟩
  cases d1 <;> cases d2
  all_goals first
    | exact .inr (dp r1 r2 h)
    | (cases r1; cases r2; exact .inl ⟨rfl, by rw [dec_i]; exact k _ _ _ _ _ _ .refl ok (.bl _) h⟩)
    | (cases r1; cases r2; exact .inl ⟨rfl, by rw [dec_b]; exact k _ _ _ _ _ _ .refl ok (.bl _) h⟩)
    | (cases r1; cases r2; exact .inl ⟨rfl, by rw [dec_s]; exact k _ _ _ _ _ _ .refl ok (.bl _) h⟩)
/-- a op b op' c -/
def dChain (f g : DF) (da db dc : DE) : DE := fun c R => da c fun x c1 => db c1 fun y c2 => f x y c2 fun z c3 => match z with
  | .bl true => dc c3 fun w c4 => g y w c4 R
  | .bl false => R (.bl false) c3
  | _ => False
/-! #### truth -/
def truD : D → Option Bool
  | .non => some false | .bl b => some b | .int i => some (i != 0) | .str s => if s.length ≤ sizeLine then some ((s.length : Int) != 0) else none
  | .lst ds => some (!ds.isEmpty) | .slst ds => some (!ds.isEmpty) | .tup ds => some (!ds.isEmpty) | .dic kvs => some (!kvs.isEmpty) | _ => none
theorem isEmpty_rp {as : AsM} {H : Hp} : ∀ {ds : List D} {vs : List V}, RpA K as H vs ds → (!vs.isEmpty) = !ds.isEmpty
  | [], _, h => by cases h; rfl
  | _ :: _, _, h => by cases h; rfl
theorem isEmpty_rk {as : AsM} {H : Hp} : ∀ {ds : List (Key × D)} {vs : List (Key × V)}, RpK K as H vs ds → (!vs.isEmpty) = !ds.isEmpty
  | [], _, h => by cases h; rfl
  | _ :: _, _, h => by cases h; rfl
theorem truV_of {as : AsM} {H0 H : Hp} {v : V} {d : D} {b : Bool} (e : ∀ a o, H0 a = some o → H a = some o) (r : Rp K as H0 v d) (h : truD d = some b) : TruV K v H b := by
  cases r with
  | non => cases h; rfl
  | bl b => cases h; rfl
  | int i => cases h; rfl
  | str s =>
    have h' : (if s.length ≤ sizeLine then some ((s.length : Int) != 0) else none) = some b := h
    by_cases q : s.length ≤ sizeLine
    · rw [if_pos q] at h'; cases h'; exact ⟨q, rfl⟩
    · rw [if_neg q] at h'; cases h'
  | lst h1 h2 => cases h; exact .inl ⟨_, SqL.of (e _ _ h1), (isEmpty_rp h2).symm⟩
  | slst h1 h2 => cases h; exact .inl ⟨_, seqL_mono e h1, (isEmpty_rp h2).symm⟩
  | tup h1 h2 => cases h; exact .inr (.inl ⟨_, seqT_mono e h1, (isEmpty_rp h2).symm⟩)
  | dic h1 h2 => cases h; exact .inr (.inr ⟨_, e _ _ h1, (isEmpty_rk h2).symm⟩)
  | ref a => cases h
  | ty n => cases h
  | cel h => cases h
  | fn h => cases h
def dTru (da : DE) : DT := fun c R => da c fun x c1 => ∃ b, truD x = some b ∧ R b c1
theorem pdt_of (ha : PD X a da) (he : ∀ whole, isTrue a X.env whole = (do let v ← whole; standAt a.pos; holding [v] (truthy v)) := by intro _; rfl) : PDT X a (dTru da) :=
  pt_imp (pt_truth ha he) fun σ H Q ⟨as, H0, c, R, ok, q, k⟩ => ⟨as, H0, c, _, ok, q, fun as1 H1 Hn c1 v d l1 ok1 r1 ⟨b, e, q1⟩ => ⟨b, truV_of ok1.c.ex r1 e, k _ _ _ _ _ l1 ok1 q1⟩⟩
def dAndT (ta tb : DT) : DT := fun c R => ta c fun b c1 => match b with | true => tb c1 R | false => R false c1
def dOrT (ta tb : DT) : DT := fun c R => ta c fun b c1 => match b with | true => R true c1 | false => tb c1 R
def dNotT (ta : DT) : DT := fun c R => ta c fun b c1 => R (!b) c1
variable {rest : List Expr} {ta tb : DT}
theorem pdw_one_or (h : PDT X a ta) : PDW X (.BoolOp .Or [a] pos) ta := pw_imp (pw_or1 h) fun _ _ _ q => q
theorem pdw_or (h : PDT X a ta) (g : PDW X (.BoolOp .Or (b :: rest) pos) tb) : PDW X (.BoolOp .Or (a :: b :: rest) pos) (dOrT ta tb) :=
  pw_imp (pw_or h g) fun σ H Q ⟨as, H0, c, R, ok, q, k⟩ => ⟨as, H0, c, _, ok, q, fun as1 H1 Hn c1 z l1 ok1 q1 => by
    cases z with
    | true => exact iteT (k _ _ _ _ _ l1 ok1 q1)
    | false => exact iteF ⟨as1, H1, c1, R, ok1, q1, fun _ _ _ _ _ l2 ok2 q2 => k _ _ _ _ _ (l1.trans l2) ok2 q2⟩⟩
theorem pdt_w (h : PDW X a ta) : PDT X a ta := h.pt
/-- values: and, or, not of truths -/
def dAndV (da db : DE) : DE := fun c R => da c fun x c1 => match x with | .bl true => db c1 R | .bl false => R (.bl false) c1 | _ => False
def dOrV (da db : DE) : DE := fun c R => da c fun x c1 => match x with | .bl true => R (.bl true) c1 | .bl false => db c1 R | _ => False
def dNotV (da : DE) : DE := fun c R => da c fun x c1 => ∃ b, truD x = some b ∧ R (.bl (!b)) c1
def dIfE (t : DT) (da db : DE) : DE := fun c R => t c fun b c1 => match b with | true => da c1 R | false => db c1 R
theorem pd_ifE (ht : PDT X c ta) (ha : PD X a da) (hb : PD X b db) : PD X (.IfExp c a b pos) (dIfE ta da db) :=
  pe_imp (pe_ifExp ht ha hb) fun σ H Q ⟨as, H0, c, R, ok, q, k⟩ => ⟨as, H0, c, _, ok, q, fun as1 H1 Hn c1 z l1 ok1 q1 => by
    cases z with
    | true => exact iteT ⟨as1, H1, c1, R, ok1, q1, fun _ _ _ _ _ _ l2 ok2 r2 q2 => k _ _ _ _ _ _ (l1.trans l2) ok2 r2 q2⟩
    | false => exact iteF ⟨as1, H1, c1, R, ok1, q1, fun _ _ _ _ _ _ l2 ok2 r2 q2 => k _ _ _ _ _ _ (l1.trans l2) ok2 r2 q2⟩⟩

/-! ### argument lists, displays -/
def dNil : DA := fun c R => R [] c
def dCons (da : DE) (dr : DA) : DA := fun c R => da c fun x c1 => dr c1 fun xs c2 => R (x :: xs) c2
variable {es : List Expr} {dr : DA}
theorem lift_nil : ∀ σ H Q, liftA K dNil σ H Q → tNil σ H Q := fun σ H Q ⟨as, H0, c, R, ok, q, k⟩ => k _ _ _ _ _ _ .refl ok .nil q
theorem lift_cons {dk : DA} : ∀ σ H Q, liftA K (dCons da dk) σ H Q → tCons (lift K da) (liftA K dk) σ H Q :=
  fun σ H Q ⟨as, H0, c, R, ok, q, k⟩ => ⟨as, H0, c, _, ok, q, fun as1 H1 Hn c1 v d l1 ok1 r1 q1 => ⟨as1, H1, c1, _, ok1, q1, fun as2 H2 Hn2 c2 vs ds l2 ok2 r2 q2 => k _ _ _ _ _ _ (l1.trans l2) ok2 (.cons (r1.mono l2) r2) q2⟩⟩
theorem pda_nil : PDA X [] dNil := pa_imp pa_nil lift_nil
theorem pda_cons (ha : PD X a da) (hr : PDA X es dr) (hs : starEach (a :: es) X.env = (false, eval a X.env) :: starEach es X.env := by rfl) : PDA X (a :: es) (dCons da dr) := pa_imp (pa_cons ha hr hs) lift_cons
def dTup (dr : DA) : DE := fun c R => dr c fun ds c1 => ds.length ≤ sizeLine ∧ R (.tup ds) c1
def dLst (dr : DA) : DE := fun c R => dr c fun ds c1 => ds.length ≤ sizeLine ∧ R (.lst ds) c1
/-- a list that will change -/
def dLstC (dr : DA) : DE := fun c R => dr c fun ds c1 => ds.length ≤ sizeLine ∧ ∀ k, c1.cs k = none → R (.cel k) { c1 with cs := put c1.cs k (.lst ds) }
theorem pd_tup {x1} (h : PDA X es dr) : PD X (.Tuple es x1 pos) (dTup dr) :=
  pe_imp (pe_tup h) fun σ H Q ⟨as, H0, c, R, ok, q, k⟩ => ⟨as, H0, c, _, ok, q, fun as1 H1 Hn c1 vs ds l1 ok1 r1 ⟨z, q1⟩ => ⟨by rw [r1.length]; exact z, fun p hp => by
    obtain ⟨l, ok'⟩ := new_known (o := .tup vs) ok1 hp
    exact k _ _ _ _ _ _ (l1.trans l) ok' (rp_tup l r1) q1⟩⟩
theorem pd_lst (h : PDA X es dr) : PD X (.List es pos) (dLst dr) :=
  pe_imp (pe_lst h) fun σ H Q ⟨as, H0, c, R, ok, q, k⟩ => ⟨as, H0, c, _, ok, q, fun as1 H1 Hn c1 vs ds l1 ok1 r1 ⟨z, q1⟩ => ⟨by rw [r1.length]; exact z, fun p hp => by
    obtain ⟨l, ok'⟩ := new_known (o := .lst vs) ok1 hp
    exact k _ _ _ _ _ _ (l1.trans l) ok' (rp_lst l r1) q1⟩⟩
/-- a new cell -/
theorem new_cell {σ : L2.St} {as : AsM} {H0 H : Hp} {c : Z} {p : Addr} {u : HO} {o : Co} (ok : Ok K as H0 H σ c) (hp : H p = none) (r : RpC K as H0 p u o) :
    ∃ k as', c.cs k = none ∧ Le as H0 as' H0 ∧ Ok K as' H0 (upd H p u) σ { c with cs := put c.cs k o } ∧ Rp K as' H0 (.ref p) (.cel k) := by
  obtain ⟨k, as', h1, h2, h3, h4⟩ := ok.c.cell hp r
  exact ⟨k, as', h1, h2, ⟨h3, ok.e.mono h2⟩, .cel h4⟩
theorem pd_lstC (h : PDA X es dr) : PD X (.List es pos) (dLstC dr) :=
  pe_imp (pe_lst h) fun σ H Q ⟨as, H0, c, R, ok, q, k⟩ => ⟨as, H0, c, _, ok, q, fun as1 H1 Hn c1 vs ds l1 ok1 r1 ⟨z, q1⟩ => ⟨by rw [r1.length]; exact z, fun p hp => by
    obtain ⟨j, as', n, l, ok', r⟩ := new_cell ok1 hp (.lst r1)
    exact k _ _ _ _ _ _ (l1.trans l) ok' r (q1 j n)⟩⟩
end
end DL

namespace DL
open PySem L2

/-! ### built-in functions -/
abbrev DFn := List D → Z → (D → Z → Prop) → Prop
def CallD (K : PySem.W.Frag) (r : List V → Hp → VK → Prop) (f : DFn) : Prop := ∀ as H0 H σ c vs ds R (Q : VK), Ok K as H0 H σ c → RpA K as H0 vs ds → f ds c R →
  (∀ as' H0' H' c' v d, Le as H0 as' H0' → Ok K as' H0' H' σ c' → Rp K as' H0' v d → R d c' → Q v H') → r vs H Q
def dCall (f : DFn) (da : DA) : DE := fun c R => da c fun ds c1 => f ds c1 R
theorem lift_call {K : PySem.W.Frag} {r : List V → Hp → VK → Prop} {f : DFn} {da : DA} (h : CallD K r f) : ∀ σ H Q, lift K (dCall f da) σ H Q → tCB r (liftA K da) σ H Q :=
  fun σ H Q ⟨as, H0, c, R, ok, q, k⟩ => ⟨as, H0, c, _, ok, q, fun as1 H1 Hn1 c1 vs ds l1 ok1 r1 q1 =>
    h as1 H1 Hn1 σ c1 vs ds R Q ok1 r1 q1 fun as2 H2 Hn2 c2 v2 d2 l2 ok2 r2 q2 => k _ _ _ _ _ _ (l1.trans l2) ok2 r2 q2⟩
theorem callR_or {X : Cx} {f : Value} {r r' : List V → Hp → VK → Prop} (h : CallR X f r) (h' : CallR X f r') : CallR X f (fun xs H Q => r xs H Q ∨ r' xs H Q) :=
  fun pins s σ H xs us Q I rx z => z.elim (h pins s σ H xs us Q I rx) (h' pins s σ H xs us Q I rx)
section
variable {X : Cx} {x : Str} {p pos : Pos} {e : Expr} {es : List Expr} {da : DA} {id T : String} {r : List V → Hp → VK → Prop} {f : DFn}
theorem pd_callB (hc : CallR X (.builtin id) r) (hd : CallD X.K r f) (hg : Gl X x) (hm : X.mg x = none) (hv : bootBuiltins x = some (.builtin id)) (ha : PDA X (e :: es) da) (hn : x ≠ "__name__" := by decide) (hdb : (x == ("__debug__" : Str)) = false := by decide)
    (he : starEach (e :: es) X.env = (false, eval e X.env) :: starEach es X.env := by rfl) (hpl : (backTo pos (starEach es X.env)).any (·.1) = false := by rfl) : PD X (.Call (.Name x p) (e :: es) [] pos) (dCall f da) :=
  pe_imp (pe_callB hc hg hm hv ha hn hdb he hpl) (lift_call hd)
theorem pd_callTy (hc : CallR X (.type T) r) (hd : CallD X.K r f) (hg : Gl X x) (hm : X.mg x = none) (hv : bootBuiltins x = some (.type T)) (ha : PDA X (e :: es) da) (hn : x ≠ "__name__" := by decide) (hdb : (x == ("__debug__" : Str)) = false := by decide)
    (he : starEach (e :: es) X.env = (false, eval e X.env) :: starEach es X.env := by rfl) (hpl : (backTo pos (starEach es X.env)).any (·.1) = false := by rfl) : PD X (.Call (.Name x p) (e :: es) [] pos) (dCall f da) :=
  pe_imp (pe_callTy hc hg hm hv ha hn hdb he hpl) (lift_call hd)
end
section
variable {K : PySem.W.Frag} {X : Cx}
theorem rpa1 {as : AsM} {H : Hp} {vs : List V} {d : D} (h : RpA K as H vs [d]) : ∃ v, vs = [v] ∧ Rp K as H v d := by
  cases h with | cons h1 h2 => cases h2; exact ⟨_, rfl, h1⟩
theorem rpa2 {as : AsM} {H : Hp} {vs : List V} {d e : D} (h : RpA K as H vs [d, e]) : ∃ v u, vs = [v, u] ∧ Rp K as H v d ∧ Rp K as H u e := by
  cases h with | cons h1 h2 => obtain ⟨u, rfl, h3⟩ := rpa1 h2; exact ⟨_, u, rfl, h1, h3⟩
def fAbs : DFn := fun ds c R => match ds with | [.int i] => R (.int (if i < 0 then -i else i)) c | _ => False
theorem callD_abs : CallD K (fun xs H Q => ∃ i, xs = [V.int i] ∧ Q (.int (if i < 0 then -i else i)) H) fAbs := by
  intro as H0 H σ c vs ds R Q ok r h k
  unfold fAbs at h
  split at h
  · obtain ⟨v, rfl, r1⟩ := rpa1 r; cases r1; exact ⟨_, rfl, k _ _ _ _ _ _ .refl ok (.int _) h⟩
  · exact h.elim
def fMax : DFn := fun ds c R => match ds with | [.int i, .int j] => R (.int (if j > i then j else i)) c | _ => False
theorem callD_max : CallD K (fun xs H Q => ∃ i j, xs = [V.int i, V.int j] ∧ Q (.int (if j > i then j else i)) H) fMax := by
  intro as H0 H σ c vs ds R Q ok r h k
  unfold fMax at h
  split at h
  · obtain ⟨v, u, rfl, r1, r2⟩ := rpa2 r; cases r1; cases r2; exact ⟨_, _, rfl, k _ _ _ _ _ _ .refl ok (.int _) h⟩
  · exact h.elim
def fMin : DFn := fun ds c R => match ds with | [.int i, .int j] => R (.int (if j < i then j else i)) c | _ => False
theorem callD_min : CallD K (fun xs H Q => ∃ i j, xs = [V.int i, V.int j] ∧ Q (.int (if j < i then j else i)) H) fMin := by
  intro as H0 H σ c vs ds R Q ok r h k
  unfold fMin at h
  split at h
  · obtain ⟨v, u, rfl, r1, r2⟩ := rpa2 r; cases r1; cases r2; exact ⟨_, _, rfl, k _ _ _ _ _ _ .refl ok (.int _) h⟩
  · exact h.elim
def fInt : DFn := fun ds c R => match ds with | [.int i] => R (.int i) c | [.bl b] => R (.int (if b then 1 else 0)) c | _ => False
theorem callD_int : CallD K (fun xs H Q => (∃ i, xs = [V.int i] ∧ Q (.int i) H) ∨ ∃ k, xs = [V.bl k] ∧ Q (.int (if k then 1 else 0)) H) fInt := by
  intro as H0 H σ c vs ds R Q ok r h k
  unfold fInt at h
  split at h
  · obtain ⟨v, rfl, r1⟩ := rpa1 r; cases r1; exact .inl ⟨_, rfl, k _ _ _ _ _ _ .refl ok (.int _) h⟩
  · obtain ⟨v, rfl, r1⟩ := rpa1 r; cases r1; exact .inr ⟨_, rfl, k _ _ _ _ _ _ .refl ok (.int _) h⟩
  · exact h.elim
/-- len -/
def fLen : DFn := fun ds c R => match ds with
  | [.lst xs] => R (.int (xs.length : Int)) c | [.slst xs] => R (.int (xs.length : Int)) c | [.tup xs] => R (.int (xs.length : Int)) c | [.dic xs] => R (.int (xs.length : Int)) c
  | [.str s] => s.length ≤ sizeLine ∧ R (.int (s.length : Int)) c
  | [.cel k] => ∃ xs, c.cs k = some (.lst xs) ∧ R (.int (xs.length : Int)) c
  | _ => False
theorem RpK.length {as : AsM} {H : Hp} : ∀ {ds : List (Key × D)} {vs : List (Key × V)}, RpK K as H vs ds → vs.length = ds.length
  | [], _, h => by cases h; rfl
  | _ :: _, _, h => by cases h with | cons h1 h2 => exact congrArg Nat.succ (RpK.length h2)
/-- what a cell of a list is in the heap -/
theorem cell_lst {as : AsM} {H0 H : Hp} {σ : L2.St} {c : Z} {k : Nat} {ds : List D} {v : V} (ok : Ok K as H0 H σ c) (r : Rp K as H0 v (.cel k)) (h : c.cs k = some (.lst ds)) : ∃ p vs, v = .ref p ∧ as k = some p ∧ H p = some (.lst vs) ∧ RpA K as H0 vs ds := by
  cases r with
  | cel e =>
    obtain ⟨p', u, h1, h2, h3, h4⟩ := ok.c.cel k _ h
    rw [e] at h1; cases h1
    cases h4 with
    | lst h5 => exact ⟨_, _, rfl, e, h3, h5⟩
def rLen3 (K : PySem.W.Frag) : List V → Hp → VK → Prop := fun xs H Q => (∃ p ys, xs = [V.ref p] ∧ (SqL K H p ys ∨ SqT K H p ys) ∧ Q (.int ys.length) H) ∨ (∃ z, xs = [V.str z] ∧ z.length ≤ sizeLine ∧ Q (.int z.length) H) ∨ (∃ a kvs, xs = [V.ref a] ∧ H a = some (.dK kvs) ∧ Q (.int kvs.length) H)
theorem call_len3 : CallR X (.builtin "len") (rLen3 X.K) := callR_or call_len_seq (callR_or call_len_str call_lenD)
theorem callD_len : CallD K (rLen3 K) fLen := by
  intro as H0 H σ c vs ds R Q ok r h k
  unfold fLen at h
  split at h
  · obtain ⟨v, rfl, r1⟩ := rpa1 r
    cases r1 with | lst g1 g2 => exact .inl ⟨_, _, rfl, .inl (SqL.of (ok.c.ex _ _ g1)), by rw [g2.length]; exact k _ _ _ _ _ _ .refl ok (.int _) h⟩
  · obtain ⟨v, rfl, r1⟩ := rpa1 r
    cases r1 with | slst g1 g2 => exact .inl ⟨_, _, rfl, .inl (seqL_mono ok.c.ex g1), by rw [g2.length]; exact k _ _ _ _ _ _ .refl ok (.int _) h⟩
  · obtain ⟨v, rfl, r1⟩ := rpa1 r
    cases r1 with | tup g1 g2 => exact .inl ⟨_, _, rfl, .inr (seqT_mono ok.c.ex g1), by rw [g2.length]; exact k _ _ _ _ _ _ .refl ok (.int _) h⟩
  · obtain ⟨v, rfl, r1⟩ := rpa1 r
    cases r1 with | dic g1 g2 => exact .inr (.inr ⟨_, _, rfl, ok.c.ex _ _ g1, by rw [g2.length]; exact k _ _ _ _ _ _ .refl ok (.int _) h⟩)
  · obtain ⟨v, rfl, r1⟩ := rpa1 r
    cases r1; exact .inr (.inl ⟨_, rfl, h.1, k _ _ _ _ _ _ .refl ok (.int _) h.2⟩)
  · obtain ⟨v, rfl, r1⟩ := rpa1 r
    obtain ⟨xs, h1, h2⟩ := h
    obtain ⟨p, us, rfl, _, g3, g4⟩ := cell_lst ok r1 h1
    exact .inl ⟨_, _, rfl, .inl (SqL.of g3), by rw [g4.length]; exact k _ _ _ _ _ _ .refl ok (.int _) h2⟩
  · exact h.elim
/-- sum of ints -/
def intsOf : List D → Option (List Int)
  | [] => some []
  | .int i :: ds => (intsOf ds).map (i :: ·)
  | _ => none
theorem intsOf_rp {as : AsM} {H : Hp} : ∀ {ds : List D} {vs : List V} {ns : List Int}, RpA K as H vs ds → intsOf ds = some ns → vs = ns.map V.int
  | [], _, ns, h, e => by cases h; cases e; rfl
  | d :: ds, _, ns, h, e => by
    cases h with
    | cons h1 h2 =>
      cases d with
      | int i =>
        cases h1
        cases q : intsOf ds with
        | none =>
          have e' : (intsOf ds).map (i :: ·) = some ns := e
          rw [q] at e'; cases e'
        | some ms =>
          have e' : (intsOf ds).map (i :: ·) = some ns := e
          rw [q] at e'; cases e'
          rw [intsOf_rp h2 q]; rfl
      | _ => cases e
@[simp] theorem intsOf_map (ns : List Int) : intsOf (ns.map D.int) = some ns := by
  induction ns with
  | nil => rfl
  | cons n ns ih => show (intsOf (ns.map D.int)).map (n :: ·) = _; rw [ih]; rfl
def listD : D → Option (List D) | .lst ds => some ds | .slst ds => some ds | _ => none
theorem listD_rp {as : AsM} {H0 H : Hp} {v : V} {d : D} {ds : List D} (e : ∀ a o, H0 a = some o → H a = some o) (r : Rp K as H0 v d) (h : listD d = some ds) : ∃ a vs, v = .ref a ∧ SqL K H a vs ∧ RpA K as H0 vs ds := by
  cases r with
  | lst h1 h2 => cases h; exact ⟨_, _, rfl, SqL.of (e _ _ h1), h2⟩
  | slst h1 h2 => cases h; exact ⟨_, _, rfl, seqL_mono e h1, h2⟩
  | _ => cases h
def fSum : DFn := fun ds c R => ∃ d xs ns, ds = [d] ∧ listD d = some xs ∧ intsOf xs = some ns ∧ R (.int ns.sum) c
theorem callD_sum : CallD K (rSum K) fSum := by
  intro as H0 H σ c vs ds R Q ok r ⟨d, xs, ns, e, h1, h2, h3⟩ k
  subst e
  obtain ⟨v, rfl, r1⟩ := rpa1 r
  obtain ⟨a, us, rfl, g1, g2⟩ := listD_rp ok.c.ex r1 h1
  have e := intsOf_rp g2 h2
  subst e
  exact ⟨a, ns, rfl, g1, k _ _ _ _ _ _ .refl ok (.int _) h3⟩

/-! ### isinstance against built-in types -/
def tyN : D → Option String
  | .non => some "NoneType" | .bl _ => some "bool" | .int _ => some "int" | .str _ => some "str" | .lst _ => some "list" | .slst _ => some "list" | .tup _ => some "tuple" | .dic _ => some "dict" | _ => none
end

/-! ### subscripts -/
section
variable {K : PySem.W.Frag} {X : Cx} {a b : Expr} {da db : DE} {pos : Pos}
def lookD (kvs : List (Key × D)) (k : Key) : Option D := (kvs.find? fun kv => decide (kv.1 = k)).map (·.2)
theorem lookD_rp {as : AsM} {H : Hp} {k : Key} : ∀ {ds : List (Key × D)} {vs : List (Key × V)} {d : D}, RpK K as H vs ds → lookD ds k = some d → ∃ v, valV vs k = some v ∧ Rp K as H v d
  | [], _, _, h, e => by cases e
  | (j, x) :: ds, _, d, h, e => by
    cases h with
    | cons h1 h2 =>
      by_cases q : j = k
      · subst q
        have : lookD ((j, x) :: ds) j = some x := by simp [lookD, List.find?_cons]
        rw [this] at e; cases e
        exact ⟨_, valV_pos rfl, h1⟩
      · have e1 : lookD ((j, x) :: ds) k = lookD ds k := by simp [lookD, List.find?_cons, q]
        rw [e1] at e
        obtain ⟨v, g1, g2⟩ := lookD_rp h2 e
        exact ⟨v, by rw [valV_neg q]; exact g1, g2⟩
def dIxF : DF := fun x y c R => match x, y with
  | .lst ds, .int i => ∃ d, atI ds i = some d ∧ R d c
  | .slst ds, .int i => ∃ d, atI ds i = some d ∧ R d c
  | .tup ds, .int i => ∃ d, atI ds i = some d ∧ R d c
  | .cel k, .int i => ∃ ds d, c.cs k = some (.lst ds) ∧ atI ds i = some d ∧ R d c
  | .str s, .int i => ∃ ch, s.length ≤ sizeLine ∧ atI s.cps.toList i = some ch ∧ R (.str ⟨#[ch]⟩) c
  | .dic kvs, .int i => ∃ d, lookD kvs (.inl i) = some d ∧ R d c
  | .dic kvs, .str s => ∃ d, lookD kvs (.inr s) = some d ∧ R d c
  | _, _ => False
theorem atI_rp {as : AsM} {H : Hp} {vs : List V} {ds : List D} {i : Int} {d : D} (r : RpA K as H vs ds) (h : atI ds i = some d) : ∃ v, atI vs i = some v ∧ Rp K as H v d := by
  unfold atI at h ⊢
  rw [r.length]
  cases q : ixN ds.length i with
  | none => rw [q] at h; cases h
  | some j => rw [q] at h; exact r.get h
def rIxDic : R2 := fun x y H Q => ∃ a v, x = .ref a ∧ DGet H a y (some v) ∧ Q v H
theorem ix_dic (hu : X.A.units + 1 < cLine) : IxR X rIxDic := by
  intro value slice pins s σ H x y v u Q I rx ry ⟨a, z, e, g, q⟩ hs
  subst e
  cases rx
  exact PyProof.Rows.tail_any (dict_typeIs I g) PySem.F.slot_dict_getitem.lookup (d_getItem hu I g ry fun w' s3 I3 rw' => ⟨z, H, I3, rw', q⟩) hs
def rIx4 (K : PySem.W.Frag) : R2 := fun x y H Q => rIx K x y H Q ∨ rIxDic x y H Q
theorem opD_ix : OpD K (rIx4 K) dIxF := by
  intro as H0 H σ c v1 v2 d1 d2 R Q ok r1 r2 h k
  unfold dIxF at h
  split at h
  · obtain ⟨d, h1, h2⟩ := h
    cases r2
    cases r1 with
    | lst g1 g2 =>
      obtain ⟨v, e1, e2⟩ := atI_rp g2 h1
      exact .inl (.inl ⟨_, _, _, v, rfl, rfl, SqL.of (ok.c.ex _ _ g1), e1, k _ _ _ _ _ _ .refl ok e2 h2⟩)
  · obtain ⟨d, h1, h2⟩ := h
    cases r2
    cases r1 with
    | slst g1 g2 =>
      obtain ⟨v, e1, e2⟩ := atI_rp g2 h1
      exact .inl (.inl ⟨_, _, _, v, rfl, rfl, seqL_mono ok.c.ex g1, e1, k _ _ _ _ _ _ .refl ok e2 h2⟩)
  · obtain ⟨d, h1, h2⟩ := h
    cases r2
    cases r1 with
    | tup g1 g2 =>
      obtain ⟨v, e1, e2⟩ := atI_rp g2 h1
      exact .inl (.inr (.inl ⟨_, _, _, v, rfl, rfl, seqT_mono ok.c.ex g1, e1, k _ _ _ _ _ _ .refl ok e2 h2⟩))
  · obtain ⟨ds, d, h0, h1, h2⟩ := h
    cases r2
    obtain ⟨p, us, rfl, _, g3, g4⟩ := cell_lst ok r1 h0
    obtain ⟨v, e1, e2⟩ := atI_rp g4 h1
    exact .inl (.inl ⟨_, _, _, v, rfl, rfl, SqL.of g3, e1, k _ _ _ _ _ _ .refl ok e2 h2⟩)
  · obtain ⟨ch, h0, h1, h2⟩ := h
    cases r1; cases r2
    exact .inl (.inr (.inr ⟨_, _, ch, rfl, rfl, h0, h1, k _ _ _ _ _ _ .refl ok (.str _) h2⟩))
  · rename_i kvs i
    obtain ⟨d, h1, h2⟩ := h
    cases r2
    cases r1 with
    | dic g1 g2 =>
      obtain ⟨v, e1, e2⟩ := lookD_rp g2 h1
      have g : DGet H _ (kV (Sum.inl i)) _ := DGet.k (ok.c.ex _ _ g1)
      rw [e1] at g
      exact .inr ⟨_, v, rfl, g, k _ _ _ _ _ _ .refl ok e2 h2⟩
  · rename_i kvs i
    obtain ⟨d, h1, h2⟩ := h
    cases r2
    cases r1 with
    | dic g1 g2 =>
      obtain ⟨v, e1, e2⟩ := lookD_rp g2 h1
      have g : DGet H _ (kV (Sum.inr i)) _ := DGet.k (ok.c.ex _ _ g1)
      rw [e1] at g
      exact .inr ⟨_, v, rfl, g, k _ _ _ _ _ _ .refl ok e2 h2⟩
  · exact h.elim
theorem pd_ix (hu : X.A.units + 1 < cLine) (ha : PD X a da) (hb : PD X b db) (hs : PlainIx b) : PD X (.Subscript a b pos) (dBin dIxF da db) := pe_imp (pe_ix (ix_seq.or (ix_dic hu)) ha hb hs) (lift_op opD_ix)

/-! #### slices -/
abbrev DO := Z → (Option Int → Z → Prop) → Prop
def liftO (K : PySem.W.Frag) (do_ : DO) : TO := fun σ H Q => ∃ as H0 c R, Ok K as H0 H σ c ∧ do_ c R ∧ ∀ as' H0' H' c' o, Le as H0 as' H0' → Ok K as' H0' H' σ c' → R o c' → Q o H'
def dNoPart : DO := fun c R => R none c
def dPart (da : DE) : DO := fun c R => da c fun x c1 => match x with | .int i => R (some i) c1 | _ => False
theorem po_imp {e : Option Expr} {t t' : TO} (h : PO X e t) (i : ∀ σ H Q, t' σ H Q → t σ H Q) : PO X e t' := ⟨fun pins s σ H Q I q => h.run pins s σ H Q I (i σ H Q q)⟩
abbrev PDO (X : Cx) (e : Option Expr) (d : DO) : Prop := PO X e (liftO X.K d)
theorem pdo_none : PDO X none dNoPart := po_imp po_none fun σ H Q ⟨as, H0, c, R, ok, q, k⟩ => k _ _ _ _ _ .refl ok q
theorem pdo_some (ha : PD X a da) : PDO X (some a) (dPart da) := po_imp (po_some ha) fun σ H Q ⟨as, H0, c, R, ok, q, k⟩ => ⟨as, H0, c, _, ok, q, fun as1 H1 Hn c1 v d l1 ok1 r1 q1 => by
  cases d with
  | int i => cases r1; exact ⟨i, rfl, k _ _ _ _ _ l1 ok1 q1⟩
  | _ => exact q1.elim⟩
def cutD (xs : List D) (lo hi : Option Int) : List D := (xs.drop (HT.sIx xs.length 0 lo)).take (HT.sIx xs.length xs.length hi - HT.sIx xs.length 0 lo)
theorem cut_rp {as : AsM} {H : Hp} {vs : List V} {ds : List D} {lo hi : Option Int} (r : RpA K as H vs ds) : RpA K as H (cutV vs lo hi) (cutD ds lo hi) := by
  unfold cutV cutD
  rw [r.length]
  exact (r.drop _).take _
def dSlF : D → Option Int → Option Int → Z → (D → Z → Prop) → Prop := fun x lo hi c R => match x with
  | .lst ds => R (.lst (cutD ds lo hi)) c
  | .slst ds => R (.lst (cutD ds lo hi)) c
  | .tup ds => ¬ (HT.sIx ds.length 0 lo = 0 ∧ HT.sIx ds.length ds.length hi = ds.length) ∧ R (.tup (cutD ds lo hi)) c
  | .str s => s.length ≤ sizeLine ∧ R (.str (cutS s lo hi)) c
  | _ => False
def dSl (da : DE) (dl dh : DO) : DE := fun c R => da c fun x c1 => dl c1 fun lo c2 => dh c2 fun hi c3 => dSlF x lo hi c3 R
theorem pd_slice {lo hi : Option Expr} {dl dh : DO} {p2 : Pos} (ha : PD X a da) (hl : PDO X lo dl) (hh : PDO X hi dh) : PD X (.Subscript a (.Slice lo hi none p2) pos) (dSl da dl dh) :=
  pe_imp (pe_slice (sl_list.or (sl_tup.or sl_str)) ha hl hh) fun σ H Q ⟨as, H0, c, R, ok, q, k⟩ => ⟨as, H0, c, _, ok, q, fun as1 H1 Hn c1 v d l1 ok1 r1 q1 => ⟨as1, H1, c1, _, ok1, q1, fun as2 H2 Hn2 c2 lo l2 ok2 q2 => ⟨as2, H2, c2, _, ok2, q2, fun as3 H3 Hn3 c3 hi l3 ok3 q3 => by
    have r3 := r1.mono (l2.trans l3)
    have l := (l1.trans l2).trans l3
    unfold dSlF at q3
    split at q3
    · cases r3 with
      | lst g1 g2 =>
        refine .inl ⟨_, _, rfl, SqL.of (ok3.c.ex _ _ g1), fun p hp => ?_⟩
        obtain ⟨l', ok'⟩ := new_known (o := .lst _) ok3 hp
        exact k _ _ _ _ _ _ (l.trans l') ok' (rp_lst l' (cut_rp g2)) q3
    · cases r3 with
      | slst g1 g2 =>
        refine .inl ⟨_, _, rfl, seqL_mono ok3.c.ex g1, fun p hp => ?_⟩
        obtain ⟨l', ok'⟩ := new_known (o := .lst _) ok3 hp
        exact k _ _ _ _ _ _ (l.trans l') ok' (rp_lst l' (cut_rp g2)) q3
    · cases r3 with
      | tup g1 g2 =>
        refine .inr (.inl ⟨_, _, rfl, seqT_mono ok3.c.ex g1, by rw [g2.length]; exact q3.1, fun p hp => ?_⟩)
        obtain ⟨l', ok'⟩ := new_known (o := .tup _) ok3 hp
        exact k _ _ _ _ _ _ (l.trans l') ok' (rp_tup l' (cut_rp g2)) q3.2
    · cases r3
      exact .inr (.inr ⟨_, rfl, q3.1, k _ _ _ _ _ _ l ok3 (.str _) q3.2⟩)
    · exact q3.elim⟩⟩⟩
end

/-! ### statements -/
section
variable {K : PySem.W.Frag} {X : Cx} {e tg : Expr} {st : Stmt} {rest : List Stmt} {da : DE} {pos : Pos} {s1 s2 : DS}
def sNext : DS := fun DD c => DD.nx c
def sSeq (s t : DS) : DS := fun DD c => s { DD with nx := t DD } c
def sAsg (da : DE) (i : Nat) : DS := fun DD c => da c fun d c1 => DD.nx { c1 with env := c1.env.set i (some d) }
def sRet (da : DE) : DS := fun DD c => da c fun d c1 => DD.rt d c1.cs
def sRetN : DS := fun DD c => DD.rt .non c.cs
def sDrop (da : DE) : DS := fun DD c => da c fun _ c1 => DD.nx c1
def sIf (t : DT) (s u : DS) : DS := fun DD c => t c fun b c1 => match b with | true => s DD c1 | false => u DD c1
def sBreak : DS := fun DD c => DD.bk c
def sCont : DS := fun DD c => DD.ct c
theorem pdb_nil : PDB X [] sNext := fun W tk => pss_imp pss_nil fun Dn σ H ⟨as, H0, c, DD, ok, q, k⟩ => k.nx _ _ _ _ _ .refl ok q
theorem pdb_one (h : PDS X st s1) : PDB X [st] s1 := fun W tk => pss_imp (pss_one (h W tk)) fun _ _ _ q => q
theorem pdb_cons (h : PDS X st s1) (g : PDB X rest s2) : PDB X (st :: rest) (sSeq s1 s2) := fun W tk => pss_imp (pss_cons (h W tk) (g W tk)) fun Dn σ H ⟨as, H0, c, DD, ok, q, k⟩ => ⟨as, H0, c, _, ok, q, ⟨fun as1 H1 Hn σ1 c1 l1 ok1 q1 => ⟨as1, H1, c1, DD, ok1, q1, k.mono l1⟩, k.bk, k.ct, k.rt, k.xx⟩⟩
theorem pds_ret (h : PD X e da) : PDS X (.Return (some e) pos) (sRet da) := fun W tk => ps_imp (ps_ret h) fun Dn σ H ⟨as, H0, c, DD, ok, q, k⟩ => ⟨as, H0, c, _, ok, q, fun as1 H1 Hn c1 v d l1 ok1 r1 q1 => k.rt _ _ _ _ _ _ l1 ok1.c r1 q1⟩
theorem pds_if {t : DT} {a b : List Stmt} (ht : PDT X e t) (ha : PDB X a s1) (hb : PDB X b s2) : PDS X (.If e a b pos) (sIf t s1 s2) := fun W tk => ps_imp (ps_if ht (ha W tk) (hb W tk)) fun Dn σ H ⟨as, H0, c, DD, ok, q, k⟩ => ⟨as, H0, c, _, ok, q, fun as1 H1 Hn c1 z l1 ok1 q1 => by
    cases z with
    | true => exact iteT ⟨as1, H1, c1, DD, ok1, q1, k.mono l1⟩
    | false => exact iteF ⟨as1, H1, c1, DD, ok1, q1, k.mono l1⟩⟩
theorem pds_set {i : Nat} {x : Str} {pos' : Pos} (hN : X.N.Nodup) (hi : X.N[i]? = some x) (hx : Loc X.env.scope x) (h : PD X e da) (hs : swapsWith e (some (.Name x pos')) pos.line X.env = pure false := by rfl)
    (hf : X.fn x = true ∨ X.env.scope.names.lookup x = some .local := by first | exact .inl rfl | exact .inr rfl | assumption) : PDS X (.Assign [.Name x pos'] e pos) (sAsg da i) := fun W tk => ps_imp (ps_set hN hi hx h hs hf) fun Dn σ H ⟨as, H0, c, DD, ok, q, k⟩ => ⟨as, H0, c, _, ok, q, fun as1 H1 Hn c1 v d l1 ok1 r1 q1 =>
    k.nx _ _ _ _ _ l1 (⟨ok1.c, ok1.e.set i r1⟩ : Ok X.K as1 H1 Hn (σ.set i (some v)) { c1 with env := c1.env.set i (some d) }) q1⟩
/-- targets -/
abbrev DG := D → Z → (Z → Prop) → Prop
def liftG (K : PySem.W.Frag) (dg : DG) : TG := fun v σ H Q => ∃ (as : AsM) (H0 : Hp) (c : Z) (d : D) (R : Z → Prop), Ok K as H0 H σ c ∧ Rp K as H0 v d ∧ dg d c R ∧ ∀ (as' : AsM) (H0' H' : Hp) (σ' : L2.St) (c' : Z), Le as H0 as' H0' → Ok K as' H0' H' σ' c' → R c' → Q σ' H'
def pg_imp {e : Expr} {t t' : TG} (h : PG X e t) (i : ∀ v σ H Q, t' v σ H Q → t v σ H Q) : PG X e t' := ⟨fun pins s σ H x u Q I r q => h.run pins s σ H x u Q I r (i _ _ _ _ q)⟩
abbrev PDG (X : Cx) (e : Expr) (dg : DG) : Prop := PG X e (liftG X.K dg)
def gNm (i : Nat) : DG := fun d c R => R { c with env := c.env.set i (some d) }
theorem pdg_name {i : Nat} {x : Str} (hN : X.N.Nodup) (hi : X.N[i]? = some x) (hx : Loc X.env.scope x) (hf : X.fn x = true ∨ X.env.scope.names.lookup x = some .local := by first | exact .inl rfl | exact .inr rfl | assumption) : PDG X (.Name x pos) (gNm i) :=
  pg_imp (pg_name hN hi hx hf) fun v σ H Q ⟨as, H0, c, d, R, ok, r, q, k⟩ => k _ _ _ _ _ .refl (⟨ok.c, ok.e.set i r⟩ : Ok X.K as H0 H (σ.set i (some v)) { c with env := c.env.set i (some d) }) q
def gList : List DG → List D → Z → (Z → Prop) → Prop
  | [], [], c, R => R c
  | g :: gs, d :: ds, c, R => g d c fun c1 => gList gs ds c1 R
  | _, _, _, _ => False
def gTp (gs : List DG) : DG := fun d c R => ∃ ds, d = .tup ds ∧ ds.length = gs.length ∧ gList gs ds c R
def pgs_imp {e : List Expr} {t t' : TGs} (h : PGs X e t) (i : ∀ v σ H Q, t' v σ H Q → t v σ H Q) : PGs X e t' := ⟨fun pins s σ H x u Q I r q => h.run pins s σ H x u Q I r (i _ _ _ _ q)⟩

/-- o[i] = v, o a list that changes -/
def gIx (do_ di : DE) : DG := fun v c R => do_ c fun o c1 => di c1 fun i c2 => match o, i with
  | .cel k, .int j => ∃ ds n, c2.cs k = some (.lst ds) ∧ ixN ds.length j = some n ∧ R { c2 with cs := put c2.cs k (.lst (ds.set n v)) }
  | _, _ => False
theorem cell_set {as : AsM} {H0 H : Hp} {σ : L2.St} {c : Z} {k : Nat} {p : Addr} {u : HO} {o o0 : Co} (ok : Ok K as H0 H σ c) (hk : c.cs k = some o0) (hp : as k = some p) (r : RpC K as H0 p u o) :
    Ok K as H0 (upd H p u) σ { c with cs := put c.cs k o } := ⟨ok.c.turn hk hp r, ok.e⟩
theorem pdg_ix {o i : Expr} {do_ di : DE} (ho : PD X o do_) (hi : PD X i di)
    (ha : ∀ v, assign (.Subscript o i pos) X.env v = (do
      let ov ← holding [v] (eval o X.env)
      let iv ← holding [v, ov] (eval i X.env)
      standAt pos
      holding [v, ov, iv] (setItem ov iv v)
      release [v, ov, iv] []) := by intro _; rfl) : PDG X (.Subscript o i pos) (gIx do_ di) :=
  pg_imp (pg_sub ho hi set_list ha) fun v σ H Q ⟨as, H0, c, d, R, ok, r, q, k⟩ => ⟨as, H0, c, _, ok, q, fun as1 H1 Hn c1 v1 d1 l1 ok1 r1 q1 => ⟨as1, H1, c1, _, ok1, q1, fun as2 H2 Hn2 c2 v2 d2 l2 ok2 r2 q2 => by
    cases d1 with
    | cel j =>
      cases d2 with
      | int z =>
        obtain ⟨ds, n, e1, e2, q3⟩ := q2
        cases r2
        obtain ⟨p, us, rfl, hp, g3, g4⟩ := cell_lst ok2 (r1.mono l2) e1
        refine ⟨_, _, _, n, rfl, rfl, g3, by rw [g4.length]; exact e2, ?_⟩
        exact k _ _ _ _ _ (l1.trans l2) (cell_set ok2 e1 hp (.lst (g4.set n (r.mono (l1.trans l2))))) q3
      | _ => exact q2.elim
    | _ => cases d2 <;> exact q2.elim⟩⟩
def sAsgG (da : DE) (g : DG) : DS := fun DD c => da c fun d c1 => g d c1 DD.nx
theorem pds_asg {g : DG} (he : PD X e da) (hg : PDG X tg g) (hs : swapsWithSole [tg] e pos.line X.env = pure false := by rfl) (hw : swappedStores [tg] e X.env = pure none := by rfl) (h1 : (assignEach [tg] X.env).map (·.2) = [assign tg X.env] := by rfl) : PDS X (.Assign [tg] e pos) (sAsgG da g) := fun W tk => ps_imp (ps_asg he hg hs hw h1) fun Dn σ H ⟨as, H0, c, DD, ok, q, k⟩ => ⟨as, H0, c, _, ok, q, fun as1 H1 Hn c1 v d l1 ok1 r1 q1 => ⟨as1, H1, c1, d, _, ok1, r1, q1, fun as2 H2 Hn2 σ2 c2 l2 ok2 q2 => k.nx _ _ _ _ _ (l1.trans l2) ok2 q2⟩⟩
/-- a, b = e1, e2 -/
def sPar (i j : Nat) (da : DA) : DS := fun DD c => da c fun ds c1 => match ds with
  | [d1, d2] => DD.nx { c1 with env := (c1.env.set i (some d1)).set j (some d2) }
  | _ => False
theorem pds_par {i j : Nat} {st : Stmt} {dr : DA} (t : PS X st (tPar i j (liftA X.K dr))) : PDS X st (sPar i j dr) :=
  fun W tk => ps_imp t fun Dn σ H ⟨as, H0, c, DD, ok, q, k⟩ => ⟨as, H0, c, _, ok, q, fun as1 H1 Hn c1 vs ds l1 ok1 r1 q1 => by
    match ds, q1 with
    | [d1, d2], q1 =>
      obtain ⟨v, u, rfl, g1, g2⟩ := rpa2 r1
      exact ⟨v, u, rfl, k.nx _ _ _ _ _ l1 (⟨ok1.c, (ok1.e.set i g1).set j g2⟩ : Ok X.K as1 H1 Hn ((σ.set i (some v)).set j (some u)) { c1 with env := (c1.env.set i (some d1)).set j (some d2) }) q1⟩⟩
end

/-! ### loops -/
section
variable {K : PySem.W.Frag} {X : Cx} {e tg : Expr} {body : List Stmt} {da : DE} {pos : Pos} {sb : DS}
/-- what a loop walks: a list of things, told ahead -/
abbrev DI := Z → (List D → Z → Prop) → Prop
def sFor (di : DI) (g : DG) (sb : DS) : DS := fun DD c => di c fun ds c1 => ∃ I : Nat → Z → Prop, I 0 c1 ∧
  (∀ i d c2, ds[i]? = some d → I i c2 → g d c2 fun c3 => sb { DD with nx := I (i + 1), ct := I (i + 1), bk := DD.nx } c3) ∧ ∀ c2, I ds.length c2 → DD.nx c2
/-- W of the low side -/
def lowI (K : PySem.W.Frag) (as : AsM) (H0 : Hp) (I : Z → Prop) (σ : L2.St) (H : Hp) : Prop := ∃ as' H0' c', Le as H0 as' H0' ∧ Ok K as' H0' H σ c' ∧ I c'
def iSeq (da : DE) : DI := fun c R => da c fun d c1 => ∃ ds, listD d = some ds ∧ R ds c1
def iTp (da : DE) : DI := fun c R => da c fun d c1 => ∃ ds, d = .tup ds ∧ R ds c1
def rangeD (lo : Int) (n : Nat) : List D := (List.range n).map fun i : Nat => D.int (lo + (i : Int))
@[simp] theorem rangeD_length {lo : Int} {n : Nat} : (rangeD lo n).length = n := by unfold rangeD; rw [List.length_map, List.length_range]
theorem rangeD_at {lo : Int} {n i : Nat} (h : i < n) : (rangeD lo n)[i]? = some (.int (lo + (i : Int))) := by
  unfold rangeD; rw [List.getElem?_map, List.getElem?_range h]; rfl
theorem rangeD_get {lo : Int} {n i : Nat} {d : D} (h : (rangeD lo n)[i]? = some d) : i < n ∧ d = .int (lo + (i : Int)) := by
  have hi : i < n := by
    rcases Nat.lt_or_ge i n with q | q
    · exact q
    · rw [List.getElem?_eq_none (by rw [rangeD_length]; exact q)] at h; cases h
  rw [rangeD_at hi] at h; cases h; exact ⟨hi, rfl⟩
def iRng1 (da : DA) : DI := fun c R => da c fun ds c1 => match ds with
  | [.int n] => -(2 ^ 62) ≤ n ∧ n < 2 ^ 62 ∧ R (rangeD 0 n.toNat) c1
  | _ => False
def iRng2 (da : DA) : DI := fun c R => da c fun ds c1 => match ds with
  | [.int lo, .int hi] => (-(2 ^ 62) ≤ lo ∧ lo < 2 ^ 62 ∧ -(2 ^ 62) ≤ hi ∧ hi < 2 ^ 62) ∧ R (rangeD lo (hi - lo).toNat) c1
  | _ => False
theorem for_low {mg : Str → Option Value} {W : WX} {dg : DG} {I : Nat → Z → Prop} {DD : DEnds} {Dn : Ends} {as : AsM} {H0 : Hp} {n i : Nat} {v : V} {d : D} {σ : L2.St} {H : Hp} (k : Exits K mg W as H0 DD Dn)
    (st : ∀ c2, I i c2 → dg d c2 fun c3 => sb { DD with nx := I (i + 1), ct := I (i + 1), bk := DD.nx } c3) (h : ∃ as' H0' c', Le as H0 as' H0' ∧ Ok K as' H0' H σ c' ∧ I i c' ∧ Rp K as' H0' v d) :
    liftG K dg v σ H fun σ2 H2 => liftS K mg W sb { Dn with nx := lowI K as H0 (I (i + 1)), ct := lowI K as H0 (I (i + 1)), bk := Dn.nx } σ2 H2 := by
  obtain ⟨as1, H1, c1, l1, ok1, i1, r1⟩ := h
  refine ⟨as1, H1, c1, d, _, ok1, r1, st c1 i1, fun as2 H2 Hn2 σ2 c2 l2 ok2 q2 => ⟨as2, H2, c2, _, ok2, q2, ?_⟩⟩
  have l := l1.trans l2
  exact ⟨fun _ _ _ _ _ l3 ok3 q3 => ⟨_, _, _, l.trans l3, ok3, q3⟩, fun _ _ _ _ _ l3 ok3 q3 => k.nx _ _ _ _ _ (l.trans l3) ok3 q3, fun _ _ _ _ _ l3 ok3 q3 => ⟨_, _, _, l.trans l3, ok3, q3⟩, fun _ _ _ _ _ _ l3 ok3 r3 q3 => k.rt _ _ _ _ _ _ (l.trans l3) ok3 r3 q3, k.xx.mono l⟩
/-- while: a measure that falls -/
def sWhile (t : DT) (sb : DS) : DS := fun DD c => ∃ I : Nat → Z → Prop, (∃ m, I m c) ∧ ∀ m c1, I m c1 → t c1 fun b c2 => match b with
  | true => sb { DD with nx := fun c3 => ∃ m', m' < m ∧ I m' c3, ct := fun c3 => ∃ m', m' < m ∧ I m' c3, bk := DD.nx } c2
  | false => DD.nx c2
end
end DL

namespace DL
open PySem L2

/-! ### defs, where nothing is being written out (guards) -/
structure FnG (P : Program) (w : World) (K : PySem.W.Frag) (mg : Str → Option Value) (base : Heap) (CX : CXT) (k : Nat) (f : Addr) (fd : FuncData) (ps : List Str) (sp : Sp) : Prop where
  len : ∀ vs H Q E, sp vs H Q E → vs.length = ps.length
  run : ∀ (A : Around) (outer : List Env) (s : Shared) (H : Hp) (args : Args) (us : List Value) (vs : List V) (Q : VK) (E : XK), A.guards = some [] → Room k A → Env0 P w K mg base A outer s H → BindsTo s fd args (ps.zip us) → Vals vs us → sp vs H Q E →
    codeAny (model P w) A (.call (.ref f) args) (CR CX outer P w H s Q E) s
theorem FnG.mono {P : Program} {w : World} {K : PySem.W.Frag} {mg : Str → Option Value} {base : Heap} {CX : CXT} {j k : Nat} {f : Addr} {fd : FuncData} {ps : List Str} {sp : Sp} (F : FnG P w K mg base CX j f fd ps sp) (h : j ≤ k) : FnG P w K mg base CX k f fd ps sp :=
  ⟨F.len, fun A outer s H args us vs Q E hg hr => F.run A outer s H args us vs Q E hg (hr.mono h)⟩
section
variable {P : Program} {w : World} {K : PySem.W.Frag} {mg : Str → Option Value} {base : Heap}
theorem fnG_of {CX : CXT} {k : Nat} {f : Addr} {name qual : Str} {params : Arguments} {body : List Stmt} {scope : Scope} {dV kV doc pm cdv ct oc : Value} {an od : Option Addr} {osl : Array (Option Value)} {N ps : List Str} {sp : Sp}
    (lk : K.lookup f = some ⟨oc, od, .func (PySem.W.fnOf name qual params body scope dV kV doc pm an cdv ct), osl⟩) (hcd : PySem.W.codeIn K cdv qual = true) (S : FnScope N ps scope) (len : ∀ vs H Q E, sp vs H Q E → vs.length = ps.length)
    (hbody : ∀ (A : Around) (outer : List Env) (s : Shared) (H : Hp) (vs : List V) (Q : VK) (E : XK), A.guards = some [] → Room k (A.deeper (PyProof.Rows.envOfC qual scope s.heap.objs.size f cdv)) → sp vs H Q E →
      ∃ t, PSs (cxOf CX P w K mg base N qual scope f cdv A outer s H E) body t ∧ t { nx := fun _ H' => Q .non H', rt := Q } (L2.start N vs) H) : FnG P w K mg base CX (k + 1) f (PySem.W.fnOf name qual params body scope dV kV doc pm an cdv ct) ps sp := by
  refine ⟨len, ?_⟩
  intro A outer s H args us vs Q E hg hr e0 hb r hsp
  have same : ∀ b o, base.get? b = some o → s.heap.get? b = some o := fun b o e => (e0.bs b o e).1
  have KX : K.In s.heap := e0.mod.kin.keeps same
  have lim : s.heap.NoLimit := e0.mod.nolimit.keeps same
  have kinds : ∀ y ∈ ps.zip us, scope.names.lookup y.1 = some .local ∨ (scope.names.lookup y.1 = some .cell ∧ ((cellsFrom (s.heap.objs.size + 1) scope.names []).lookup y.1).isSome = true) := by
    rintro ⟨n, v⟩ hy
    rcases S.par n (List.of_mem_zip hy).1 with q | q
    · exact .inl q
    · exact .inr ⟨q, PySem.W.cellsFrom_some _ _ _ (.inl q)⟩
  apply codeAny_call_function hr.depth (KX _ _ lk) rfl S.co S.gen rfl (PySem.W.codeRec_of KX hcd)
  apply hb
  apply wpAny_newFunctionEnv_cells S.kind kinds
  intro env he s1 x
  subst he
  refine ⟨lim.keeps x.toInCall.keep, codeAny_func ?_⟩
  obtain ⟨t, ht, hq⟩ := hbody A outer s H vs Q E hg (hr.deeper _) hsp
  have I := inv_start (CX := CX) (E := E) (outer := outer) (f := f) (cd := cdv) S hr.hd e0 (len _ _ _ _ hsp) r x
  refine wpAny_mono (ht.run [] s1 (L2.start N vs) H _ I hq) (fun fl s' hs => ?_) (fun e s' hs => hs)
  cases fl with
  | ret u => exact let ⟨v, σ', H', J, rv, q⟩ := hs; ⟨v, H', J.os, J.bare, J.base, J.hok, rv, q⟩
  | next => exact let ⟨σ', H', J, q⟩ := hs; ⟨V.non, H', J.os, J.bare, J.base, J.hok, rfl, q⟩
  | brk => exact let ⟨_, _, _, q⟩ := hs; False.elim q
  | cont => exact let ⟨_, _, _, q⟩ := hs; False.elim q
end

/-! ### what a def does, by data -/
abbrev Sem := List D → Cells → (D → Cells → Prop) → Prop
def FnD (K : PySem.W.Frag) (sem : Sem) : Sp := fun vs H Q _ => ∃ as H0 ds cs R, OkC K as H0 H cs ∧ RpA K as H0 vs ds ∧ sem ds cs R ∧
  ∀ as' H0' H' cs' v d, Le as H0 as' H0' → OkC K as' H0' H' cs' → Rp K as' H0' v d → R d cs' → Q v H'
/-- how a call binds: n values by place, keywords named ks -/
structure Bnd (K : PySem.W.Frag) (fd : FuncData) (ps : List Str) (n : Nat) (ks : List Str) (gD : List D → List D → List D) : Prop where
  bd : ∃ g : List Value → List Value → List Value, (∀ (s : Shared) (us ws : List Value), K.In s.heap → us.length = n → ws.length = ks.length → BindsTo s fd ⟨us, ks.zip ws⟩ (ps.zip (g us ws))) ∧
    ∀ {as : AsM} {H : Hp} {vs zs : List V} {us ws : List Value} {ds es : List D}, vs.length = n → zs.length = ks.length → Vals vs us → RpA K as H vs ds → Vals zs ws → RpA K as H zs es → ∃ vs', Vals vs' (g us ws) ∧ RpA K as H vs' (gD ds es)
def dFn (n : Nat) (sem : Sem) (gD : List D → List D → List D) (da : DA) : DE := fun c R => da c fun ds c1 => ds.length = n ∧ sem (gD ds []) c1.cs fun d cs' => R d { c1 with cs := cs' }
def dFnK (n m : Nat) (sem : Sem) (gD : List D → List D → List D) (da dk : DA) : DE := fun c R => da c fun ds c1 => dk c1 fun es c2 => ds.length = n ∧ es.length = m ∧ sem (gD ds es) c2.cs fun d cs' => R d { c2 with cs := cs' }
section
variable {X : Cx} {k n : Nat} {f : Addr} {fd : FuncData} {ps ks : List Str} {sem : Sem} {gD : List D → List D → List D} {x : Str} {p pos : Pos} {e : Expr} {es : List Expr} {kws : List Keyword} {da dk : DA}
theorem run_fnD {pins : List (Addr × Obj)} {σ : L2.St} {H : Hp} {s : Shared} {Q : VK} {us ws : List Value} {vs zs : List V} {as : AsM} {H0 : Hp} {c : Z} {ds es : List D} {R : D → Z → Prop}
    (F : FnG X.prog X.w X.K X.mg X.base CX0 k f fd ps (FnD X.K sem)) (hgd : X.A.guards = some []) (hr : Room k X.A) (hb : Bnd X.K fd ps n ks gD) (I : Inv X pins σ H s) (r : Vals vs us) (rz : Vals zs ws) (ok : Ok X.K as H0 H σ c) (rd : RpA X.K as H0 vs ds) (re : RpA X.K as H0 zs es)
    (l1 : ds.length = n) (l2 : es.length = ks.length) (h : sem (gD ds es) c.cs fun d cs' => R d { c with cs := cs' })
    (q : ∀ as' H0' H' c' v d, Le as H0 as' H0' → Ok X.K as' H0' H' σ c' → Rp X.K as' H0' v d → R d c' → Q v H') : wpAny (model X.prog X.w) X.A (call (.ref f) us (ks.zip ws)) (EP X pins σ Q) X.xe s := by
  obtain ⟨g, to, rel⟩ := hb.bd
  obtain ⟨vs', rv, rd'⟩ := rel (rd.length.trans l1) (re.length.trans l2) r rd rz re
  have sp : FnD X.K sem vs' H Q E0 := ⟨as, H0, _, c.cs, _, ok.c, rd', h, fun as' H0' H' cs' v d l oc rp hq => q as' H0' H' { c with cs := cs' } v d l ⟨oc, ok.e.mono l⟩ rp hq⟩
  refine wpAny_call (codeAny_mono (F.run X.A X.stack s H _ _ vs' Q E0 hgd hr I.env0 (to s us ws I.kIn (by rw [← r.length, rd.length, l1]) (by rw [← rz.length, re.length, l2])) rv sp) fun res s' hq => ?_)
  cases res with
  | error e => exact False.elim hq
  | ok fl =>
    cases fl with
    | ret u => exact I.after hq
    | _ => exact False.elim hq
theorem pd_fn (F : FnG X.prog X.w X.K X.mg X.base CX0 k f fd ps (FnD X.K sem)) (hgd : X.A.guards = some []) (hr : Room k X.A) (hg : Gl X x) (hm : X.mg x = some (.ref f)) (hk : PySem.W.keepIn X.K (.ref f) = true) (hb : Bnd X.K fd ps n [] gD)
    (ha : PDA X (e :: es) da) (hdb : (x == ("__debug__" : Str)) = false := by decide) (he : starEach (e :: es) X.env = (false, eval e X.env) :: starEach es X.env := by rfl) (hpl : (backTo pos (starEach es X.env)).any (·.1) = false := by rfl) :
    PD X (.Call (.Name x p) (e :: es) [] pos) (dFn n sem gD da) := by
  refine ⟨fun pins s σ H Q I ⟨as, H0, c, R, ok, q, kk⟩ => ?_⟩
  refine wpAny_Call_Name_kw (ld_glob I hg hm ?_ hdb)
  have arg : liftA X.K da σ H fun vs H1 => ∃ as1 H01 c1 ds, Le as H0 as1 H01 ∧ Ok X.K as1 H01 H1 σ c1 ∧ RpA X.K as1 H01 vs ds ∧ ds.length = n ∧ sem (gD ds []) c1.cs fun d cs' => R d { c1 with cs := cs' } :=
    ⟨as, H0, c, _, ok, q, fun as1 H1 Hn c1 vs ds l1 ok1 r1 ⟨z1, z2⟩ => ⟨as1, H1, c1, ds, l1, ok1, r1, z1, z2⟩⟩
  refine PySem.W.callWith_K (h₀ := X.base) I.ok.mod.kin hk (thn (ha.run pos pins s σ H _ I arg) fun us s1 ⟨vs, H1, I1, r, as1, H01, c1, ds, l1, ok1, rd, z1, z2⟩ => ⟨I1.kIn, ?_⟩) he hpl
  exact run_fnD (ws := []) F hgd hr hb I1 r .nil ok1 rd .nil z1 rfl z2 fun _ _ _ _ _ _ l ok' rp hq => kk _ _ _ _ _ _ (l1.trans l) ok' rp hq
end
/-! #### bindings -/
section
variable {K : PySem.W.Frag} {fd : FuncData} {ps : List Str}
/-- every parameter is written, by its place -/
theorem Bnd.all (h : Binds K fd ps []) : Bnd K fd ps ps.length [] (fun ds _ => ds) :=
  ⟨fun us _ => us, fun s us ws X l1 l2 => by
    have := h s us X (by rw [List.append_nil]; exact l1)
    rw [List.append_nil] at this
    exact this, fun l1 l2 r rd rz re => ⟨_, r, rd⟩⟩
/-- by place, then by keywords, in the parameters' order -/
theorem Bnd.kw {n : Nat} {ks : List Str} (h : ∀ (s : Shared) (us ws : List Value), K.In s.heap → us.length = n → ws.length = ks.length → BindsTo s fd ⟨us, ks.zip ws⟩ (ps.zip (us ++ ws))) : Bnd K fd ps n ks (fun ds es => ds ++ es) :=
  ⟨fun us ws => us ++ ws, fun s us ws X l1 l2 => h s us ws X l1 l2, fun l1 l2 r rd rz re => ⟨_, r.append rz, rd.append re⟩⟩
end

/-! ### a def by its body -/
section
variable {P : Program} {w : World} {K : PySem.W.Frag} {mg : Str → Option Value} {base : Heap}
def env0 (n : Nat) (ds : List D) : List (Option D) := ds.map some ++ List.replicate (n - ds.length) none
theorem env0_ok {as : AsM} {H0 : Hp} {N : List Str} {vs : List V} {ds : List D} (r : RpA K as H0 vs ds) : OkE K as H0 (L2.start N vs) (env0 N.length ds) := by
  have hl := r.length
  refine ⟨by unfold L2.start env0; simp [hl], fun i d e => ?_⟩
  unfold env0 at e
  unfold L2.start
  by_cases hi : i < ds.length
  · rw [List.getElem?_append_left (by simpa using hi), List.getElem?_map] at e
    cases q : ds[i]? with
    | none => rw [q] at e; cases e
    | some d' =>
      rw [q] at e
      have e' : d' = d := by simpa using e
      subst e'
      obtain ⟨v, e1, e2⟩ := r.get q
      refine ⟨v, ?_, e2⟩
      rw [List.getElem?_append_left (by rw [List.length_map, hl]; exact hi), List.getElem?_map, e1]; rfl
  · rw [List.getElem?_append_right (by simpa using hi), List.getElem?_replicate] at e
    split at e <;> cases e
theorem fn_body {x qual : Str} {params : Arguments} {body : List Stmt} {scope : Scope} {dvs : List V} {kws : List (Str × V)} {f : Addr} {fd : FuncData} {N ps : List Str} {k : Nat} {sem : Sem} {sb : DS}
    (F : FunD K x qual params body scope dvs kws f fd) (S : FnScope N ps scope) (len : ∀ ds cs R, sem ds cs R → ds.length = ps.length)
    (hb : ∀ (cdv : Value) (A : Around) (outer : List Env) (s : Shared) (H : Hp) (E : XK), A.guards = some [] → Room k (A.deeper (PyProof.Rows.envOfC qual scope s.heap.objs.size f cdv)) → PDB (cxOf CX0 P w K mg base N qual scope f cdv A outer s H E).nox body sb)
    (h : ∀ ds cs R, sem ds cs R → sb { nx := fun c => R .non c.cs, rt := R } ⟨env0 N.length ds, cs⟩) : FnG P w K mg base CX0 (k + 1) f fd ps (FnD K sem) := by
  obtain ⟨oc, od, dV, kV, doc, pm, an, cdv, ct, osl, rfl, lk, hcd, _, _⟩ := F.ex
  refine fnG_of lk hcd S (fun vs H Q E ⟨as, H0, ds, cs, R, oc, rd, sm, _⟩ => rd.length.trans (len ds cs R sm)) fun A outer s H vs Q E hg hr ⟨as, H0, ds, cs, R, oc, rd, sm, q⟩ => ?_
  refine ⟨_, (hb cdv A outer s H E hg hr (fun _ _ _ _ => False) takes0).nox, as, H0, ⟨env0 N.length ds, cs⟩, _, ⟨oc, env0_ok rd⟩, h ds cs R sm, ⟨fun as' H0' H' σ' c' l ok' hq => q as' H0' H' c'.cs .non .non l ok'.c .non hq, fun _ _ _ _ _ _ _ z => z.elim, fun _ _ _ _ _ _ _ z => z.elim, fun as' H0' H' cs' v d l oc' rp hq => q as' H0' H' cs' v d l oc' rp hq, fun _ _ _ _ _ _ _ _ _ _ _ _ z => z.elim⟩⟩
/-- a def that may raise -/
abbrev SemX := List D → Cells → (D → Cells → Prop) → (DX → Cells → Prop) → Prop
def FnDX (K : PySem.W.Frag) (mg : Str → Option Value) (sem : SemX) : Sp := fun vs H Q E => ∃ as H0 ds cs R XX, OkC K as H0 H cs ∧ RpA K as H0 vs ds ∧ sem ds cs R XX ∧
  (∀ as' H0' H' cs' v d, Le as H0 as' H0' → OkC K as' H0' H' cs' → Rp K as' H0' v d → R d cs' → Q v H') ∧
  ∀ as' H0' H' cs' x d C, Le as H0 as' H0' → OkC K as' H0' H' cs' → XD K as' H0' x d → mg x.cls = some (.ref C) → XX x cs' → E (.ref C) d H'
end

/-! ### expressions that may raise: a call by its name -/
abbrev DEX := (DX → Z → Prop) → DE
/-- where nothing may be raised -/
def semN (sem : SemX) : Sem := fun ds cs R => sem ds cs R fun _ _ => False
section
variable {X : Cx} {k n : Nat} {f : Addr} {fd : FuncData} {ps ks : List Str} {sem : SemX} {gD : List D → List D → List D} {x : Str} {p pos : Pos} {e : Expr} {es : List Expr} {kws : List Keyword} {da dk : DA}
/-- as a plain call, where nothing may be raised -/
theorem FnG.calm (F : FnG X.prog X.w X.K X.mg X.base (L2.CX X.prog X.w) k f fd ps (FnDX X.K X.mg sem)) : FnG X.prog X.w X.K X.mg X.base CX0 k f fd ps (FnD X.K (semN sem)) :=
  ⟨fun vs H Q E ⟨as, H0, ds, cs, R, oc, rd, sm, q⟩ => F.len vs H Q E0 ⟨as, H0, ds, cs, R, fun _ _ => False, oc, rd, sm, q, fun _ _ _ _ _ _ _ _ _ _ _ z => z.elim⟩,
   fun A outer s H args us vs Q E hg hr en bt rv ⟨as, H0, ds, cs, R, oc, rd, sm, q⟩ => codeAny_mono (F.run A outer s H args us vs Q E0 hg hr en bt rv ⟨as, H0, ds, cs, R, fun _ _ => False, oc, rd, sm, q, fun _ _ _ _ _ _ _ _ _ _ _ z => z.elim⟩) fun r s' h => by
    cases r with
    | error e =>
      obtain ⟨_, _, _, _, _, _, _, _, _, _, _, _, z⟩ := h
      exact z.elim
    | ok fl =>
      cases fl with
      | ret u => exact h
      | _ => exact False.elim h⟩
/-! #### statements that hold one -/
variable {dex : DEX}
/-! ### raise -/
/-- what the text's own exception class C, without its own __init__, must be -/
structure ExN (K : PySem.W.Frag) (mg : Str → Option Value) (x : Str) (C : Addr) : Prop where
  e : PySem.W.excIn K C [.type "ValueError", .type "Exception", .type "BaseException", .type "object"] "ValueError.__new__" = true
  g : mg x = some (.ref C)
  k : PySem.W.keepIn K (.ref C) = true
  b : PySem.W.subIn K (.ref C) (.type "BaseException") = some true
  t : PySem.W.typeIn K (.ref C) = some (.type "type")
end
end DL

namespace DL
open PySem L2

/-! ### repr -/
mutual
/-- numbers below 2^300, texts of plain signs -/
def small : D → Prop
  | .int i => -(2 ^ 200) < i ∧ i < 2 ^ 200
  | .str s => ∀ c ∈ s.cps.toList, c < 16 ^ 8
  | .lst ds => smallA ds | .slst ds => smallA ds | .tup ds => smallA ds
  | .non => True | .bl _ => True | .dic _ => False | .ref _ => False | .ty _ => False | .cel _ => False | .fn _ => False
def smallA : List D → Prop
  | [] => True
  | d :: ds => small d ∧ smallA ds
end
mutual
def wt : D → Nat
  | .int _ => 400 | .str s => 10 * s.length + 2
  | .lst ds => 3 + wtA ds | .slst ds => 3 + wtA ds | .tup ds => 3 + wtA ds
  | .non => 5 | .bl _ => 5 | .dic _ => 5 | .ref _ => 5 | .ty _ => 5 | .cel _ => 5 | .fn _ => 5
def wtA : List D → Nat
  | [] => 0
  | d :: ds => wt d + 2 + wtA ds
end
theorem log_small {i : Int} (h : -(2 ^ 200) < i ∧ i < 2 ^ 200) : i.natAbs.log2 < 200 := by
  by_cases h0 : i.natAbs = 0
  · rw [h0]; decide
  · exact (Nat.log2_lt h0).mpr (by
      have h1 := h.1
      have h2 := h.2
      have e : (2 : Int) ^ 200 = ((2 ^ 200 : Nat) : Int) := by norm_cast
      omega)
mutual
theorem small_shown : ∀ {d : D}, small d → plain d = true ∧ (py d).showable = true ∧ (py d).hasDict = false ∧ (py d).shown.length ≤ wt d
  | .non, h => ⟨rfl, rfl, rfl, by decide⟩
  | .bl b, h => ⟨rfl, rfl, rfl, by cases b <;> decide⟩
  | .int i, h => by
    have l := log_small h
    refine ⟨rfl, decide_eq_true (show i.natAbs.log2 < 1920 by omega), rfl, ?_⟩
    have := int_text_length_le (a := i) (k := 200) (by decide) l
    show (Str.ofString (toString i)).length ≤ 400
    have e : (Str.ofString (toString i)).length = (toString i).length := by
      exact PySem.ofString_length _
    omega
  | .str s, h => ⟨rfl, rfl, rfl, StrLaws.reprText_len s h⟩
  | .lst ds, h => by
    obtain ⟨h1, h2, h3, h4⟩ := smallA_shown (ds := ds) h
    refine ⟨h1, h2, h3, ?_⟩
    have := listText_len_le (PyData.shownAll (pyA ds))
    show (listText (PyData.shownAll (pyA ds))).length ≤ 3 + wtA ds
    omega
  | .slst ds, h => by
    obtain ⟨h1, h2, h3, h4⟩ := smallA_shown (ds := ds) h
    refine ⟨h1, h2, h3, ?_⟩
    have := listText_len_le (PyData.shownAll (pyA ds))
    show (listText (PyData.shownAll (pyA ds))).length ≤ 3 + wtA ds
    omega
  | .tup ds, h => by
    obtain ⟨h1, h2, h3, h4⟩ := smallA_shown (ds := ds) h
    refine ⟨h1, h2, h3, ?_⟩
    have := tupleText_len_le (PyData.shownAll (pyA ds))
    show (tupleText (PyData.shownAll (pyA ds))).length ≤ 3 + wtA ds
    omega
  | .dic _, h => h.elim
  | .ref _, h => h.elim
  | .ty _, h => h.elim
  | .cel _, h => h.elim
  | .fn _, h => h.elim
theorem smallA_shown : ∀ {ds : List D}, smallA ds → plainA ds = true ∧ PyData.showableAll (pyA ds) = true ∧ PyData.hasDictAll (pyA ds) = false ∧ ((PyData.shownAll (pyA ds)).map (·.length)).sum + 2 * (PyData.shownAll (pyA ds)).length ≤ wtA ds
  | [], h => ⟨rfl, rfl, rfl, Nat.le_refl _⟩
  | d :: ds, h => by
    obtain ⟨a1, a2, a3, a4⟩ := small_shown (d := d) h.1
    obtain ⟨b1, b2, b3, b4⟩ := smallA_shown (ds := ds) h.2
    refine ⟨?_, ?_, ?_, ?_⟩
    · show (plain d && plainA ds) = true
      rw [a1, b1]; rfl
    · show (PyData.showable (py d) && PyData.showableAll (pyA ds)) = true
      rw [a2, b2]; rfl
    · show (PyData.hasDict (py d) || PyData.hasDictAll (pyA ds)) = false
      rw [a3, b3]; rfl
    · show (((PyData.shown (py d)) :: PyData.shownAll (pyA ds)).map (·.length)).sum + 2 * ((PyData.shown (py d)) :: PyData.shownAll (pyA ds)).length ≤ wt d + 2 + wtA ds
      simp only [List.map_cons, List.sum_cons, List.length_cons]
      omega
end
def fRepr : DFn := fun ds c R => match ds with
  | [d] => small d ∧ (py d).depth < 60 ∧ wt d ≤ sizeLine ∧ R (.str (py d).shown) c
  | _ => False
section
variable {X : Cx} {K : PySem.W.Frag}
end
end DL

namespace DL
open PySem L2

/-! ### constants of the module -/
section
variable {X : Cx} {K : PySem.W.Frag} {x : Str} {pos : Pos}
end

/-! ### dicts written out -/
section
variable {X : Cx} {K : PySem.W.Frag} {pos : Pos}
def dDNew : DE := fun c R => R (.dic []) c
theorem rp_dic {as : AsM} {H0 : Hp} {p : Addr} {vs : List (Key × V)} {ds : List (Key × D)} (l : Le as H0 as (upd H0 p (.dK vs))) (r : RpK K as H0 vs ds) : Rp K as (upd H0 p (.dK vs)) (.ref p) (.dic ds) := .dic upd_same (r.mono l)
theorem pd_dnew : PD X (.Dict [] [] pos) dDNew := pe_imp pe_dnewK fun σ H Q ⟨as, H0, c, R, ok, q, k⟩ => fun p hp => by
  obtain ⟨l, ok'⟩ := new_known (o := .dK []) ok hp
  exact k _ _ _ _ _ _ l ok' (rp_dic l .nil) q
def putD (kvs : List (Key × D)) (k : Key) (d : D) : List (Key × D) := if (kvs.any fun kv => decide (kv.1 = k)) = true then kvs.map (fun kv => if kv.1 = k then (kv.1, d) else kv) else kvs ++ [(k, d)]
def mergeD (kvs more : List (Key × D)) : List (Key × D) := more.foldl (fun acc kv => putD acc kv.1 kv.2) kvs
theorem RpK.any {as : AsM} {H : Hp} {k : Key} : ∀ {ds : List (Key × D)} {vs : List (Key × V)}, RpK K as H vs ds → (vs.any fun kv => decide (kv.1 = k)) = (ds.any fun kv => decide (kv.1 = k))
  | [], _, h => by cases h; rfl
  | _ :: _, _, h => by cases h with | cons h1 h2 => simp only [List.any_cons]; rw [RpK.any h2]
theorem RpK.mapk {as : AsM} {H : Hp} {k : Key} {v : V} {d : D} (r : Rp K as H v d) : ∀ {ds : List (Key × D)} {vs : List (Key × V)}, RpK K as H vs ds → RpK K as H (vs.map fun kv => if kv.1 = k then (kv.1, v) else kv) (ds.map fun kv => if kv.1 = k then (kv.1, d) else kv)
  | [], _, h => by cases h; exact .nil
  | (j, e) :: ds, _, h => by
    cases h with
    | cons h1 h2 =>
      simp only [List.map_cons]
      by_cases q : j = k
      · rw [if_pos q, if_pos q]; exact .cons r (RpK.mapk r h2)
      · rw [if_neg q, if_neg q]; exact .cons h1 (RpK.mapk r h2)
theorem RpK.snoc {as : AsM} {H : Hp} {k : Key} {v : V} {d : D} (r : Rp K as H v d) : ∀ {ds : List (Key × D)} {vs : List (Key × V)}, RpK K as H vs ds → RpK K as H (vs ++ [(k, v)]) (ds ++ [(k, d)])
  | [], _, h => by cases h; exact .cons r .nil
  | _ :: _, _, h => by cases h with | cons h1 h2 => exact .cons h1 (RpK.snoc r h2)
theorem RpK.put {as : AsM} {H : Hp} {k : Key} {v : V} {d : D} {ds : List (Key × D)} {vs : List (Key × V)} (h : RpK K as H vs ds) (r : Rp K as H v d) : RpK K as H (putK vs k v) (putD ds k d) := by
  unfold putK putD
  rw [h.any]
  by_cases q : (ds.any fun kv => decide (kv.1 = k)) = true
  · rw [if_pos q, if_pos q]; exact h.mapk r
  · rw [if_neg q, if_neg q]; exact h.snoc r
end

/-! ### in, not in; is None; chains as tests -/
section
variable {X : Cx} {K : PySem.W.Frag} {a b c : Expr} {da db dc : DE} {pos : Pos}
def flatD : D → Bool | .non => true | .bl _ => true | .int _ => true | .str _ => true | _ => false
def eqF : D → D → Bool
  | .non, .non => true | .bl a, .bl b => a == b | .bl a, .int b => (if a then 1 else 0) == b | .int a, .bl b => a == (if b then 1 else 0) | .int a, .int b => a == b | .str a, .str b => a == b | _, _ => false
def seqD : D → Option (List D) | .lst ds => some ds | .slst ds => some ds | .tup ds => some ds | _ => none
theorem seqD_rp {as : AsM} {H0 H : Hp} {v : V} {d : D} {ds : List D} (e : ∀ a o, H0 a = some o → H a = some o) (r : Rp K as H0 v d) (h : seqD d = some ds) : ∃ a vs, v = .ref a ∧ (SqL K H a vs ∨ SqT K H a vs) ∧ RpA K as H0 vs ds := by
  cases r with
  | lst h1 h2 => cases h; exact ⟨_, _, rfl, .inl (SqL.of (e _ _ h1)), h2⟩
  | slst h1 h2 => cases h; exact ⟨_, _, rfl, .inl (seqL_mono e h1), h2⟩
  | tup h1 h2 => cases h; exact ⟨_, _, rfl, .inr (seqT_mono e h1), h2⟩
  | _ => cases h
theorem flat_rp {as : AsM} {H : Hp} {v : V} {d : D} (r : Rp K as H v d) (h : flatD d = true) : flatV v = true := by
  cases r <;> first | rfl | cases h
theorem flats_rp {as : AsM} {H : Hp} : ∀ {ds : List D} {vs : List V}, RpA K as H vs ds → ds.all flatD = true → vs.all flatV = true
  | [], _, r, h => by cases r; rfl
  | d :: ds, _, r, h => by
    cases r with
    | cons r1 r2 =>
      have h' := Bool.and_eq_true_iff.mp (show (flatD d && ds.all flatD) = true from h)
      rw [List.all_cons, flat_rp r1 h'.1, flats_rp r2 h'.2]; rfl
theorem eqF_rp {as : AsM} {H : Hp} {v u : V} {d e : D} (r : Rp K as H v d) (r' : Rp K as H u e) (h : flatD d = true) (h' : flatD e = true) : eqV v u = eqF d e := by
  cases r <;> first | (cases h; done) | (cases r' <;> first | (cases h'; done) | rfl)
theorem inV_rp {as : AsM} {H : Hp} {u : V} {e : D} (r' : Rp K as H u e) (h' : flatD e = true) : ∀ {ds : List D} {vs : List V}, RpA K as H vs ds → ds.all flatD = true → inV u vs = ds.any fun d => eqF d e
  | [], _, r, h => by cases r; rfl
  | d :: ds, _, r, h => by
    cases r with
    | cons r1 r2 =>
      have hh := Bool.and_eq_true_iff.mp (show (flatD d && ds.all flatD) = true from h)
      have := inV_rp r' h' r2 hh.2
      unfold inV at this ⊢
      rw [List.any_cons, List.any_cons, this, eqF_rp r1 r' hh.1 h']
def dInN (neg : Bool) : DF := fun x y c R => ∃ ds, seqD y = some ds ∧ flatD x = true ∧ ds.all flatD = true ∧ R (.bl (if neg then !(ds.any fun d => eqF d x) else ds.any fun d => eqF d x)) c
def dIn : DF := dInN false
theorem opD_in {neg : Bool} : OpD K (rIn K neg) (dInN neg) := by
  intro as H0 H σ c v1 v2 d1 d2 R Q ok r1 r2 ⟨ds, h1, h2, h3, h4⟩ k
  obtain ⟨a, vs, rfl, g1, g2⟩ := seqD_rp ok.c.ex r2 h1
  exact ⟨a, vs, rfl, g1, flat_rp r1 h2, flats_rp g2 h3, by rw [inV_rp r1 h2 g2 h3]; exact k _ _ _ _ _ _ .refl ok (.bl _) h4⟩
def isNon : D → Bool | .non => true | _ => false
def dIsN (da : DE) : DE := fun c R => da c fun x c1 => R (.bl (isNon x)) c1
def dIsNotN (da : DE) : DE := fun c R => da c fun x c1 => R (.bl (!isNon x)) c1
def dTB (da : DE) : DT := fun c R => da c fun x c1 => match x with | .bl b => R b c1 | _ => False
end

/-! #### comparisons as tests -/
section
variable {X : Cx} {K : PySem.W.Frag} {a b : Expr} {da db : DE} {pos : Pos}
theorem lift_tb {t : TE} {da : DE} (h : ∀ σ H Q, lift K da σ H Q → t σ H Q) : ∀ σ H Q, liftT K (dTB da) σ H Q → tTest t σ H Q :=
  fun σ H Q ⟨as, H0, c, R, ok, q, k⟩ => h σ H _ ⟨as, H0, c, _, ok, q, fun as1 H1 Hn1 c1 v d l1 ok1 r1 q1 => by
    cases d with
    | bl b => cases r1; exact ⟨b, rfl, k _ _ _ _ _ l1 ok1 q1⟩
    | _ => exact q1.elim⟩
theorem pdt_cmp {op : CmpOp} {r : R2} {f : DF} (ho : OpR X (compareOp op) r) (hd : OpD X.K r f) (ha : PD X a da) (hb : PD X b db) (hm : behindInMarks op b = false) : PDT X (.Compare a [op] [b] pos) (dTB (dBin f da db)) :=
  pt_imp (pt_cmpR ho ha hb hm) (lift_tb (lift_op hd))
end

/-! ### written places -/
section
variable {α : Type} {a b c d e f g h i j k l : α} {xs : List α}
theorem at_nat {n : Nat} {x : α} (h : xs[n]? = some x) : atI xs (n : Int) = some x := atI_nat h
theorem at0 : atI (a :: xs) 0 = some a := at_nat (n := 0) rfl
theorem at1 : atI (a :: b :: xs) 1 = some b := at_nat (n := 1) rfl
theorem at2 : atI (a :: b :: c :: xs) 2 = some c := at_nat (n := 2) rfl
theorem at3 : atI (a :: b :: c :: d :: xs) 3 = some d := at_nat (n := 3) rfl
theorem at4 : atI (a :: b :: c :: d :: e :: xs) 4 = some e := at_nat (n := 4) rfl
theorem at5 : atI (a :: b :: c :: d :: e :: f :: xs) 5 = some f := at_nat (n := 5) rfl
theorem ix20 : ixN 2 0 = some 0 := rfl
theorem ix21 : ixN 2 1 = some 1 := rfl
/-- a place that is not written -/
theorem at_in {n : Int} (h0 : 0 ≤ n) (h1 : n < xs.length) : ∃ x, atI xs n = some x ∧ x ∈ xs := by
  have e : n = ((n.toNat : Nat) : Int) := by omega
  have hl : n.toNat < xs.length := by omega
  have q : atI xs ((n.toNat : Nat) : Int) = some xs[n.toNat] := at_nat (List.getElem?_eq_getElem hl)
  rw [← e] at q
  exact ⟨xs[n.toNat], q, List.getElem_mem hl⟩
end

/-! ### the law's own call -/
theorem law_go {P : Program} {w : World} {K : PySem.W.Frag} {mg mb : Str → Option Value} {k : Nat} {fa a : Addr} {fd : FuncData} {x : Str} {sem : Sem} {s1 : Shared} {vs : List Value} {ns : List Int}
    (KX : K.In s1.heap) (hns : s1.heap.Ns mainGlobals mg) (hb : s1.heap.Ns builtinsNs mb) (hbb : ∀ x : Str, x ≠ "__name__" → mb x = bootBuiltins x) (hlim : s1.heap.NoLimit) (hg : s1.gens = #[])
    (ha : s1.heap.get? a = some { cls := .type "list", data := .seq vs.toArray }) (hi : PyProof.Rows.IntsAre vs ns) (hl : ns.length ≤ sizeLine) (hr : Room k callerA)
    (F : ∀ base : Heap, K.In base → base.Ns mainGlobals mg → FnG P w K mg base CX0 k fa fd [x] (FnD K sem)) (hbind : ∀ (s : Shared) (u : Value), BindsTo s fd ⟨[u], []⟩ [(x, u)])
    (hsem : ∀ R : D → Cells → Prop, (∀ cs, R (.bl true) cs) → sem [.slst (ns.map D.int)] (fun _ => none) R) :
    codeAny (model P w) callerA (.call (.ref fa) ⟨[.ref a], []⟩) (fun r s' => r = .ok (.ret (.bool true)) ∧ OldK s1.heap s'.heap ∧ s'.os = s1.os ∧ PyProof.Rows.AllBare s'.gens) s1 := by
  -- a heap in which at most the script is tracked
  have main : ∀ H : Hp, Only H → SqL K H a (ns.map V.int) → HOk P w H s1.heap → (∀ b, H b ≠ none → b = a) → (H a ≠ none → K.lookup a = none) →
      codeAny (model P w) callerA (.call (.ref fa) ⟨[.ref a], []⟩) (fun r s' => r = .ok (.ret (.bool true)) ∧ OldK s1.heap s'.heap ∧ s'.os = s1.os ∧ PyProof.Rows.AllBare s'.gens) s1 := by
    intro H only sq hok alone apart
    have nodict : ∀ {b : Addr} {o : Obj} {es : Array DictEntry} {ep : Nat}, s1.heap.get? b = some o → o.data = .dict es ep → H b = none := by
      intro b o es ep e d
      rcases Option.eq_none_or_eq_some (H b) with q | ⟨u, q⟩
      · exact q
      · have e' : b = a := alone b (by rw [q]; exact Option.some_ne_none u)
        rw [e', ha] at e
        cases e
        exact Data.noConfusion d
    have keepNs : ∀ {b : Addr} {m : Str → Option Value}, s1.heap.Ns b m → (hidT s1.heap H).Ns b m := by
      rintro b m ⟨o, es, ep, e, d, r⟩
      exact ⟨o, es, ep, hidT_get e (nodict e d), d, r⟩
    have keepK : K.In (hidT s1.heap H) := by
      intro b o e
      refine hidT_get (KX b o e) ?_
      rcases Option.eq_none_or_eq_some (H b) with q | ⟨u, q⟩
      · exact q
      · have e' : b = a := alone b (by rw [q]; exact Option.some_ne_none u)
        rw [e'] at e q
        rw [apart (by rw [q]; exact Option.some_ne_none u)] at e
        cases e
    obtain ⟨mc, lim1, lim2⟩ := hlim
    have en : Env0 P w K mg (hidT s1.heap H) callerA [] s1 H :=
      ⟨rfl, ⟨keepK, keepNs hns, ⟨mb, keepNs hb, hbb⟩, ⟨mc, keepNs lim1, lim2⟩⟩, fun b o e => of_hidT e, Nat.le_of_eq (hidT_size _ _), trivial, fun b z => (nomatch z), hok, .of_eq hg⟩
    have sp : FnD K sem [.ref a] H (fun v _ => v = .bl true) E0 :=
      ⟨fun _ => none, H, [.slst (ns.map D.int)], fun _ => none, fun d _ => d = .bl true, ⟨fun _ _ e => e, ⟨0, fun _ _ => rfl⟩, fun _ _ e => (nomatch e), fun _ _ _ e => (nomatch e)⟩, .cons (.slst sq RpA.ints) .nil, hsem _ fun _ => rfl,
        fun as' H0' H' cs' v d _ _ r e => by subst e; cases r; rfl⟩
    refine codeAny_mono ((F _ keepK (keepNs hns)).run callerA [] s1 H _ [.ref a] [.ref a] _ _ rfl hr en (hbind s1 (.ref a)) (.cons rfl .nil) sp) fun r s' h => ?_
    cases r with
    | error e => exact False.elim h
    | ok fl =>
      cases fl with
      | ret u =>
        obtain ⟨v, H', os, bare, un, hok', rv, q⟩ := h
        have q' : v = .bl true := q
        subst q'
        cases rv
        refine ⟨rfl, OldK.of_keep fun b o e => ?_, os, bare⟩
        rcases only b with q | ⟨ob, xs, q⟩
        · exact un.keep b o e q (fun z => nomatch z) (fun z => nomatch z)
        · have g1 := (hok b _ q).1
          rw [e] at g1
          cases g1
          exact (hok' b _ (un.frzs b _ _ q)).1
      | _ => exact False.elim h
  have rv := vals_ints hi
  have lenV := hi.length
  rcases Option.eq_none_or_eq_some (K.lookup a) with hk | ⟨o, hk⟩
  · -- the script stands outside the written part
    have at_ : ∀ {b : Addr} {u : HO}, (fun b : Addr => if b = a then some (HO.frz { cls := .type "list", data := .seq vs.toArray } (.lst (ns.map V.int))) else none) b = some u → b = a ∧ u = .frz { cls := .type "list", data := .seq vs.toArray } (.lst (ns.map V.int)) := by
      intro b u z
      by_cases hba : b = a
      · exact ⟨hba, (Option.some.inj ((if_pos hba).symm.trans z)).symm⟩
      · exact absurd ((if_neg hba).symm.trans z) (by simp)
    refine main (fun b => if b = a then some (.frz { cls := .type "list", data := .seq vs.toArray } (.lst (ns.map V.int))) else none) ?_ (.inl (.inr ⟨_, if_pos rfl⟩)) ?_ ?_ fun _ => hk
    · intro b
      by_cases hba : b = a
      · exact .inr ⟨_, _, if_pos hba⟩
      · exact .inl (if_neg hba)
    · intro b u z
      obtain ⟨e1, e2⟩ := at_ z
      subst e1 e2
      exact ⟨ha, by rw [List.length_map]; exact hl, vs, _, rv, ha⟩
    · intro b z
      by_cases hba : b = a
      · exact hba
      · exact absurd (if_neg hba) z
  · have e := KX a o hk
    rw [ha] at e
    cases e
    refine main (fun _ => none) (fun _ => .inl rfl) (.inr ⟨_, vs.toArray, _, hk, rfl, rfl, rfl, ?_, ?_⟩) (fun b u z => (nomatch (show (none : Option HO) = some u from z))) (fun b z => absurd rfl z) fun z => absurd rfl z
    · rw [List.size_toArray, lenV]; exact hl
    · simpa using rv
/-- the goal that k_head leaves -/
theorem walk_end {l : PySem.W.OpenLaw} {k : Nat} {q : Program} {loose : List Str} {XP : (Str → Option Value) → Heap → Prop} {YP : World → Heap → Prop} {d : DefRec} {K : Params → PySem.W.Frag} {sem : Sem} {x : Str}
    (hn : l.most = some 63) (hdf : d.params.defaults = []) (hr : Room k callerA) (hY : ∀ (w : World) (h : Heap), YP w h → (K w.params).In h)
    (F : ∀ (w : World) (mg : Str → Option Value) (fa : Addr) (h : Heap), (K w.params).In h → h.Ns mainGlobals mg → mg d.name = some (.ref fa) →
      ∃ fd : FuncData, (∀ (s : Shared) (u : Value), BindsTo s fd ⟨[u], []⟩ [(x, u)]) ∧ ∀ base : Heap, (K w.params).In base → base.Ns mainGlobals mg → FnG l.prog w (K w.params) mg base CX0 k fa fd [x] (FnD (K w.params) sem))
    (hsem : ∀ (ns : List Int) (R : D → Cells → Prop), ns.length ≤ 63 → (∀ cs, R (.bl true) cs) → sem [.slst (ns.map D.int)] (fun _ => none) R) :
    PySem.W.WalkO q loose XP YP l.row.toRowW d [] (fun f vs => PySem.call f vs) := by
  refine Att.attach_call hn hdf fun w s0 s1 mg mb fa o pm cd doc a vs ns G Y ho hd hcd hmg hobj hints hlen hg => ?_
  obtain ⟨fd, hb, hF⟩ := F w mg fa _ (hY w _ Y) G.T.g hmg
  exact law_go (hY w _ Y) G.T.g G.T.b G.T.builtins G.T.nolimit hg hobj hints (Nat.le_trans hlen (by decide)) hr hF hb fun R h => hsem ns R hlen h
end DL

/-! the readings' equations: what simp may use -/
namespace DL
open PySem L2
def onB (x : D) (t f : Prop) : Prop := match x with | .bl true => t | .bl false => f | _ => False
def onI (x : D) (k : Int → Prop) : Prop := match x with | .int i => k i | _ => False
def setC (o i v : D) (c : Z) (R : Z → Prop) : Prop := match o, i with
  | .cel k, .int j => ∃ ds n, c.cs k = some (.lst ds) ∧ ixN ds.length j = some n ∧ R { c with cs := put c.cs k (.lst (ds.set n v)) }
  | _, _ => False
section
variable {c : Z} {R : D → Z → Prop} {RT : Bool → Z → Prop} {RO : Option Int → Z → Prop} {RL : List D → Z → Prop} {da db dc : DE} {dr : DA} {ta tb : DT} {f g : DF} {i j : Int} {a b : Bool} {s t : Str} {xs ys : List D} {kvs : List (Key × D)} {k : Nat} {x y d : D} {A B : Prop}
theorem onB_t : onB (.bl true) A B = A := rfl
theorem onB_f : onB (.bl false) A B = B := rfl
theorem onB_dec {p : Prop} [Decidable p] : onB (.bl (decide p)) A B = if p then A else B := by by_cases h : p <;> simp [onB, h]
theorem onB_ndec {p : Prop} [Decidable p] : onB (.bl (!decide p)) A B = if p then B else A := by by_cases h : p <;> simp [onB, h]
theorem onB_not : onB (.bl (!a)) A B = onB (.bl a) B A := by cases a <;> rfl
theorem onI_i {kk : Int → Prop} : onI (.int i) kk = kk i := rfl
theorem e_add_ii : dAdd (.int i) (.int j) c R = R (.int (i + j)) c := rfl
theorem e_add_ib : dAdd (.int i) (.bl b) c R = R (.int (i + PyProof.Rows.b2i b)) c := rfl
theorem e_add_ss : dAdd (.str s) (.str t) c R = (s.length + t.length ≤ sizeLine ∧ R (.str (s ++ t)) c) := rfl
theorem e_add_ll : dAdd (.lst xs) (.lst ys) c R = (xs.length + ys.length ≤ sizeLine ∧ R (.lst (xs ++ ys)) c) := rfl
theorem e_add_tt : dAdd (.tup xs) (.tup ys) c R = (xs ≠ [] ∧ xs.length + ys.length ≤ sizeLine ∧ R (.tup (xs ++ ys)) c) := rfl
theorem e_int2 {C : Int → Int → Prop} {gg : Int → Int → D} : dInt2 C gg (.int i) (.int j) c R = (C i j ∧ R (gg i j) c) := rfl
theorem e_neg : dNeg da c R = da c fun x c1 => onI x fun i => R (.int (-i)) c1 := rfl
theorem e_eq_ii : dEq (.int i) (.int j) c R = R (.bl (decide (i = j))) c := rfl
theorem e_eq_bb : dEq (.bl a) (.bl b) c R = R (.bl (decide (a = b))) c := rfl
theorem e_eq_ss : dEq (.str s) (.str t) c R = R (.bl (decide (s = t))) c := rfl
theorem e_ne_ii : dNe (.int i) (.int j) c R = R (.bl (!decide (i = j))) c := rfl
theorem e_ne_bb : dNe (.bl a) (.bl b) c R = R (.bl (!decide (a = b))) c := rfl
theorem e_ne_ss : dNe (.str s) (.str t) c R = R (.bl (!decide (s = t))) c := rfl
def GenEq (x y : D) (A : Bool → Prop) : Prop := plain x = true ∧ plain y = true ∧ SeqAt.shaped (py x) = true ∧ SeqAt.shaped (py y) = true ∧ A (PyData.eqv (py x) (py y))
theorem e_eq_l : dEq (.lst xs) y c R = GenEq (.lst xs) y fun b => R (.bl b) c := by cases y <;> rfl
theorem e_eq_sl : dEq (.slst xs) y c R = GenEq (.slst xs) y fun b => R (.bl b) c := by cases y <;> rfl
theorem e_eq_t : dEq (.tup xs) y c R = GenEq (.tup xs) y fun b => R (.bl b) c := by cases y <;> rfl
theorem e_eq_n : dEq .non y c R = GenEq .non y fun b => R (.bl b) c := by cases y <;> rfl
theorem e_ne_l : dNe (.lst xs) y c R = GenEq (.lst xs) y fun b => R (.bl (!b)) c := by cases y <;> rfl
theorem e_ne_sl : dNe (.slst xs) y c R = GenEq (.slst xs) y fun b => R (.bl (!b)) c := by cases y <;> rfl
theorem e_ne_t : dNe (.tup xs) y c R = GenEq (.tup xs) y fun b => R (.bl (!b)) c := by cases y <;> rfl
theorem e_ne_n : dNe .non y c R = GenEq .non y fun b => R (.bl (!b)) c := by cases y <;> rfl
theorem e_chain : dChain f g da db dc c R = da c fun x c1 => db c1 fun y c2 => f x y c2 fun z c3 => onB z (dc c3 fun w c4 => g y w c4 R) (R (.bl false) c3) := rfl
theorem e_tru_n : truD .non = some false := rfl
theorem e_tru_b : truD (.bl b) = some b := rfl
theorem e_tru_i : truD (.int i) = some (i != 0) := rfl
theorem e_tru_l : truD (.lst xs) = some (!xs.isEmpty) := rfl
theorem e_tru_sl : truD (.slst xs) = some (!xs.isEmpty) := rfl
theorem e_tru_t : truD (.tup xs) = some (!xs.isEmpty) := rfl
theorem e_tru_d : truD (.dic kvs) = some (!kvs.isEmpty) := rfl
theorem e_tb : dTB da c RT = da c fun x c1 => onB x (RT true c1) (RT false c1) := by
  unfold dTB onB
  congr 1; funext x c1
  cases x <;> first | rfl | (rename_i b; cases b <;> rfl)
theorem e_andT : dAndT ta tb c RT = ta c fun b c1 => if b = true then tb c1 RT else RT false c1 := by
  unfold dAndT; congr 1; funext b c1; cases b <;> simp
theorem e_orT : dOrT ta tb c RT = ta c fun b c1 => if b = true then RT true c1 else tb c1 RT := by
  unfold dOrT; congr 1; funext b c1; cases b <;> simp
theorem e_andV : dAndV da db c R = da c fun x c1 => onB x (db c1 R) (R (.bl false) c1) := rfl
theorem e_orV : dOrV da db c R = da c fun x c1 => onB x (R (.bl true) c1) (db c1 R) := rfl
theorem e_ifE : dIfE ta da db c R = ta c fun b c1 => if b = true then da c1 R else db c1 R := by
  unfold dIfE; congr 1; funext b c1; cases b <;> simp
theorem e_if {s1 s2 : DS} {DD : DEnds} : sIf ta s1 s2 DD c = ta c fun b c1 => if b = true then s1 DD c1 else s2 DD c1 := by
  unfold sIf; congr 1; funext b c1; cases b <;> simp
theorem e_abs : fAbs [.int i] c R = R (.int (if i < 0 then -i else i)) c := rfl
theorem e_max : fMax [.int i, .int j] c R = R (.int (if j > i then j else i)) c := rfl
theorem e_min : fMin [.int i, .int j] c R = R (.int (if j < i then j else i)) c := rfl
theorem e_int_i : fInt [.int i] c R = R (.int i) c := rfl
theorem e_int_b : fInt [.bl b] c R = R (.int (if b then 1 else 0)) c := rfl
theorem e_len_l : fLen [.lst xs] c R = R (.int (xs.length : Int)) c := rfl
theorem e_len_sl : fLen [.slst xs] c R = R (.int (xs.length : Int)) c := rfl
theorem e_len_t : fLen [.tup xs] c R = R (.int (xs.length : Int)) c := rfl
theorem e_len_d : fLen [.dic kvs] c R = R (.int (kvs.length : Int)) c := rfl
theorem e_len_s : fLen [.str s] c R = (s.length ≤ sizeLine ∧ R (.int (s.length : Int)) c) := rfl
theorem e_len_c : fLen [.cel k] c R = ∃ xs, c.cs k = some (.lst xs) ∧ R (.int (xs.length : Int)) c := rfl
theorem e_sum {ns : List Int} (h : listD d = some (ns.map D.int)) : fSum [d] c R = R (.int ns.sum) c := by
  apply propext
  constructor
  · rintro ⟨d', zs, ms, e, h1, h2, h3⟩
    cases e
    rw [h] at h1; cases h1
    rw [intsOf_map] at h2; cases h2
    exact h3
  · intro h3
    exact ⟨d, _, ns, rfl, h, intsOf_map ns, h3⟩
theorem e_sum_l {ns : List Int} : fSum [.lst (ns.map D.int)] c R = R (.int ns.sum) c := e_sum rfl
theorem e_ix_l : dIxF (.lst xs) (.int i) c R = ∃ d, atI xs i = some d ∧ R d c := rfl
theorem e_ix_sl : dIxF (.slst xs) (.int i) c R = ∃ d, atI xs i = some d ∧ R d c := rfl
theorem e_ix_t : dIxF (.tup xs) (.int i) c R = ∃ d, atI xs i = some d ∧ R d c := rfl
theorem e_ix_c : dIxF (.cel k) (.int i) c R = ∃ ds d, c.cs k = some (.lst ds) ∧ atI ds i = some d ∧ R d c := rfl
theorem e_ix_s : dIxF (.str s) (.int i) c R = ∃ ch, s.length ≤ sizeLine ∧ atI s.cps.toList i = some ch ∧ R (.str ⟨#[ch]⟩) c := rfl
theorem e_ix_di : dIxF (.dic kvs) (.int i) c R = ∃ d, lookD kvs (.inl i) = some d ∧ R d c := rfl
theorem e_ix_ds : dIxF (.dic kvs) (.str s) c R = ∃ d, lookD kvs (.inr s) = some d ∧ R d c := rfl
theorem e_part : dPart da c RO = da c fun x c1 => onI x fun i => RO (some i) c1 := rfl
theorem e_sl_l {lo hi : Option Int} : dSlF (.lst xs) lo hi c R = R (.lst (cutD xs lo hi)) c := rfl
theorem e_sl_sl {lo hi : Option Int} : dSlF (.slst xs) lo hi c R = R (.lst (cutD xs lo hi)) c := rfl
theorem e_sl_t {lo hi : Option Int} : dSlF (.tup xs) lo hi c R = (¬ (HT.sIx xs.length 0 lo = 0 ∧ HT.sIx xs.length xs.length hi = xs.length) ∧ R (.tup (cutD xs lo hi)) c) := rfl
theorem e_sl_s {lo hi : Option Int} : dSlF (.str s) lo hi c R = (s.length ≤ sizeLine ∧ R (.str (cutS s lo hi)) c) := rfl
theorem e_rng1 : iRng1 dr c RL = dr c fun ds c1 => match ds with | [x] => onI x fun n => -(2 ^ 62) ≤ n ∧ n < 2 ^ 62 ∧ RL (rangeD 0 n.toNat) c1 | _ => False := by
  unfold iRng1 onI
  congr 1; funext ds c1
  match ds with
  | [] => rfl
  | [x] => cases x <;> rfl
  | x :: y :: r => cases x <;> rfl
theorem e_par {DD : DEnds} {n m : Nat} : sPar n m dr DD c = dr c fun ds c1 => match ds with
  | [d1, d2] => DD.nx { c1 with env := (c1.env.set n (some d1)).set m (some d2) }
  | _ => False := rfl
theorem e_set {do_ di : DE} {v : D} {RZ : Z → Prop} : gIx do_ di v c RZ = do_ c fun o c1 => di c1 fun i c2 => setC o i v c2 RZ := rfl
theorem e_setC {v : D} {RZ : Z → Prop} : setC (.cel k) (.int i) v c RZ = ∃ ds n, c.cs k = some (.lst ds) ∧ ixN ds.length i = some n ∧ RZ { c with cs := put c.cs k (.lst (ds.set n v)) } := rfl
end
end DL

namespace DL
open PySem L2

/-! ### what is walked, of any kind -/
structure ItD (K : PySem.W.Frag) (as : AsM) (H0 : Hp) (J : It) (ds : List D) : Prop where
  go : ∀ as' H0' H cs i, Le as H0 as' H0' → OkC K as' H0' H cs → i < ds.length → J.go i H
  yld : ∀ as' H0' H cs i x H' d, Le as H0 as' H0' → OkC K as' H0' H cs → ds[i]? = some d → J.yld i H x H' → ∃ H0'', Le as' H0' as' H0'' ∧ OkC K as' H0'' H' cs ∧ Rp K as' H0'' x d
  stop : ∀ as' H0' H cs, Le as H0 as' H0' → OkC K as' H0' H cs → J.stop ds.length H
structure PDI (X : Cx) (tg iter : Expr) (di : DI) : Prop where
  ex : ∃ wi, PI X tg iter wi ∧ ∀ σ H (Q : It → Hp → Prop), (∃ as H0 c R, Ok X.K as H0 H σ c ∧ di c R ∧
    ∀ as1 H01 H1 c1 ds J, Le as H0 as1 H01 → Ok X.K as1 H01 H1 σ c1 → ItD X.K as1 H01 J ds → R ds c1 → Q J H1) → wi σ H Q
section
variable {K : PySem.W.Frag} {X : Cx} {e tg : Expr} {da : DE} {dr : DA} {pos : Pos}
theorem RpA.at {as : AsM} {H : Hp} {vs : List V} {ds : List D} {i : Nat} {d : D} {x : V} (r : RpA K as H vs ds) (h : ds[i]? = some d) (h' : vs[i]? = some x) : Rp K as H x d := by
  obtain ⟨v, e1, e2⟩ := r.get h
  rw [h'] at e1; cases e1; exact e2
theorem RpA.some {as : AsM} {H : Hp} {vs : List V} {ds : List D} {i : Nat} (r : RpA K as H vs ds) (h : i < ds.length) : ∃ x, vs[i]? = some x :=
  ⟨_, List.getElem?_eq_getElem (by rw [r.length]; exact h)⟩
theorem itd_rng {as : AsM} {H0 : Hp} {lo : Int} {n : Nat} : ItD K as H0 (Itr lo n) (rangeD lo n) where
  go := fun as' H0' H cs i l ok h => by rw [rangeD_length] at h; exact h
  yld := fun as' H0' H cs i x H' d l ok h ⟨e, y⟩ => by
    subst e y
    obtain ⟨_, rfl⟩ := rangeD_get h
    exact ⟨H0', .refl, ok, .int _⟩
  stop := fun as' H0' H cs l ok => by rw [rangeD_length]; exact Nat.le_refl _
/-- enumerate -/
def enumD (ds : List D) : List D := (List.range ds.length).zipWith (fun (i : Nat) d => D.tup [.int (i : Int), d]) ds
@[simp] theorem enumD_length {ds : List D} : (enumD ds).length = ds.length := by simp [enumD]
theorem enumD_get {ds : List D} {i : Nat} {d : D} (h : (enumD ds)[i]? = some d) : ∃ e, ds[i]? = some e ∧ d = .tup [.int (i : Int), e] := by
  unfold enumD at h
  rw [List.getElem?_zipWith] at h
  have hi : i < ds.length := by
    rcases Nat.lt_or_ge i ds.length with q | q
    · exact q
    · rw [List.getElem?_eq_none (l := ds) q] at h
      rcases hh : (List.range ds.length)[i]? with _ | v <;> rw [hh] at h <;> cases h
  rw [List.getElem?_range hi] at h
  cases q : ds[i]? with
  | none => rw [q] at h; cases h
  | some e => rw [q] at h; cases h; exact ⟨e, rfl, rfl⟩
theorem OkC.tup {as : AsM} {H0 H : Hp} {cs : Cells} {T : Addr} {vs : List V} {ds : List D} (ok : OkC K as H0 H cs) (hT : H T = none) (r : RpA K as H0 vs ds) :
    ∃ H0'', Le as H0 as H0'' ∧ OkC K as H0'' (upd H T (.tup vs)) cs ∧ Rp K as H0'' (.ref T) (.tup ds) :=
  let ⟨l, k⟩ := ok.grow (o := .tup vs) hT
  ⟨_, l, k, .tup (SqT.of upd_same) (r.mono l)⟩
theorem itd_enum {as : AsM} {H0 : Hp} {a : Addr} {vs : List V} {ds : List D} (q : SqL K H0 a vs) (r : RpA K as H0 vs ds) : ItD K as H0 (Ite K a) (enumD ds) where
  go := fun as' H0' H cs i l ok h => let ⟨x, hx⟩ := r.some (by rw [enumD_length] at h; exact h); ⟨vs, x, seqL_mono (fun b o z => ok.ex b o (l.hp b o z)) q, hx⟩
  yld := fun as' H0' H cs i x H' d l ok h ⟨T, y, e1, hT, e2, hy⟩ => by
    subst e1 e2
    obtain ⟨e, he, rfl⟩ := enumD_get h
    exact ok.tup hT (.cons (.int _) (.cons ((r.mono l).at he (hy vs (seqL_mono (fun b o z => ok.ex b o (l.hp b o z)) q))) .nil))
  stop := fun as' H0' H cs l ok => ⟨vs, seqL_mono (fun b o z => ok.ex b o (l.hp b o z)) q, by rw [enumD_length]; exact Nat.le_of_eq r.length⟩
theorem pdi_range1 {a : Expr} {p cpos : Pos} (hgl : Gl X "range") (hm : X.mg "range" = none) (ha : PDA X [a] dr) (hs : starEach [a] X.env = [(false, eval a X.env)] := by rfl) : PDI X tg (.Call (.Name "range" p) [a] [] cpos) (iRng1 dr) :=
  ⟨_, pi_range1 hgl hm ha hs, fun σ H Q ⟨as, H0, c, R, ok, q, k⟩ => ⟨as, H0, c, _, ok, q, fun as1 H1 Hn1 c1 vs ds l1 ok1 r1 q1 => by
    split at q1
    · obtain ⟨b1, b2, q2⟩ := q1
      obtain ⟨v, rfl, r⟩ := rpa1 r1
      cases r
      exact ⟨_, rfl, b1, b2, k _ _ _ _ _ _ l1 ok1 itd_rng q2⟩
    · exact q1.elim⟩⟩
def iEnu (da : DA) : DI := fun c R => da c fun ds c1 => ∃ d xs, ds = [d] ∧ listD d = some xs ∧ R (enumD xs) c1
theorem pdi_enum {a : Expr} {p cpos tpos : Pos} {elts : List Expr} {kk : Nat} (hgl : Gl X "enumerate") (hm : X.mg "enumerate" = none) (ha : PDA X [a] dr) (hs : starEach [a] X.env = [(false, eval a X.env)] := by rfl) :
    PDI X (.Tuple elts kk tpos) (.Call (.Name "enumerate" p) [a] [] cpos) (iEnu dr) :=
  ⟨_, pi_enum hgl hm ha hs, fun σ H Q ⟨as, H0, c, R, ok, q, k⟩ => ⟨as, H0, c, _, ok, q, fun as1 H1 Hn1 c1 vs ds l1 ok1 r1 ⟨d, xs, e, h, q1⟩ => by
    subst e
    obtain ⟨v, rfl, r⟩ := rpa1 r1
    obtain ⟨a, us, rfl, g1, g2⟩ := listD_rp (fun _ _ z => z) r h
    exact ⟨a, us, rfl, seqL_mono ok1.c.ex g1, k _ _ _ _ _ _ l1 ok1 (itd_enum g1 g2) q1⟩⟩⟩
/-- zip of two lists -/
def zipD (xs ys : List D) : List D := xs.zipWith (fun x y => D.tup [x, y]) ys
def iZipD (da : DA) : DI := fun c R => da c fun ds c1 => ∃ d e xs ys, ds = [d, e] ∧ listD d = some xs ∧ listD e = some ys ∧ R (zipD xs ys) c1
/-- for, over whatever is walked -/
theorem pds_for {di : DI} {g : DG} {body : List Stmt} {sb : DS} (hp : PassesOwn (model X.prog X.w) X.A X.env X.xe) (hc : X.calm = true) (hi : PDI X tg e di) (hg : PDG X tg g) (hb : PDB X body sb) (hs : ∀ x, foldedSetIterable e X.env x = pure x := by intro _; rfl) :
    PDS X (.For tg e body [] pos) (sFor di g sb) := by
  obtain ⟨wi, hw, low⟩ := hi.ex
  refine fun W tk => ps_imp (ps_for hp hc hw hg (hb W tk) hs) fun Dn σ H ⟨as, H0, c, DD, ok, q, k⟩ => low _ _ _ ⟨as, H0, c, _, ok, q, fun as1 H1 Hn1 c1 ds J l1 ok1 it ⟨I, i0, st, dn⟩ => ?_⟩
  have k1 := k.mono l1
  refine ⟨fun i m σ' H' => m = ds.length - i ∧ i ≤ ds.length ∧ lowI X.K as1 H1 (I i) σ' H', ⟨_, rfl, Nat.zero_le _, as1, H1, c1, .refl, ok1, i0⟩, ?_⟩
  rintro i m σ' H' ⟨rfl, hi, as2, H2, c2, l2, ok2, i2⟩
  by_cases hlt : i < ds.length
  · refine .inr ⟨it.go _ _ _ _ _ l2 ok2.c hlt, lowI X.K as1 H1 (I (i + 1)), fun σ3 H3 z => ⟨ds.length - (i + 1), by omega, rfl, hlt, z⟩, fun x H3 y => ?_⟩
    obtain ⟨d, hd⟩ : ∃ d, ds[i]? = some d := ⟨_, List.getElem?_eq_getElem hlt⟩
    obtain ⟨H4, l4, oc4, r4⟩ := it.yld _ _ _ _ _ _ _ _ l2 ok2.c hd y
    exact for_low (n := ds.length) k1 (fun c3 i3 => st i d c3 hd i3) ⟨as2, H4, c2, l2.trans l4, ⟨oc4, ok2.e.mono l4⟩, i2, r4⟩
  · have e : i = ds.length := by omega
    subst e
    exact .inl ⟨it.stop _ _ _ _ l2 ok2.c, k1.nx _ _ _ _ _ l2 ok2 (dn c2 i2)⟩

/-! ### list comprehensions -/
/-- targets of names alone -/
inductive TgN where | one (i : Nat) | tup (is : List Nat)
def TgN.vs : TgN → List Nat | .one i => [i] | .tup is => is
def setAll {α : Type} (env : List (Option α)) : List Nat → List α → List (Option α)
  | i :: is, d :: ds => setAll (env.set i (some d)) is ds
  | _, _ => env
def tgSet : TgN → D → List (Option D) → Option (List (Option D))
  | .one i, d, env => some (env.set i (some d))
  | .tup is, .tup ds, env => if ds.length = is.length then some (setAll env is ds) else none
  | _, _, _ => none
def tgLow (K : PySem.W.Frag) : TgN → TG
  | .one i => gName i
  | .tup is => fun v σ H Q => ∃ a xs, v = .ref a ∧ SqT K H a xs ∧ xs.length = is.length ∧ Q (setAll σ is xs) H
def gsLow (is : List Nat) : TGs := fun vs σ H Q => vs.length = is.length ∧ Q (setAll σ is vs) H
theorem pgn_nil : PGs X [] (gsLow []) := pgs_imp pgs_nil fun v σ H Q ⟨h, q⟩ => by
  have : v = [] := List.eq_nil_of_length_eq_zero h
  subst this
  exact ⟨rfl, q⟩
theorem pgn_cons {es : List Expr} {i : Nat} {is : List Nat} (h1 : PG X e (gName i)) (h2 : PGs X es (gsLow is)) (hs : (assignEach (e :: es) X.env).map (·.2) = assign e X.env :: (assignEach es X.env).map (·.2) := by rfl) : PGs X (e :: es) (gsLow (i :: is)) :=
  pgs_imp (pgs_cons h1 h2 hs) fun v σ H Q ⟨h, q⟩ => by
    match v, h, q with
    | x :: xs, h, q => exact ⟨x, xs, rfl, by simpa using h, q⟩
theorem pgn_tup {es : List Expr} {kk : Nat} {is : List Nat} (hc : X.calm = true) (h : PGs X es (gsLow is)) (hn : (assignEach es X.env).length = is.length := by rfl) (hst : (assignEach es X.env).findIdx? (·.1) = none := by rfl) : PG X (.Tuple es kk pos) (tgLow X.K (.tup is)) :=
  pg_imp (pg_tup hc h hn hst) fun v σ H Q ⟨a, xs, e1, q1, hl, q⟩ => ⟨a, xs, e1, q1, hl, hl, q⟩
theorem wipe_get {σ : L2.St} {j : Nat} : ∀ {vs : List Nat}, (wipe σ vs)[j]? = if j ∈ vs ∧ j < σ.length then some none else σ[j]?
  | [] => by simp [wipe]
  | v :: vs => by
    have ih := wipe_get (σ := σ) (j := j) (vs := vs)
    unfold wipe
    rw [List.getElem?_set]
    have hl := wipe_length σ vs
    rw [hl, ih]
    by_cases h1 : v = j
    · subst h1
      by_cases h2 : v < σ.length <;> simp [h2]
    · have h1' : ¬ j = v := fun z => h1 z.symm
      simp [h1, h1']
theorem setAll_get {α : Type} {j : Nat} : ∀ {is : List Nat} {xs : List α} {env : List (Option α)}, j ∉ is → (setAll env is xs)[j]? = env[j]?
  | [], xs, env, _ => by cases xs <;> rfl
  | i :: is, [], env, _ => rfl
  | i :: is, x :: xs, env, h => by
    have h' : j ≠ i ∧ j ∉ is := by simpa using h
    show (setAll (env.set i (some x)) is xs)[j]? = _
    rw [setAll_get h'.2, List.getElem?_set_ne (Ne.symm h'.1)]
theorem setAll_length {α : Type} : ∀ {is : List Nat} {xs : List α} {env : List (Option α)}, (setAll env is xs).length = env.length
  | [], xs, env => by cases xs <;> rfl
  | i :: is, [], env => rfl
  | i :: is, x :: xs, env => by
    show (setAll (env.set i (some x)) is xs).length = _
    rw [setAll_length, List.length_set]
theorem wipe_set {σ : L2.St} {vs : List Nat} {σ' : L2.St} (hl : σ'.length = σ.length) (h : ∀ j, j ∉ vs → σ'[j]? = σ[j]?) : wipe σ' vs = wipe σ vs := by
  apply List.ext_getElem?
  intro j
  rw [wipe_get, wipe_get, hl]
  by_cases hj : j ∈ vs
  · by_cases h2 : j < σ.length
    · simp [hj, h2]
    · simp only [hj, h2, and_false, if_false]
      rw [List.getElem?_eq_none (by omega), List.getElem?_eq_none (by omega)]
  · simp only [hj, false_and, if_false]
    exact h j hj
theorem okE_wipe {as : AsM} {H0 : Hp} {σ : L2.St} {env : List (Option D)} (h : OkE K as H0 σ env) (vs : List Nat) : OkE K as H0 (L2.wipe σ vs) (vs.foldr (fun v acc => acc.set v none) env) := by
  induction vs with
  | nil => exact h
  | cons v vs ih =>
    have w : L2.wipe σ (v :: vs) = (L2.wipe σ vs).set v none := rfl
    rw [w]
    refine ⟨by show ((vs.foldr _ env).set v none).length = _; rw [List.length_set, List.length_set]; exact ih.len, fun i d e => ?_⟩
    have e' : ((vs.foldr (fun v acc => acc.set v none) env).set v none)[i]? = some (some d) := e
    by_cases hv : v = i
    · subst hv
      rw [List.getElem?_set] at e'
      by_cases hh : v < (vs.foldr (fun v acc => acc.set v none) env).length
      · simp [hh] at e'
      · simp [hh] at e'
    · rw [List.getElem?_set_ne hv] at e'
      obtain ⟨x, a, b⟩ := ih.at_ i d e'
      exact ⟨x, by rw [List.getElem?_set_ne hv]; exact a, b⟩
theorem okE_setAll {as : AsM} {H0 : Hp} : ∀ {is : List Nat} {σ : L2.St} {env : List (Option D)} {vs : List V} {ds : List D}, OkE K as H0 σ env → RpA K as H0 vs ds → OkE K as H0 (DL.setAll σ is vs) (DL.setAll env is ds)
  | [], σ, env, vs, ds, h, r => by cases r <;> exact h
  | i :: is, σ, env, [], _, h, r => by cases r; exact h
  | i :: is, σ, env, v :: vs, d :: ds, h, r => by
    cases r with
    | cons r1 r2 =>
      show OkE K as H0 (DL.setAll (σ.set i (some v)) is vs) (DL.setAll (env.set i (some d)) is ds)
      exact okE_setAll (h.set i r1) r2
def wipeD (env : List (Option D)) (vs : List Nat) : List (Option D) := vs.foldr (fun v acc => acc.set v none) env
def lcGo (k : Nat) (g : TgN) (tt : DT) (de : DE) (env : List (Option D)) : List D → List D → Cells → (List D → Cells → Prop) → Prop
  | [], acc, cs, R => R acc cs
  | d :: ds, acc, cs, R => ∃ env', tgSet g d env = some env' ∧ tt ⟨env', put cs k (.lst acc)⟩ fun b c2 => match b with
    | true => de c2 fun y c3 => c3.cs k = some (.lst acc) ∧ acc.length < sizeLine ∧ lcGo k g tt de env ds (acc ++ [y]) (del c3.cs k) R
    | false => c2.cs k = some (.lst acc) ∧ lcGo k g tt de env ds acc (del c2.cs k) R
def dLc (di : DI) (g : TgN) (tt : DT) (de : DE) : DE := fun c R => di c fun ds c1 => ∀ k, c1.cs k = none → lcGo k g tt de (wipeD c1.env g.vs) ds [] c1.cs fun acc cs' => R (.lst acc) { c1 with cs := cs' }
theorem put_del {cs : Cells} {k : Nat} {o : Co} (h : cs k = some o) : put (del cs k) k o = cs := by
  funext j; unfold put del; split
  · rename_i e; rw [e]; exact h.symm
  · rfl
theorem del_self {cs : Cells} {k : Nat} : del cs k k = none := if_pos rfl
/-- the reading of the low side -/
theorem lc_low {wi : TI} {di : DI} {g : TgN} {tt : DT} {de : DE} (low : ∀ σ H (Q : It → Hp → Prop), (∃ as H0 c R, Ok K as H0 H σ c ∧ di c R ∧
    ∀ as1 H01 H1 c1 ds J, Le as H0 as1 H01 → Ok K as1 H01 H1 σ c1 → ItD K as1 H01 J ds → R ds c1 → Q J H1) → wi σ H Q) :
    ∀ σ H Q, lift K (dLc di g tt de) σ H Q → tLc wi (tgLow K g) (liftT K tt) (lift K de) g.vs σ H Q := by
  intro σ H Q ⟨as, H0, c, R, ok, q, k⟩
  refine low _ _ _ ⟨as, H0, c, _, ok, q, fun as1 H1 Hn1 c1 ds J l1 ok1 it q1 => ?_⟩
  intro D hD
  obtain ⟨j, as2, hj, l2, ok2, rp⟩ := new_cell (u := .lst []) (o := .lst []) ok1 hD (.lst .nil)
  have aj : as2 j = some D := by cases rp with | cel h => exact h
  -- between two turns
  let Pv : Nat → Hp → Prop := fun i H' => ∃ as3 H3 acc cs', Le as2 H1 as3 H3 ∧ OkC K as3 H3 H' (put cs' j (.lst acc)) ∧ cs' j = none ∧
    lcGo j g tt de (wipeD c1.env g.vs) (ds.drop i) acc cs' fun acc cs' => R (.lst acc) { c1 with cs := cs' }
  have at_D : ∀ {as3 H3 H' acc cs'}, Le as2 H1 as3 H3 → OkC K as3 H3 H' cs' → cs' j = some (.lst acc) → ∃ vs, H' D = some (.lst vs) ∧ RpA K as3 H3 vs acc := by
    intro as3 H3 H' acc cs' l o e
    obtain ⟨p, u, g1, g2, g3, g4⟩ := o.cel j _ e
    rw [l.am _ _ aj] at g1; cases g1
    cases g4 with
    | lst g5 => exact ⟨_, g3, g5⟩
  refine ⟨fun i m H' => m = ds.length - i ∧ i ≤ ds.length ∧ Pv i H', ⟨_, rfl, Nat.zero_le _, as2, H1, [], c1.cs, .refl, ok2.c, hj, by rw [List.drop_zero]; exact q1 j hj⟩, ?_⟩
  rintro i m H' ⟨rfl, hi, as3, H3, acc, cs', l3, oc3, hj3, go⟩
  by_cases hlt : i < ds.length
  · refine .inr ⟨it.go _ _ _ _ _ (l2.trans l3) oc3 hlt, Pv (i + 1), fun H4 z => ⟨ds.length - (i + 1), by omega, rfl, hlt, z⟩, fun x H4 y => ?_⟩
    obtain ⟨d, hd⟩ : ∃ d, ds[i]? = some d := ⟨_, List.getElem?_eq_getElem hlt⟩
    have hdr : ds.drop i = d :: ds.drop (i + 1) := by
      rw [List.drop_eq_getElem_cons hlt]
      rw [List.getElem?_eq_getElem hlt] at hd
      cases hd; rfl
    rw [hdr] at go
    obtain ⟨env', e1, go⟩ := go
    obtain ⟨H5, l5, oc5, r5⟩ := it.yld _ _ _ _ _ _ _ _ (l2.trans l3) oc3 hd y
    have oe : OkE K as3 H5 (L2.wipe σ g.vs) (wipeD c1.env g.vs) := okE_wipe (ok1.e.mono ((l2.trans l3).trans l5)) g.vs
    -- the target
    have tg : ∀ σ2, L2.wipe σ2 g.vs = L2.wipe σ g.vs → OkE K as3 H5 σ2 env' → L2.wipe σ2 g.vs = L2.wipe σ g.vs ∧ liftT K tt σ2 H4 fun b H6 => if b = true then lift K de σ2 H6 fun y H7 => ∃ acc, H7 D = some (.lst acc) ∧ acc.length < sizeLine ∧ Pv (i + 1) (upd H7 D (.lst (acc ++ [y]))) else Pv (i + 1) H6 := by
      intro σ2 w2 oe2
      refine ⟨w2, as3, H5, ⟨env', put cs' j (.lst acc)⟩, _, ⟨oc5, oe2⟩, go, fun as6 H6 Hn6 c6 b l6 ok6 q6 => ?_⟩
      cases b with
      | true =>
        rw [if_pos rfl]
        refine ⟨as6, H6, c6, _, ok6, q6, fun as7 H7 Hn7 c7 v dv l7 ok7 r7 ⟨e7, h7, q7⟩ => ?_⟩
        have ll := ((l3.trans l5).trans l6).trans l7
        obtain ⟨vs, f1, f2⟩ := at_D ll ok7.c e7
        refine ⟨vs, f1, by rw [f2.length]; exact h7, as7, H7, _, _, ll, ?_, del_self, q7⟩
        have t := ok7.c.turn e7 (ll.am _ _ aj) (.lst (f2.append (.cons r7 .nil)))
        have ep : put (del c7.cs j) j (.lst (acc ++ [dv])) = put c7.cs j (.lst (acc ++ [dv])) := by
          funext b; unfold put del; split <;> rfl
        rw [ep]; exact t
      | false =>
        rw [if_neg Bool.false_ne_true]
        exact ⟨as6, H6, acc, _, (l3.trans l5).trans l6, by rw [put_del q6.1]; exact ok6.c, del_self, q6.2⟩
    cases g with
    | one i' =>
      cases e1
      refine tg _ (wipe_set (by rw [List.length_set, wipe_length]) fun b hb => ?_) (oe.set i' r5)
      have hb' : b ≠ i' := by simpa [TgN.vs] using hb
      rw [List.getElem?_set_ne (Ne.symm hb'), wipe_get]
      simp [TgN.vs, hb']
    | tup is =>
      cases d with
      | tup es =>
        have e1' : (if es.length = is.length then some (setAll (wipeD c1.env is) is es) else none) = some env' := e1
        split at e1'
        · rename_i hl
          cases e1'
          cases r5 with
          | tup g1 g2 =>
            refine ⟨_, _, rfl, seqT_mono oc5.ex g1, by rw [g2.length]; exact hl, ?_⟩
            refine tg _ (wipe_set (by rw [setAll_length, wipe_length]) fun b hb => ?_) (okE_setAll oe g2)
            have hb' : b ∉ is := hb
            rw [setAll_get hb', wipe_get]
            simp [TgN.vs, hb']
        · cases e1'
      | _ => cases e1
  · have e : i = ds.length := by omega
    subst e
    rw [List.drop_length] at go
    obtain ⟨vs, f1, f2⟩ := at_D l3 oc3 put_same
    obtain ⟨l4, oc4⟩ := oc3.freeze put_same (l3.am _ _ aj) f1
    rw [del_put hj3] at oc4
    have l := (l2.trans l3).trans l4
    exact .inl ⟨it.stop _ _ _ _ (l2.trans l3) oc3, k _ _ _ { c1 with cs := cs' } _ _ (l1.trans l) ⟨oc4, ok1.e.mono l⟩ (.lst upd_same (f2.mono l4)) go⟩
theorem pds_setLc {i : Nat} {y : Str} {py spos : Pos} {elt iter : Expr} {ifs : List Expr} {scope : Scope} {own : List (Str × Nat)} {di : DI} {g : TgN} {tt : DT} {de : DE} (hc : X.calm = true) (hN : X.N.Nodup) (hy : X.N[i]? = some y) (hyl : X.env.scope.names.lookup y = some .local)
    (hsw : swapsWith (.ListComp elt [⟨tg, iter, ifs, 0⟩] scope pos) (some (.Name y py)) spos.line X.env = pure true) (hi : PDI X tg iter di) (ok : BlkOk X.N X.env.scope scope own) (ho : own.map (·.2) = g.vs)
    (hg : ∀ (s : Shared) (H : Hp) (C : Addr) (cl : List (Str × Addr)) (fp : List Addr), PG (X.blk s H scope (compEnvC scope cl C X.env) fp) tg (tgLow X.K g))
    (ht : ∀ (s : Shared) (H : Hp) (C : Addr) (cl : List (Str × Addr)) (fp : List Addr), PTs (X.blk s H scope (compEnvC scope cl C X.env) fp) ifs (liftT X.K tt))
    (he : ∀ (s : Shared) (H : Hp) (C : Addr) (cl : List (Str × Addr)) (fp : List Addr), PD (X.blk s H scope (compEnvC scope cl C X.env) fp) elt de) (hs : ∀ x, foldedSetIterable iter X.env x = pure x := by intro _; rfl) :
    PDS X (.Assign [.Name y py] (.ListComp elt [⟨tg, iter, ifs, 0⟩] scope pos) spos) (sAsg (dLc di g tt de) i) := by
  obtain ⟨wi, hw, low⟩ := hi.ex
  have h := ps_setLc (te := lift X.K de) hc hN hy hyl hsw hw ok hg ht he hs
  rw [ho] at h
  exact fun W tk => ps_imp h fun Dn σ H ⟨as, H0, c, DD, ok, q, k⟩ => lc_low low σ H _ ⟨as, H0, c, _, ok, q, fun as1 H1 Hn c1 v d l1 ok1 r1 q1 =>
    k.nx _ _ _ _ _ l1 (⟨ok1.c, ok1.e.set i r1⟩ : Ok X.K as1 H1 Hn (σ.set i (some v)) { c1 with env := c1.env.set i (some d) }) q1⟩
end
/-! ### str of ints -/
def fStr : DFn := fun ds c R => match ds with
  | [.int i] => (-(2 ^ 200) < i ∧ i < 2 ^ 200) ∧ R (.str (toString i)) c
  | [.str s] => R (.str s) c
  | _ => False
section
variable {K : PySem.W.Frag} {X : Cx}
end

/-! ### repr, of {} too -/
section
variable {K : PySem.W.Frag} {X : Cx}
def fReprD : DFn := fun ds c R => match ds with
  | [.dic kvs] => kvs = [] ∧ R (.str (PyData.dict []).shown) c
  | ds => fRepr ds c R
end

theorem fStr_i {i : Int} {c : Z} {R : D → Z → Prop} : fStr [.int i] c R = ((-(2 ^ 200) < i ∧ i < 2 ^ 200) ∧ R (.str (toString i)) c) := rfl
theorem fReprD_d {c : Z} {R : D → Z → Prop} : fReprD [.dic []] c R = R (.str (PyData.dict []).shown) c := propext ⟨fun h => h.2, fun h => ⟨rfl, h⟩⟩
theorem e_enum {dr : DA} {c : Z} {RL : List D → Z → Prop} : iEnu dr c RL = dr c fun ds c1 => ∃ d xs, ds = [d] ∧ listD d = some xs ∧ RL (enumD xs) c1 := rfl
theorem e_zip {dr : DA} {c : Z} {RL : List D → Z → Prop} : iZipD dr c RL = dr c fun ds c1 => ∃ d e xs ys, ds = [d, e] ∧ listD d = some xs ∧ listD e = some ys ∧ RL (zipD xs ys) c1 := rfl
theorem e_gtp {gs : List DG} {ds : List D} {c : Z} {RZ : Z → Prop} : gTp gs (.tup ds) c RZ = (ds.length = gs.length ∧ gList gs ds c RZ) :=
  propext ⟨fun ⟨_, e, h, q⟩ => by cases e; exact ⟨h, q⟩, fun ⟨h, q⟩ => ⟨_, rfl, h, q⟩⟩
end DL

namespace DL
open PySem L2

/-! ### try .. except -/
section
variable {K : PySem.W.Frag} {as : AsM} {H0 : Hp}
end
section
variable {X : Cx} {x n : Str} {c : Value} {i : Nat} {body suite : List Stmt} {b₀ : Stmt} {np pos pos' : Pos} {sb : DS} {sub : Str → Option Bool}
end

/-! ### isinstance of the caught one -/
/-- a name of a class, as a value -/
structure ClsN (X : Cx) (e : Expr) (cv : Value) : Prop where
  ex : ∃ v, PE X e (tC v) ∧ ClsV v cv
section
variable {X : Cx} {x : Str} {pos p p2 : Pos} {i : Nat}
theorem clsN_own {C : Addr} (hg : Gl X x) (hm : X.mg x = some (.ref C)) (hd : (x == ("__debug__" : Str)) = false := by decide) : ClsN X (.Name x pos) (.ref C) := ⟨.ref C, pe_glob hg hm rfl hd, .own C⟩
theorem clsN_ty {n : String} (hg : Gl X x) (hm : X.mg x = none) (hv : bootBuiltins x = some (.type n)) (hn : x ≠ "__name__" := by decide) (hd : (x == ("__debug__" : Str)) = false := by decide) : ClsN X (.Name x pos) (.type n) := ⟨.ty n, pe_bltn (v := .ty n) hg hm hv rfl hn hd, .ty n⟩
variable {a D : Addr} {oe : Obj} {d : Option Addr} {pn : List (Addr × Obj)} {e : Expr} {ob : Option Bool} {cv cv2 : Value}
end

/-- as a plain call, where nothing may be raised -/
theorem FnG.quiet {P : Program} {w : World} {K : PySem.W.Frag} {mg : Str → Option Value} {base : Heap} {k : Nat} {f : Addr} {fd : FuncData} {ps : List Str} {sem : SemX} (F : FnG P w K mg base (L2.CX P w) k f fd ps (FnDX K mg sem)) : FnG P w K mg base CX0 k f fd ps (FnD K (semN sem)) :=
  ⟨fun vs H Q E ⟨as, H0, ds, cs, R, oc, rd, sm, q⟩ => F.len vs H Q E0 ⟨as, H0, ds, cs, R, fun _ _ => False, oc, rd, sm, q, fun _ _ _ _ _ _ _ _ _ _ _ z => z.elim⟩,
   fun A outer s H args us vs Q E hg hr en bt rv ⟨as, H0, ds, cs, R, oc, rd, sm, q⟩ => codeAny_mono (F.run A outer s H args us vs Q E0 hg hr en bt rv ⟨as, H0, ds, cs, R, fun _ _ => False, oc, rd, sm, q, fun _ _ _ _ _ _ _ _ _ _ _ z => z.elim⟩) fun r s' h => by
    cases r with
    | error e =>
      obtain ⟨_, _, _, _, _, _, _, _, _, _, _, _, z⟩ := h
      exact z.elim
    | ok fl =>
      cases fl with
      | ret u => exact h
      | _ => exact False.elim h⟩

/-! ### append -/
section
variable {X : Cx} {o e : Expr} {do_ da : DE} {apos cpos : Pos}
end
end DL

/-! word in row of words: the word may be any thing -/
namespace PySem.SeqAt
open AutoSeq1 (wpAny_loadPart')
open MeetsSeq
section
variable {P : Program} {w : World} {A : Around} {E : Value → Shared → Prop} {s : Shared}
end
end PySem.SeqAt
namespace DL
open L2 PySem PyProof.Rows
section
variable {X : Cx} {K : PySem.W.Frag}
end
end DL
namespace DL
end DL

/-! ### three names at once -/
namespace DL
open L2 PySem PyProof.Rows
section
variable {X : Cx}
def sPar3 (i j l : Nat) (da : DA) : DS := fun DD c => da c fun ds c1 => match ds with
  | [d1, d2, d3] => DD.nx { c1 with env := ((c1.env.set i (some d1)).set j (some d2)).set l (some d3) }
  | _ => False
theorem e_par3 {i j l : Nat} {da : DA} {DD : DEnds} {c : Z} : sPar3 i j l da DD c = da c fun ds c1 => match ds with
  | [d1, d2, d3] => DD.nx { c1 with env := ((c1.env.set i (some d1)).set j (some d2)).set l (some d3) }
  | _ => False := rfl
end
end DL

namespace DL
open L2 PySem PyProof.Rows
/-! ### a key in a dict -/
section
variable {X : Cx} {K : PySem.W.Frag}
end
/-! ### how many of a list -/
section
variable {X : Cx} {K : PySem.W.Frag} {o e : Expr} {do_ da : DE} {apos cpos : Pos}
end
end DL

namespace DL
open L2 PySem PyProof.Rows
def onCel (o : D) (f : Nat → Prop) : Prop := match o with | .cel k => f k | _ => False
theorem onCel_c {k : Nat} {f : Nat → Prop} : onCel (.cel k) f = f k := rfl
theorem onCel_of {o : D} {f : Nat → Prop} (h : onCel o f) : ∃ k, o = .cel k ∧ f k := by
  cases o <;> first | exact ⟨_, rfl, h⟩ | exact h.elim
def onDic (o : D) (f : List (Key × D) → Prop) : Prop := match o with | .dic k => f k | _ => False
theorem onDic_d {k : List (Key × D)} {f : List (Key × D) → Prop} : onDic (.dic k) f = f k := rfl
def onKey (o : D) (f : Key → Prop) : Prop := match o with | .int i => f (.inl i) | .str s => f (.inr s) | _ => False
theorem onKey_i {i : Int} {f : Key → Prop} : onKey (.int i) f = f (.inl i) := rfl
theorem onKey_s {i : Str} {f : Key → Prop} : onKey (.str i) f = f (.inr i) := rfl
/-! ### a changing thing's last reading -/
section
variable {X : Cx} {K : PySem.W.Frag} {e a b : Expr} {da db : DE} {pos : Pos}
def dFrz (da : DE) : DE := fun c R => da c fun d c1 => onCel d fun k => ∃ ds, c1.cs k = some (.lst ds) ∧ R (.lst ds) { c1 with cs := del c1.cs k }
def dFrzD (da : DE) : DE := fun c R => da c fun d c1 => onCel d fun k => ∃ ds, c1.cs k = some (.dic ds) ∧ R (.dic ds) { c1 with cs := del c1.cs k }
/-! ### dicts that change -/
def cellD : Option Co → Option (List (Key × D)) | some (.dic kvs) => some kvs | some (.fdic _ _ kvs) => some kvs | _ => none
theorem cellD_dic {k : List (Key × D)} : cellD (some (.dic k)) = some k := rfl
theorem cellD_fdic {od : Obj} {vs : List (Key × V)} {k : List (Key × D)} : cellD (some (.fdic od vs k)) = some k := rfl
/-- {} that will change -/
def dDNewC : DE := fun c R => ∀ k, c.cs k = none → R (.cel k) { c with cs := put c.cs k (.dic []) }
def dIxC : DF := fun x y c R => onCel x fun k => onKey y fun key => ∃ kvs, cellD (c.cs k) = some kvs ∧ ∃ d, lookD kvs key = some d ∧ R d c
def dInCN (neg : Bool) : DF := fun x y c R => onCel y fun j => onKey x fun k => ∃ kvs, cellD (c.cs j) = some kvs ∧ R (.bl (if neg then !(lookD kvs k).isSome else (lookD kvs k).isSome)) c
def dInC : DF := dInCN false
def dNotInC : DF := dInCN true
def dUpd (do_ da : DE) : DE := fun c R => do_ c fun o c1 => onCel o fun k => (∃ kvs, c1.cs k = some (.dic kvs)) ∧ da c1 fun v c2 => onDic v fun more => ∃ kvs, c2.cs k = some (.dic kvs) ∧ kvs.length + more.length ≤ sizeLine ∧ R .non { c2 with cs := put c2.cs k (.dic (mergeD kvs more)) }
variable {o : Expr} {do_ : DE} {apos cpos : Pos}
end
/-! ### a walk over a dict -/
section
variable {X : Cx} {K : PySem.W.Frag} {tg : Expr} {body : List Stmt} {pos p : Pos} {sb : DS} {g : DG} {x : Str}
end
end DL

namespace DL
open L2 PySem PyProof.Rows
theorem OkC.sub {K : PySem.W.Frag} {as : AsM} {H0 H : Hp} {cs cs' : Cells} (h : OkC K as H0 H cs) (hs : ∀ k o, cs' k = some o → cs k = some o) : OkC K as H0 H cs' := by
  have low : ∀ k, cs' k ≠ none → cs k ≠ none := fun k z => by
    cases q : cs' k with
    | none => exact absurd q z
    | some o => rw [hs k o q]; exact Option.some_ne_none o
  exact ⟨h.ex, h.fin, fun k o e => h.cel k o (hs k o e), fun k k' p e1 e2 c1 c2 => h.inj k k' p e1 e2 (low k c1) (low k' c2)⟩
section
variable {X : Cx} {K : PySem.W.Frag} {e a b : Expr} {da db : DE} {pos : Pos}
/-! ### is, of truths -/
def dIsB : DF := fun x y c R => match x, y with | .bl a, .bl b => R (.bl (decide (a = b))) c | _, _ => False
theorem e_isB {x y : Bool} {c : Z} {R : D → Z → Prop} : dIsB (.bl x) (.bl y) c R = R (.bl (decide (x = y))) c := rfl
/-! ### a list to names -/
/-! ### tuple of a list -/
/-! ### sorted, of ints -/
/-! ### bits of an int -/
def dBits (da : DE) : DE := fun c R => da c fun x c1 => match x with | .int i => R (.int (Builtin.Int.intBits i : Nat)) c1 | _ => False
/-! ### where in a list -/
end
end DL

namespace DL
open L2 PySem PyProof.Rows
section
variable {X : Cx} {K : PySem.W.Frag} {k n : Nat} {f : Addr} {fd : FuncData} {ps ks : List Str} {sem : Sem} {gD : List D → List D → List D} {x : Str} {p pos : Pos} {kws : List Keyword} {dk : DA}
/-! ### a call by keywords alone -/
/-! ### max and min of a list of ints -/
end
end DL

/-! an exception that is kept behind its suite, isinstance of such -/
namespace DL
open L2 PySem PySem.Spec PyProof.Rows
section
variable {X : Cx} {pins : List (Addr × Obj)} {σ : L2.St} {H : Hp} {s : Shared}
theorem exH_ok {P : Program} {w : World} {h : Heap} {a : Addr} {cls : Value} {d : Option Addr} {oe : Obj} {vs : Array Value} (e : h.get? a = some oe) (z : Zc cls d oe) (q : oe.data = .fields vs) : ObjOk P w H h a (ExH cls d a) :=
  ⟨⟨oe, e, z, vs, q⟩, ⟨oe, e⟩, fun _ _ ⟨o, q, r⟩ k => ⟨o, k o q, r⟩⟩
end
section
variable {X : Cx} {x n : Str} {c : Value} {i : Nat} {body suite : List Stmt} {b₀ : Stmt} {np pos pos' : Pos} {tb : WX → TS} {ts : Value → Option Addr → TS} {Wout : WX}
end
/-! #### by data -/
section
variable {X : Cx} {x n : Str} {c : Value} {i : Nat} {body suite : List Stmt} {b₀ : Stmt} {np pos pos' : Pos} {sb su : DS} {sub : Str → Option Bool}
end
/-! ### isinstance of a kept one -/
section
variable {X : Cx} {K : PySem.W.Frag}
theorem inst_exH {P : Program} {w : World} {H : Hp} {h : Heap} {a C : Addr} {d : Option Addr} (hok : HOk P w H h) (e : H a = some (ExH (.ref C) d a)) (hd : ∀ dd, d = some dd → ∃ fs, H dd = some (.xd fs)) : ∃ oe od, PySem.W.InstAt h a oe C od := by
  obtain ⟨⟨oe, ho, hz, vs, hv⟩, _⟩ := hok a _ e
  cases d with
  | none => exact ⟨oe, none, ho, hz.1, by unfold PySem.W.notCls; rw [hv] <;> rfl, by rw [hz.2]; trivial⟩
  | some dd =>
    obtain ⟨fs, hx⟩ := hd dd rfl
    obtain ⟨mA, hns, _⟩ := hok dd _ hx
    obtain ⟨od, hod, _⟩ := lookIn_ns hns
    exact ⟨oe, some od, ho, hz.1, by unfold PySem.W.notCls; rw [hv] <;> rfl, by rw [hz.2]; exact hod⟩
/-- what flies, as it lies in the heap -/
def ExAt (K : PySem.W.Frag) (H : Hp) (a C : Addr) : Prop := ∃ d, H a = some (ExH (.ref C) d a) ∧ ∀ dd, d = some dd → ∃ fs, H dd = some (.xd fs)
def rIsX (K : PySem.W.Frag) : List V → Hp → VK → Prop := fun xs H Q => ∃ (a C : Addr) (v : V) (cv : Value) (b : Bool), xs = [.ref a, v] ∧ ClsV v cv ∧ ExAt K H a C ∧ ExcC K C ∧ PySem.W.kitOne K (.ref C) cv = some b ∧ Q (.bl b) H
theorem call_isX : CallR X (.builtin "isinstance") (rIsX X.K) := by
  intro pins s σ H xs us Q I r ⟨a, C, v, cv, b, e0, hc, ⟨d, ha, hd⟩, EC, kt, q⟩
  subst e0
  obtain ⟨wa, wb, rfl, ra, rb⟩ := vals2 r
  cases (show wa = Value.ref a from ra)
  have e3 := hc.eq rb
  subst e3
  obtain ⟨oe, od, J⟩ := inst_exH I.hok ha hd
  have hcl : (PySem.W.clsIn X.K C).isSome = true := by obtain ⟨cd, hc, _⟩ := PySem.W.any_some EC.hd; rw [hc]; rfl
  exact PySem.W.kia_one (PySem.W.kitx_exc hcl EC.hg EC.hk EC.hs EC.ha EC.hn EC.ht EC.hm) I.kIn J kt (fun z => nomatch z) fun tk => ⟨.bl b, H, I.kept (t' := tk) fun _ _ z => z, rfl, q⟩
def dIsX (ob : Str → Option Bool) (da : DE) : DE := fun c R => da c fun d c1 => onCel d fun k => ∃ x b, c1.cs k = some (.exc x) ∧ ob x.cls = some b ∧ R (.bl b) c1
theorem cell_exc {as : AsM} {H0 H : Hp} {cs : Cells} {k : Nat} {x : DX} {v : V} (ok : OkC K as H0 H cs) (r : Rp K as H0 v (.cel k)) (h : cs k = some (.exc x)) : ∃ p C d, v = .ref p ∧ as k = some p ∧ H p = some (ExH (.ref C) d p) ∧ XD K as H0 x d ∧ ClsK K x.cls C := by
  cases r with
  | cel e =>
    obtain ⟨p', u, h1, h2, h3, h4⟩ := ok.cel k _ h
    rw [e] at h1; cases h1
    cases h4 with
    | exc h5 h6 => exact ⟨_, _, _, rfl, e, h3, h5, h6⟩
theorem exAt_of {as : AsM} {H0 H : Hp} {a C : Addr} {d : Option Addr} {x : DX} (ex : ∀ a o, H0 a = some o → H a = some o) (e : H a = some (ExH (.ref C) d a)) (h : XD K as H0 x d) : ExAt K H a C := by
  cases h with
  | no => exact ⟨none, e, fun _ z => nomatch z⟩
  | fs h1 h2 => exact ⟨_, e, fun dd z => by cases z; exact ⟨_, ex _ _ h1⟩⟩
variable {ob : Str → Option Bool} {e e2 : Expr} {da : DE} {pos p : Pos} {cv : Value}
theorem pd_isX (hI : Gl X "isinstance") (hIm : X.mg "isinstance" = none) (ha : PD X e da) (hc : ClsN X e2 cv) (h : ∀ r b C, ob r = some b → ClsK X.K r C → ExcC X.K C ∧ PySem.W.kitOne X.K (.ref C) cv = some b)
    (he0 : starEach [e, e2] X.env = (false, eval e X.env) :: starEach [e2] X.env := by rfl) (he1 : starEach [e2] X.env = [(false, eval e2 X.env)] := by rfl) :
    PD X (.Call (.Name "isinstance" p) [e, e2] [] pos) (dIsX ob da) := by
  obtain ⟨v, hpe, hcv⟩ := hc.ex
  have pe := pe_callB (pos := pos) (p := p) (call_isX (X := X)) hI hIm (by decide +kernel) (pa_cons ha (pa_cons hpe pa_nil he1) he0) (he := he0) (hpl := by
    show ((backTo pos (starEach [e2] X.env)).any (·.1)) = false
    rw [he1]; rfl)
  refine pe_imp pe fun σ H Q ⟨as, H0, c, R, ok, q, k⟩ => ⟨as, H0, c, _, ok, q, fun as1 H1 Hn1 c1 u d l1 ok1 r1 q0 => ?_⟩
  obtain ⟨j, e1, x, b, e3, e4, q1⟩ := onCel_of q0
  subst e1
  obtain ⟨a, C, dd, rfl, ap, hH, xd, cl⟩ := cell_exc ok1.c r1 e3
  obtain ⟨EC, kt⟩ := h _ _ _ e4 cl
  exact ⟨a, C, v, cv, b, rfl, hcv, exAt_of ok1.c.ex hH xd, EC, kt, k _ _ _ _ _ _ l1 ok1 (.bl b) q1⟩
end
end DL
namespace DL
open L2 PySem PyProof.Rows
section
variable {X : Cx} {K : PySem.W.Frag} {a b : Expr} {rest : List Expr} {da db : DE} {pos : Pos}
/-! ### x or y, of things of any kind -/
end
end DL
namespace DL
open L2 PySem PyProof.Rows
section
variable {X : Cx} {K : PySem.W.Frag} {a b e : Expr} {da db : DE} {pos p : Pos} {x : Str}
/-! ### what is not reached -/
/-! ### a dict of the module, of texts -/
end
/-! ### some of the keyword-only parameters are written -/
section
variable {K : PySem.W.Frag} {f : Addr} {fd : FuncData} {ps ks : List Str} {x qual : Str} {params : Arguments} {body : List Stmt} {scope : Scope} {kws : List (Str × V)}
end
end DL

/-! t[::-1] of a tuple -/
namespace HT
open PySem PyProof.Rows
section
variable {prog : Program} {w : World} {A : Around} {E : Value → Shared → Prop} {s : Shared}
end
end HT
namespace L2
open PySem PySem.Spec PyProof.Rows
section
variable {X : Cx}
end
end L2
namespace DL
open L2 PySem PySem.Spec PyProof.Rows
section
variable {X : Cx} {a : Expr} {da : DE}
end
end DL

/-! d[k] = v of a dict that changes -/
namespace DL
open L2 PySem PyProof.Rows
section
variable {X : Cx} {K : PySem.W.Frag} {e a b o i : Expr} {da db do_ di : DE} {pos : Pos}
end
end DL

/-! a walk along two lists that change, but not in the meanwhile -/
namespace DL
open L2 PySem PyProof.Rows
section
variable {X : Cx} {K : PySem.W.Frag} {dr : DA} {pos : Pos}
end
end DL

/-! a < b < c < d -/
namespace L2
open PySem PySem.Spec PyProof.Rows
section
variable {X : Cx} {ta tb tc td : TE} {a b c d : Expr} {pos : Pos}
end
end L2
namespace DL
open L2 PySem PySem.Spec PyProof.Rows
section
variable {X : Cx} {da db dc dd : DE} {a b c d : Expr} {pos : Pos}
end
end DL

/-! list(a sequence), list(range(n)) -/
namespace DL
open L2 PySem PyProof.Rows
section
variable {X : Cx} {K : PySem.W.Frag} {a : Expr} {da : DE}
end
end DL

/-! tuples: + and slices of any kind -/
namespace DL
open L2 PySem PyProof.Rows
section
variable {X : Cx} {K : PySem.W.Frag} {a b : Expr} {da db : DE} {pos : Pos}
end
end DL

/-! [e for x in xs for y in ys] -/
namespace DL
open L2 PySem PyProof.Rows
section
variable {X : Cx} {K : PySem.W.Frag}
end
end DL
namespace DL
open L2 PySem PyProof.Rows
section
variable {X : Cx} {tg tg1 : Expr} {pos : Pos}
end
end DL

/-! enumerate(t), t a tuple -/
namespace DL
open L2 PySem PyProof.Rows
section
variable {pr : Program} {wd : World} {Ar : Around} {Er : Value → Shared → Prop} {st : Shared}
end
section
variable {pr : Program} {wd : World} {Ar : Around} {Er : Value → Shared → Prop} {st : Shared}
end
section
variable {X : Cx} {dr : DA}
end
end DL

/-! sorted(set(l)), l a list of ints -/
namespace DL
open L2 PySem PyProof.Rows
section
variable {pr : Program} {wd : World} {Ar : Around} {Er : Value → Shared → Prop} {st : Shared}
end
section
variable {X : Cx}
end
end DL

/-! list(zip(a, b)), a and b tuples -/
namespace DL
open L2 PySem PyProof.Rows
section
variable {pr : Program} {wd : World} {Ar : Around} {Er : Value → Shared → Prop} {st : Shared} {z TI TO T i1 i2 l1 l2 : Addr} {fl : Bool} {oT : Obj} {k1 k2 : Nat} {xs ys : Array Value} {x y : Value}
end
/-- zip(a, b) behind i draws; S: the list that takes the pairs -/
structure Zst (h : Heap) (z TI TO i1 i2 l1 l2 S : Addr) (xs ys : Array Value) (i : Nat) : Prop where
  ti : IsPair h TI (.ref i1) (.ref i2)
  w1 : h.IsTupleIter i1 l1 i
  w2 : h.IsTupleIter i2 l2 i
  t1 : h.IsTuple l1 xs
  t2 : h.IsTuple l2 ys
  zo : (IsZip h z TI TO .none ∧ ∃ a b, IsPair h TO a b) ∨ ∃ T f oT, IsZipHeld h z TI TO T f ∧ h.get? T = some oT ∧ T ≠ z ∧ T ≠ i1 ∧ T ≠ i2 ∧ T ≠ S
section
variable {pr : Program} {wd : World} {Ar : Around} {Er : Value → Shared → Prop} {st : Shared} {z TI TO i1 i2 l1 l2 S : Addr} {i : Nat} {xs ys : Array Value} {x y : Value}
theorem Zst.keep {h h' : Heap} (q : Zst h z TI TO i1 i2 l1 l2 S xs ys i) (low : ∀ b ∈ [z, TI, TO, i1, i2, l1, l2], b < S) (k : ∀ b o, b ≠ S → h.get? b = some o → h'.get? b = some o) : Zst h' z TI TO i1 i2 l1 l2 S xs ys i := by
  have ne : ∀ b ∈ [z, TI, TO, i1, i2, l1, l2], b ≠ S := fun b hb => Nat.ne_of_lt (low b hb)
  simp only [List.forall_mem_cons, List.not_mem_nil, false_imp_iff, implies_true, and_true] at ne
  obtain ⟨n1, n2, n3, n4, n5, n6, n7⟩ := ne
  refine ⟨k _ _ n2 q.ti, q.w1.at fun o => k _ o n4, q.w2.at fun o => k _ o n5, q.t1.at fun o => k _ o n6, q.t2.at fun o => k _ o n7, ?_⟩
  rcases q.zo with ⟨e, a, b, f⟩ | ⟨T, f, oT, e, g, r1, r2, r3, r4⟩
  · exact .inl ⟨k _ _ n1 e, a, b, k _ _ n3 f⟩
  · exact .inr ⟨T, f, oT, k _ _ n1 e, k _ _ r4 g, r1, r2, r3, r4⟩
theorem Zst.type {s : Shared} (q : Zst s.heap z TI TO i1 i2 l1 l2 S xs ys i) : s.TypeIs (.ref z) "zip" := by
  rcases q.zo with ⟨e, _⟩ | ⟨T, f, oT, e, _⟩
  · exact ⟨_, e, rfl⟩
  · exact ⟨_, e, rfl⟩
end
/-! #### what is tracked then -/
section
variable {X : Cx} {pins : List (Addr × Obj)} {σ : L2.St} {H : Hp} {s : Shared}
end
end DL

/-! a list that changes no more, under its name -/
namespace DL
open L2 PySem PyProof.Rows
end DL

/-! all(l), any(l), l a list of bools -/
namespace DL
open L2 PySem PyProof.Rows
section
variable {K : PySem.W.Frag}
end
end DL

/-! sets of texts: what stands in one, a text put in -/
namespace DL
open L2 PySem PyProof.Rows
/-- the text of a row -/
def rowT (x : Int × Value) : Str := match x.2 with | .str y _ => y | _ => Str.ofString ""
def TxRow (wd : World) (x : Int × Value) : Prop := ∃ y u, x.2 = Value.str y u ∧ x.1 = hashStr wd y
/-- the rows es hold the texts M, each once -/
structure Rows (wd : World) (es : Array (Int × Value)) (t : SetTable) (M : Str → Bool) : Prop where
  rows : ∀ x ∈ es.toList, TxRow wd x
  once : (es.toList.map rowT).Nodup
  mem : ∀ y, M y = true ↔ y ∈ es.toList.map rowT
  few : es.size < scanBound
  fit : t.fits es.size = true
  ris : Ris t.place.toList
  led : wd.params.followText "set-order" = true ∨ t.led = true
def SetS (wd : World) (h : Heap) (a : Addr) (M : Str → Bool) (n : Nat) : Prop :=
  ∃ o es ep t, h.get? a = some o ∧ o.ExactSet ∧ o.data = .set es ep t ∧ Rows wd es t M ∧ es.size = n
section
variable {pr : Program} {wd : World} {Ar : Around} {Er : Value → Shared → Prop} {st : Shared} {a : Addr} {M : Str → Bool} {n : Nat}
theorem SetS.keep {h h' : Heap} (z : SetS wd h a M n) (k : ∀ o, h.get? a = some o → h'.get? a = some o) : SetS wd h' a M n := by
  rcases z with ⟨o, es, ep, t, g, z⟩
  exact ⟨o, es, ep, t, k o g, z⟩
theorem SetS.same {h : Heap} {M' : Str → Bool} (z : SetS wd h a M n) (e : ∀ y, M' y = M y) : SetS wd h a M' n := by
  rw [show M' = M from funext e]; exact z
end
end DL

/-! sorted(set(l)), l a list of texts -/
namespace DL
open L2 PySem PyProof.Rows
section
variable {pr : Program} {wd : World} {Ar : Around} {Er : Value → Shared → Prop} {st : Shared}
end
end DL

/-! sorted(set(l)), l a list of texts: the reading -/
namespace DL
open L2 PySem PyProof.Rows
section
variable {pr : Program} {wd : World} {Ar : Around} {Er : Value → Shared → Prop} {st : Shared} {a : Addr} {M : Str → Bool} {n : Nat}
end
section
variable {X : Cx}
end
end DL

/-! sorted(set(l)) as a list that may change; l may be one too -/
namespace DL
open L2 PySem PyProof.Rows
section
variable {X : Cx}
end
end DL

/-! texts in order, each once: by their members alone -/
namespace DL
open L2 PySem PySem.Spec PyProof.Rows
end DL

/-! a != b, a and b lists of which some elements are changing lists -/
namespace DL
open L2 PySem PyProof.Rows
section
variable {K : PySem.W.Frag}
end
section
variable {X : Cx} {a b : Expr} {da db : DE} {pos : Pos}
end
end DL

/-! l[::-1] of a list; x in l, things of any depth; a list that may change + a list; data that are one -/
namespace DL
open L2 PySem PySem.Spec PyProof.Rows
section
variable {X : Cx} {K : PySem.W.Frag} {a b : Expr} {da db : DE}
end
/-! ### data of which those alike are one -/
end DL

/-! a dict from a comprehension -/
namespace L2
open PySem PySem.Spec PyProof.Rows
section
variable {X : Cx}
end
end L2
namespace DL
open L2 PySem PySem.Spec PyProof.Rows
section
variable {K : PySem.W.Frag} {X : Cx}
end
end DL

/-! repr of data in which empty dicts stand -/
namespace DL
open L2 PySem PySem.Spec PyProof.Rows
mutual
def pyE : D → PyData
  | .non => .none | .bl b => .bool b | .int i => .int i | .str s => .str s
  | .lst ds => .list (pyEA ds) | .slst ds => .list (pyEA ds) | .tup ds => .tuple (pyEA ds)
  | .dic _ => .dict [] | .ref _ => .none | .ty _ => .none | .cel _ => .none | .fn _ => .none
def pyEA : List D → List PyData
  | [] => []
  | d :: ds => pyE d :: pyEA ds
end
mutual
def smallE : D → Prop
  | .int i => -(2 ^ 200) < i ∧ i < 2 ^ 200
  | .str s => ∀ c ∈ s.cps.toList, c < 16 ^ 8
  | .lst ds => smallEA ds | .slst ds => smallEA ds | .tup ds => smallEA ds
  | .non => True | .bl _ => True | .dic ks => ks = [] | .ref _ => False | .ty _ => False | .cel _ => False | .fn _ => False
def smallEA : List D → Prop
  | [] => True
  | d :: ds => smallE d ∧ smallEA ds
end
mutual
inductive DpE (K : PySem.W.Frag) (H : Hp) : V → PyData → Prop
  | non : DpE K H .non .none
  | bl (b : Bool) : DpE K H (.bl b) (.bool b)
  | int (i : Int) : DpE K H (.int i) (.int i)
  | str (x : Str) : DpE K H (.str x) (.str x)
  | lst {a : Addr} {xs : List V} {ds : List PyData} : SqL K H a xs → DpEA K H xs ds → DpE K H (.ref a) (.list ds)
  | tup {a : Addr} {xs : List V} {ds : List PyData} : SqT K H a xs → DpEA K H xs ds → DpE K H (.ref a) (.tuple ds)
  | dic {a : Addr} : H a = some (.dK []) → DpE K H (.ref a) (.dict [])
inductive DpEA (K : PySem.W.Frag) (H : Hp) : List V → List PyData → Prop
  | nil : DpEA K H [] []
  | cons {v : V} {vs : List V} {d : PyData} {ds : List PyData} : DpE K H v d → DpEA K H vs ds → DpEA K H (v :: vs) (d :: ds)
end
section
variable {K : PySem.W.Frag} {as : AsM} {H0 H : Hp}
mutual
theorem rpE (e : ∀ a o, H0 a = some o → H a = some o) : ∀ {d : D} {v : V}, smallE d → Rp K as H0 v d → DpE K H v (pyE d)
  | .non, _, _, h => by cases h; exact .non
  | .bl _, _, _, h => by cases h; exact .bl _
  | .int _, _, _, h => by cases h; exact .int _
  | .str _, _, _, h => by cases h; exact .str _
  | .lst ds, _, p, h => by
    cases h with
    | lst h1 h2 => exact .lst (SqL.of (e _ _ h1)) (rpEA e (show smallEA ds from p) h2)
  | .slst ds, _, p, h => by
    cases h with
    | slst h1 h2 => exact .lst (seqL_mono e h1) (rpEA e (show smallEA ds from p) h2)
  | .tup ds, _, p, h => by
    cases h with
    | tup h1 h2 => exact .tup (seqT_mono e h1) (rpEA e (show smallEA ds from p) h2)
  | .dic ks, _, p, h => by
    have p' : ks = [] := p
    subst p'
    cases h with
    | dic h1 h2 => cases h2; exact .dic (e _ _ h1)
  | .ref _, _, p, _ => False.elim p
  | .ty _, _, p, _ => False.elim p
  | .cel _, _, p, _ => False.elim p
  | .fn _, _, p, _ => False.elim p
theorem rpEA (e : ∀ a o, H0 a = some o → H a = some o) : ∀ {ds : List D} {vs : List V}, smallEA ds → RpA K as H0 vs ds → DpEA K H vs (pyEA ds)
  | [], _, _, h => by cases h; exact .nil
  | d :: ds, _, p, h => by
    cases h with
    | cons h1 h2 => exact .cons (rpE e p.1 h1) (rpEA e p.2 h2)
end
end
/-- read, and each dict of it no table of modules: it shows -/
def ShE (prog : Program) (w : World) (h : Heap) (u : Value) (d : PyData) : Prop := (∃ as, Reads h u d as) ∧ ∃ bs, ReadAtMost h d.depth bs ∧ ReprK prog w bs h d.depth u d.shown
def ShEA (prog : Program) (w : World) (h : Heap) (us : List Value) (ds : List PyData) : Prop := (∃ as, ReadsAll h us ds as) ∧ ∃ bs, ReadAtMost h (PyData.depthAll ds) bs ∧ ReprAllK prog w bs h (PyData.depthAll ds) us (PyData.shownAll ds)
section
variable {X : Cx} {pins : List (Addr × Obj)} {σ : L2.St} {H : Hp} {s : Shared}
theorem she_dict {a : Addr} (I : Inv X pins σ H s) (h : H a = some (.dK [])) : ∃ o es ep, s.heap.get? a = some o ∧ o.cls = .type "dict" ∧ o.data = .dict es ep ∧ es.toList = [] ∧ (a == sysModules) = false := by
  obtain ⟨_, ns, vs, kv, o, es, ep, h1, h2, h3, _, h5, _⟩ := I.hok a _ h
  cases kv
  have e : es.toList = [] := by cases q : es.toList with | nil => rfl | cons x xs => rw [q] at h5; cases h5
  exact ⟨o, es, ep, h1, h2.1, h3, e, ns⟩
mutual
theorem she_of (I : Inv X pins σ H s) : ∀ (d : PyData) {v : V} {u : Value}, DpE X.K H v d → RelV v u → d.showable = true → d.shown.length ≤ sizeLine → ShE X.prog X.w s.heap u d
  | .none, _, _, h, r, _, _ => by
    cases h; cases r
    exact ⟨⟨_, .none⟩, [], (fun _ z => nomatch z), by simp only [PyData.shown]; exact .of_is ReprIs.none _ _ _⟩
  | .bool b, _, _, h, r, _, _ => by
    cases h; cases r
    exact ⟨⟨_, .bool b⟩, [], (fun _ z => nomatch z), by simp only [PyData.shown]; exact .of_is (ReprIs.bool b) _ _ _⟩
  | .int i, _, _, h, r, g, _ => by
    cases h; obtain ⟨t, rfl⟩ := r
    exact ⟨⟨_, .int i t⟩, [], (fun _ z => nomatch z), by simp only [PyData.shown]; exact .of_is (ReprIs.int t (by simpa [PyData.showable] using g)) _ _ _⟩
  | .str x, _, _, h, r, _, z => by
    cases h; obtain ⟨t, rfl⟩ := r
    exact ⟨⟨_, .str x t⟩, [], (fun _ z => nomatch z), by simp only [PyData.shown]; exact .of_is (ReprIs.str x t (by simpa only [PyData.shown] using z)) _ _ _⟩
  | .list xs, _, _, h, r, g, z => by
    cases h with
    | lst hs ha =>
      rename_i a ys
      cases r
      obtain ⟨its, rv, ⟨o, n, ho, hc, _, hd⟩, _⟩ := I.list hs
      have hz : (listText (PyData.shownAll xs)).length ≤ sizeLine := by simpa only [PyData.shown] using z
      obtain ⟨⟨as, ra⟩, bs, hb, hk⟩ := she_all I xs ha rv (by simpa [PyData.showable] using g) fun t ht => Nat.le_trans (listText_mem_le ht) hz
      have rr : Reads s.heap (.ref a) (.list xs) _ := .list ho hc hd ra
      have out : a ∉ bs := not_mem_of_deeper rr (by simp only [PyData.depth]; omega) hb
      refine ⟨⟨_, rr⟩, a :: bs, ReadAtMost.cons rr (by simp only [PyData.depth]; omega) hb, ?_⟩
      simp only [PyData.depth, PyData.shown]
      cases its with
      | nil =>
        have ra' : ReadsAll s.heap [] xs as := ra
        cases ra'
        simp only [PyData.shownAll, listText_nil]
        exact ReprK.listEmpty ho hc hd
      | cons x l => exact ReprK.list ho hc hd out (by simpa using hk.length_eq) fun i y e => hk.item i y (by simpa using e)
  | .tuple xs, _, _, h, r, g, z => by
    cases h with
    | tup hs ha =>
      rename_i a ys
      cases r
      obtain ⟨its, rv, ⟨o, ho, hc, n, hd⟩, _⟩ := I.tuple hs
      have hz : (tupleText (PyData.shownAll xs)).length ≤ sizeLine := by simpa only [PyData.shown] using z
      obtain ⟨⟨as, ra⟩, bs, hb, hk⟩ := she_all I xs ha rv (by simpa [PyData.showable] using g) fun t ht => Nat.le_trans (tupleText_mem_le ht) hz
      have rr : Reads s.heap (.ref a) (.tuple xs) _ := .tuple ho hc hd ra
      have out : a ∉ bs := not_mem_of_deeper rr (by simp only [PyData.depth]; omega) hb
      refine ⟨⟨_, rr⟩, a :: bs, ReadAtMost.cons rr (by simp only [PyData.depth]; omega) hb, ?_⟩
      simp only [PyData.depth, PyData.shown]
      exact ReprK.tuple ho hc hd out hk
  | .dict ks, _, _, h, r, g, z => by
    cases h with
    | dic hs =>
      rename_i a
      cases r
      obtain ⟨o, es, ep, ho, hc, hd, he, ns⟩ := she_dict I hs
      have rr : Reads s.heap (.ref a) (.dict []) (a :: [] ++ []) := .dict ho hc hd (by rw [he]; exact .nil) (by rw [he]; exact .nil)
      refine ⟨⟨_, rr⟩, a :: ([] ++ []), ReadAtMost.cons rr (Nat.le_refl _) (fun _ z => nomatch z), ?_⟩
      simp only [PyData.depth, PyData.shown, PyData.shownKv_eq]
      exact ReprK.dict ho hc hd ns (fun z => nomatch z) (ReprEntriesK.of_two es.toList _ _ (by rw [he]; exact .nil) (by rw [he]; exact .nil))
theorem she_all (I : Inv X pins σ H s) : ∀ (ds : List PyData) {vs : List V} {us : List Value}, DpEA X.K H vs ds → Vals vs us → PyData.showableAll ds = true → (∀ t ∈ PyData.shownAll ds, t.length ≤ sizeLine) → ShEA X.prog X.w s.heap us ds
  | [], _, _, h, r, _, _ => by
    cases h; cases r
    exact ⟨⟨_, .nil⟩, [], (fun _ z => nomatch z), by simp only [PyData.shownAll]; exact .nil⟩
  | d :: ds, _, _, h, r, g, z => by
    cases h with
    | cons h1 h2 =>
      cases r with
      | cons r1 r2 =>
        have g' : d.showable = true ∧ PyData.showableAll ds = true := by simpa [PyData.showableAll] using g
        obtain ⟨⟨a1, q1⟩, b1, hb1, k1⟩ := she_of I d h1 r1 g'.1 (z _ (by simp only [PyData.shownAll]; exact List.mem_cons_self))
        obtain ⟨⟨a2, q2⟩, b2, hb2, k2⟩ := she_all I ds h2 r2 g'.2 fun t ht => z t (by simp only [PyData.shownAll]; exact List.mem_cons_of_mem _ ht)
        refine ⟨⟨_, .cons q1 q2⟩, b1 ++ b2, fun b hm => ?_, ?_⟩
        · simp only [PyData.depthAll]
          rcases List.mem_append.mp hm with hm | hm
          · obtain ⟨d', as', r', hd'⟩ := hb1 b hm
            exact ⟨d', as', r', Nat.le_trans hd' (Nat.le_max_left _ _)⟩
          · obtain ⟨d', as', r', hd'⟩ := hb2 b hm
            exact ⟨d', as', r', Nat.le_trans hd' (Nat.le_max_right _ _)⟩
        · simp only [PyData.depthAll, PyData.shownAll]
          exact .cons ((k1.more fun b hb => List.mem_append_left _ hb).level_le (Nat.le_max_left _ _)) (k2.more_le (fun b hb => List.mem_append_right _ hb) (Nat.le_max_right _ _))
end
/-- what a list or a tuple of them shows -/
theorem she_top (I : Inv X pins σ H s) : ∀ (d : PyData) {a : Addr}, DpE X.K H (.ref a) d → d.showable = true → d.shown.length ≤ sizeLine → ∃ T idr, ShowsBy X.prog X.w s.heap a d T idr
  | .list xs, a, h, g, z => by
    cases h with
    | lst hs ha =>
      obtain ⟨its, rv, ⟨o, n, ho, hc, _, hd⟩, _⟩ := I.list hs
      have hz : (listText (PyData.shownAll xs)).length ≤ sizeLine := by simpa only [PyData.shown] using z
      obtain ⟨⟨as, ra⟩, bs, hb, hk⟩ := she_all I xs ha rv (by simpa [PyData.showable] using g) fun t ht => Nat.le_trans (listText_mem_le ht) hz
      have rr : Reads s.heap (.ref a) (.list xs) _ := .list ho hc hd ra
      have out : a ∉ bs := not_mem_of_deeper rr (by simp only [PyData.depth]; omega) hb
      refine ⟨"list", "list.__repr__", F.slot_list_repr.toG, F.slot_list_str, F.slot_list_format, fun s' hk0 => ⟨o, hk0 _ _ ho, hc⟩, fun A E s' Q hg hu hk0 hQ => ?_⟩
      simp only [PyData.depth] at hu
      simp only [PyData.shown] at hQ
      cases its with
      | nil =>
        have ra' : ReadsAll s.heap [] xs as := ra
        cases ra'
        simp only [PyData.shownAll, listText_nil] at hQ
        exact call_list_repr_empty ⟨o, hk0 _ _ ho, hc⟩ (hk0 _ _ ho) hd (hQ s'.heap _ _ fun _ _ e => e)
      | cons x l => exact call_list_reprK ho hc hd out (by simpa using hk.length_eq) (fun i y e => hk.item i y (by simpa using e)) hg (fun b _ => Clear.nil b) hu hk0 hQ hz
  | .tuple xs, a, h, g, z => by
    cases h with
    | tup hs ha =>
      obtain ⟨its, rv, ⟨o, ho, hc, n, hd⟩, _⟩ := I.tuple hs
      have hz : (tupleText (PyData.shownAll xs)).length ≤ sizeLine := by simpa only [PyData.shown] using z
      obtain ⟨⟨as, ra⟩, bs, hb, hk⟩ := she_all I xs ha rv (by simpa [PyData.showable] using g) fun t ht => Nat.le_trans (tupleText_mem_le ht) hz
      have rr : Reads s.heap (.ref a) (.tuple xs) _ := .tuple ho hc hd ra
      have out : a ∉ bs := not_mem_of_deeper rr (by simp only [PyData.depth]; omega) hb
      refine ⟨"tuple", "tuple.__repr__", F.slot_tuple_repr, F.slot_tuple_str, F.slot_tuple_format, fun s' hk0 => ⟨o, hk0 _ _ ho, hc⟩, fun A E s' Q hg hu hk0 hQ => ?_⟩
      simp only [PyData.depth] at hu
      simp only [PyData.shown] at hQ
      exact call_tuple_reprK ho hc hd out hk hg (fun b _ => Clear.nil b) hu hk0 hQ hz
  | .dict ks, a, h, g, z => by
    cases h with
    | dic hs =>
      obtain ⟨o, es, ep, ho, hc, hd, he, ns⟩ := she_dict I hs
      have rr : Reads s.heap (.ref a) (.dict []) (a :: [] ++ []) := .dict ho hc hd (by rw [he]; exact .nil) (by rw [he]; exact .nil)
      exact showsBy_of_reads rr g (fun _ m => by
        have m' : sysModules = a := by simpa using m
        rw [← m'] at ns
        simp at ns) z
  | .none, _, h, _, _ => by cases h
  | .bool _, _, h, _, _ => by cases h
  | .int _, _, h, _, _ => by cases h
  | .str _, _, h, _, _ => by cases h
def rReprE (K : PySem.W.Frag) : List V → Hp → VK → Prop := fun vs H Q => ∃ v d, vs = [v] ∧ DpE K H v d ∧ d.showable = true ∧ d.depth < 60 ∧ d.shown.length ≤ sizeLine ∧ Q (.str d.shown) H
theorem call_reprE (hg : X.A.guards = some []) (hu : X.A.units + 64 < cLine) : CallR X (.builtin "repr") (rReprE X.K) := by
  intro pins s σ H xs us Q I r ⟨v, d, e, hd, h1, h3, h4, q⟩
  subst e
  obtain ⟨u, rfl, rv⟩ := vals1 r
  have top : ∀ a, v = .ref a → wpAny (model X.prog X.w) X.A (call (.builtin "repr") [.ref a]) (EP X pins σ Q) X.xe s := fun a e => by
    subst e
    obtain ⟨T, idr, S⟩ := she_top I d hd h1 h4
    have keep : ∀ b o, s.heap.get? b = some o → s.heap.get? b = some o := fun _ _ e => e
    exact call_repr_slot (by omega) (S.typeIs s keep) S.slotRepr (S.call X.A.in1 X.xe s _ hg (by show X.A.units + 1 + d.depth < cLine; omega) keep fun h' u tk hk => ⟨_, _, rfl, .str _, H, I.kept hk, ⟨_, rfl⟩, q⟩)
  cases d with
  | none => cases hd; cases rv; exact PySem.P.repr_of_none ⟨.str _, H, I.tok _, ⟨_, rfl⟩, q⟩
  | bool b => cases hd; cases rv; exact PySem.P.repr_of_bool ⟨.str _, H, I.tok _, ⟨_, rfl⟩, q⟩
  | int i => cases hd; obtain ⟨t, rfl⟩ := rv; exact PySem.P.repr_of_int (of_decide_eq_true h1) ⟨.str _, H, I.tok _, ⟨_, rfl⟩, q⟩
  | str x => cases hd; obtain ⟨t, rfl⟩ := rv; exact PySem.P.repr_of_str ⟨.str _, H, I.tok _, ⟨_, rfl⟩, q⟩ h4
  | list ds =>
    cases v with
    | ref a => cases rv; exact top a rfl
    | _ => cases hd
  | tuple ds =>
    cases v with
    | ref a => cases rv; exact top a rfl
    | _ => cases hd
  | dict ks =>
    cases v with
    | ref a => cases rv; exact top a rfl
    | _ => cases hd
end
end DL

/-! == and != with an empty list or tuple; a list so many times; in a dict that changes no more -/
namespace DL
open L2 PySem PySem.Spec PyProof.Rows
section
variable {X : Cx} {K : PySem.W.Frag} {a b : Expr} {da db : DE} {pos : Pos}
end
end DL

/-! max and min of a tuple of ints -/
namespace DL
open L2 PySem PySem.Spec PyProof.Rows
section
variable {X : Cx} {K : PySem.W.Frag}
end
end DL

/-! a dict comprehension as a value; a <= b <= c < d as a test -/
namespace L2
open PySem PySem.Spec PyProof.Rows
section
variable {X : Cx} {ta tb tc td : TE} {a b c d : Expr} {pos : Pos}
end
end L2
namespace DL
open L2 PySem PySem.Spec PyProof.Rows
section
variable {X : Cx} {da db dc dd : DE} {a b c d : Expr} {pos : Pos} {K : PySem.W.Frag}
end
end DL

/-! a, b, *rest = t -/
namespace L2
open PySem PySem.Spec PySem.Calls PyProof.Rows
section
variable {prog : Program} {w : World} {A : Around} {E : Value → Shared → Prop} {s : Shared}
end
section
variable {P : Program} {w : World} {H : Hp} {h : Heap} {a : Addr}
end
section
variable {X : Cx} {pos : Pos}
end
end L2
namespace DL
open L2 PySem PySem.Spec PyProof.Rows
section
variable {X : Cx} {pos : Pos}
end
end DL

/-! text.split(sep), sep.join(texts) -/
namespace DL
open L2 PySem PySem.Spec PyProof.Rows
section
variable {X : Cx} {o e : Expr} {do_ de : DE} {apos pos : Pos}
end
end DL

/-! raise of an own exception class over ValueError with its own __init__, that keeps fields -/
namespace DL
open L2 PySem PySem.Spec PyProof.Rows
/-- the i-th statement of a class's body -/
def clsKid (st : Stmt) (i : Nat) : Stmt := match st with | .ClassDef _ _ _ b _ _ _ _ _ _ _ => b.getD i (.Pass ⟨0, 0, 0, 0⟩) | _ => .Pass ⟨0, 0, 0, 0⟩
/-- what the base class G, own, without its own __init__, must be for G.__init__(self, ..) -/
structure ClsI (K : PySem.W.Frag) (G : Addr) : Prop where
  r : PySem.W.readsIn K G (.type "type") = true
  s : PySem.W.specialIn K (.ref G) "__getattribute__" = some (some (.builtin "type.__getattribute__"))
  f : PySem.W.findCls K (.ref G) (.type "type") "__init__" = some (.val (.builtin "ValueError.__init__"))
section
variable {X : Cx} {e : Expr} {es : List Expr} {ta : TA} {p1 p2 pos : Pos} {B : Str} {G : Addr}
theorem pe_gateinit (T : ClsI X.K G) (hg : Gl X B) (hm : X.mg B = some (.ref G)) (ha : PA X (e :: es) ta)
    (hdb : (B == ("__debug__" : Str)) = false := by decide)
    (hbase : attributeBase (.Name B p1) "__init__" X.env (eval (.Name B p1) X.env) = eval (.Name B p1) X.env := by rfl)
    (hfew : ((backTo pos (starEach (e :: es) X.env)).all (fun x => !x.1) && (backToKw pos (keywordEach [] X.env)).all (fun x => x.1.isSome)
      && decide ((e :: es).length + ([] : List Keyword).length + (if ([] : List Keyword).isEmpty then 0 else 1) < 30)) = true := by rfl)
    (hline : (p2.endLine == pos.line) = true := by rfl)
    (he : starEach (e :: es) X.env = (false, eval e X.env) :: starEach es X.env := by rfl) (hpl : (backTo pos (starEach es X.env)).any (·.1) = false := by rfl) :
    PE X (.Call (.Attribute (.Name B p1) "__init__" p2) (e :: es) [] pos) (tVeI X.K ta) := by
  refine ⟨fun pins s σ H Q I h => ?_⟩
  rw [arm_eval_Call, hbase]
  refine wpAny_bind (ld_glob I hg hm ?_ hdb)
  refine wpAny_bind (wpAny_standAt ?_)
  have hform : methodCallForm ((e :: es).length + ([] : List Keyword).length) (backTo pos (starEach (e :: es) X.env)) (backToKw pos (keywordEach [] X.env)) = true := hfew
  have hpos : methodCallPos true (.Name B p1) X.env p2 pos = pure pos := by unfold methodCallPos; simp [hline]
  unfold methodCall
  rw [hform]
  refine wpAny_bind (wpAny_holding (PySem.W.method_cls I.kIn T.s (PySem.W.cls_value I.kIn T.r T.f (by decide +kernel) ?_)))
  refine wpAny_bind (wpAny_of_eq hpos ?_)
  show wpAny _ _ (callWith pos (Value.builtin "ValueError.__init__") [] (backTo pos (starEach (e :: es) X.env)) []) _ _ _
  refine PyProof.Rows.callWith_method1 (thn (ha.run pos pins _ σ H _ (I.tok _) h) fun us s1 ⟨vs, H1, I1, r1, a, C, ws, ev, hl, T, ea, q⟩ => ?_) he hpl
  subst ev
  cases r1 with
  | @cons _ u0 _ ur ra rw' =>
    obtain rfl : u0 = Value.ref a := ra
    have hlen : ur.length ≤ sizeLine := by
      rw [← Paired.length rw', sizeLine_eq]
      omega
    exact oinit_ok T I1 ea hlen fun s' J => ⟨.non, H1, J, rfl, q⟩
end
/-! ### what such an __init__ does -/
def spI (C : Addr) (fs : List Str) : Sp := fun vs H Q _ => ∃ (a : Addr) (ys : List V), vs = .ref a :: ys ∧ ys.length = fs.length ∧ H a = some (exo a C none) ∧
  ∀ dx, H dx = none → dx ≠ a → Q .non (upd (upd H dx (exd dx (fs.zip ys).reverse)) a (exo a C (some dx)))
section
variable {P : Program} {w : World} {K : PySem.W.Frag} {mg : Str → Option Value} {base : Heap} {qual B m f1 f2 : Str} {params : Arguments} {body : List Stmt} {scope : Scope} {f C G : Addr} {fd : FuncData} {j : Nat} {p1 p2 p3 p4 p5 p6 p7 p8 p9 p10 q7 q8 q9 q10 : Pos}
theorem init1 (F : FunD K "__init__" qual params body scope [] [] f fd) (S : FnScope ["self", f1] ["self", f1] scope)
    (hbd : body = [.Expr (.Call (.Attribute (.Name B p1) "__init__" p2) [.Name "self" p3, .Constant (.str m) j p4] [] p5) p6, .Assign [.Attribute (.Name "self" p7) f1 p8] (.Name f1 p9) p10])
    (hG : scope.names.lookup B = some .globalImplicit) (hS : scope.names.lookup ("self" : Str) = some NameKind.local) (h1 : scope.names.lookup f1 = some .local)
    (hB : (B == ("__debug__" : Str)) = false) (hd1 : (f1 == ("__debug__" : Str)) = false) (hc1 : (f1 == ("__classdict__" : Str)) = false)
    (hl : (p2.endLine == p5.line) = true) (hm : mg B = some (.ref G)) (T : ClsI K G) (TO : OexC K C) (n1 : PySem.W.findIn K (.ref C) f1 = some none) : FnOk P w K mg base CX0 1 f fd ["self", f1] (spI C [f1]) := by
  obtain ⟨oc, od, dV, kV, doc, pm, an, cdv, ct, osl, rfl, lk, hcd, _, _⟩ := F.ex
  subst hbd
  refine fn_of lk hcd S (fun vs H Q E ⟨a, ys, e, l, _⟩ => by rw [e]; simp [l]) fun A outer s H vs Q E hr ⟨a, ys, ev, l, ha, q⟩ => ?_
  match ys, l with
  | [y], _ =>
  subst ev
  refine ⟨_, pss_cons (ps_expr (pe_gateinit T (show Gl _ _ from hG) hm (pa_cons (pe_var (i := 0) rfl (.inl hS) (by decide) (by decide)) (pa_cons pe_str pa_nil)) hB (hline := hl))) (pss_one (ps_ost (pe_var (i := 0) rfl (.inl hS) (by decide) (by decide)) (pe_var (i := 1) rfl (.inl h1) hd1 hc1))), ?_⟩
  refine ⟨_, rfl, a, C, [.str m], rfl, by show 1 ≤ 1000; decide, TO, ha, ?_⟩
  refine ⟨_, rfl, _, rfl, a, C, rfl, TO, n1, .inl ⟨ha, fun dx hdx hne => ?_⟩⟩
  exact q dx hdx hne
theorem upd_twice {H : Hp} {a d : Addr} {o u o2 : HO} (h : d ≠ a) : upd (upd (upd H d o) a u) d o2 = upd (upd H d o2) a u := by
  funext b
  by_cases h1 : b = d
  · subst h1; rw [upd_same, upd_ne h, upd_same]
  · rw [upd_ne h1]
    by_cases h2 : b = a
    · subst h2; rw [upd_same, upd_same]
    · rw [upd_ne h2, upd_ne h1, upd_ne h2, upd_ne h1]
theorem init2 (F : FunD K "__init__" qual params body scope [] [] f fd) (S : FnScope ["self", f1, f2] ["self", f1, f2] scope)
    (hbd : body = [.Expr (.Call (.Attribute (.Name B p1) "__init__" p2) [.Name "self" p3, .Constant (.str m) j p4] [] p5) p6, .Assign [.Attribute (.Name "self" p7) f1 p8] (.Name f1 p9) p10, .Assign [.Attribute (.Name "self" q7) f2 q8] (.Name f2 q9) q10])
    (hG : scope.names.lookup B = some .globalImplicit) (hS : scope.names.lookup ("self" : Str) = some NameKind.local) (h1 : scope.names.lookup f1 = some .local) (h2 : scope.names.lookup f2 = some .local)
    (hB : (B == ("__debug__" : Str)) = false) (hd1 : (f1 == ("__debug__" : Str)) = false) (hc1 : (f1 == ("__classdict__" : Str)) = false) (hd2 : (f2 == ("__debug__" : Str)) = false) (hc2 : (f2 == ("__classdict__" : Str)) = false)
    (hl : (p2.endLine == p5.line) = true) (hm : mg B = some (.ref G)) (T : ClsI K G) (TO : OexC K C) (n1 : PySem.W.findIn K (.ref C) f1 = some none) (n2 : PySem.W.findIn K (.ref C) f2 = some none) : FnOk P w K mg base CX0 1 f fd ["self", f1, f2] (spI C [f1, f2]) := by
  obtain ⟨oc, od, dV, kV, doc, pm, an, cdv, ct, osl, rfl, lk, hcd, _, _⟩ := F.ex
  subst hbd
  refine fn_of lk hcd S (fun vs H Q E ⟨a, ys, e, l, _⟩ => by rw [e]; simp [l]) fun A outer s H vs Q E hr ⟨a, ys, ev, l, ha, q⟩ => ?_
  match ys, l with
  | [y, z], _ =>
  subst ev
  have pself : ∀ p, PE (cxOf CX0 P w K mg base ["self", f1, f2] qual scope f cdv A outer s H E) (.Name "self" p) (tVar 0) := fun p => pe_var (i := 0) rfl (.inl hS) (by decide) (by decide)
  refine ⟨_, pss_cons (ps_expr (pe_gateinit T (show Gl _ _ from hG) hm (pa_cons (pself _) (pa_cons pe_str pa_nil)) hB (hline := hl))) (pss_cons (ps_ost (pself _) (pe_var (i := 1) rfl (.inl h1) hd1 hc1)) (pss_one (ps_ost (pself _) (pe_var (i := 2) rfl (.inl h2) hd2 hc2)))), ?_⟩
  refine ⟨_, rfl, a, C, [.str m], rfl, by show 1 ≤ 1000; decide, TO, ha, ?_⟩
  refine ⟨_, rfl, _, rfl, a, C, rfl, TO, n1, .inl ⟨ha, fun dx hdx hne => ?_⟩⟩
  refine ⟨_, rfl, _, rfl, a, C, rfl, TO, n2, .inr ⟨dx, _, upd_same, by rw [upd_ne hne, upd_same], by show 1 ≤ 900; decide, ?_⟩⟩
  rw [upd_twice hne]
  exact q dx hdx hne
end
/-! ### raise C(e, ..) -/
/-- what the text's own exception class C, with its own __init__ that keeps the fields fs, must be -/
structure ExF (P : Program) (w : World) (K : PySem.W.Frag) (mg : Str → Option Value) (base : Heap) (x : Str) (C : Addr) (fs : List Str) : Prop where
  T : OexC K C
  g : mg x = some (.ref C)
  ex : ∃ (fI : Addr) (fd : FuncData), PySem.W.findIn K (.ref C) "__init__" = some (some (.ref fI)) ∧ PySem.W.typeIn K (.ref fI) = some (.type "function") ∧ FnOk P w K mg base CX0 1 fI fd ("self" :: fs) (spI C fs) ∧ Binds K fd ("self" :: fs) []
theorem upd_del {H : Hp} {a d : Addr} {o u u2 z : HO} (ha : H a = none) (hne : d ≠ a) : upd (L2.del (upd (upd (upd H a u2) d o) a u) a) d z = upd H d z := by
  funext b
  by_cases h1 : b = d
  · subst h1; rw [upd_same, upd_same]
  · rw [upd_ne h1, upd_ne h1]
    by_cases h2 : b = a
    · subst h2; rw [L2.del_same]; exact ha.symm
    · rw [L2.del_ne h2, upd_ne h2, upd_ne h1, upd_ne h2]
theorem paired_zip {K : PySem.W.Frag} {as : AsM} {H : Hp} : ∀ {fs : List Str} {vs : List V} {ds : List D}, RpA K as H vs ds → Paired (fun (p : Str × V) (q : Str × D) => p.1 = q.1 ∧ Rp K as H p.2 q.2) (fs.zip vs) (fs.zip ds)
  | [], _, _, _ => by simp only [List.zip_nil_left]; exact .nil
  | f :: fs, [], [], _ => .nil
  | f :: fs, _, d :: ds, h => by cases h with | cons h1 h2 => exact .cons ⟨rfl, h1⟩ (paired_zip h2)
  | f :: fs, _, [], h => by cases h; exact .nil
theorem paired_app {α β : Type} {R : α → β → Prop} : ∀ {a a' : List α} {b b' : List β}, Paired R a b → Paired R a' b' → Paired R (a ++ a') (b ++ b')
  | _, _, _, _, .nil, h => h
  | _, _, _, _, .cons h1 h2, h => .cons h1 (paired_app h2 h)
theorem paired_rev {α β : Type} {R : α → β → Prop} : ∀ {a : List α} {b : List β}, Paired R a b → Paired R a.reverse b.reverse
  | _, _, .nil => .nil
  | _, _, .cons h1 h2 => by rw [List.reverse_cons, List.reverse_cons]; exact paired_app (paired_rev h2) (.cons h1 .nil)
section
variable {X : Cx} {x : Str} {C : Addr} {fs : List Str} {p cp pos : Pos} {e : Expr} {es : List Expr} {da : DA} {n : Nat}
end
end DL

/-! sets of texts: set.add, a set comprehension of texts, sorted of it -/
namespace DL
open L2 PySem PySem.Spec PyProof.Rows PpSet
section
variable {X : Cx}
end
/-! #### by data -/
section
variable {K : PySem.W.Frag} {X : Cx}
end
end DL

/-! a kept exception's field; isinstance of a kept one and a tuple of classes; d.get(x), d a dict of the module of whole numbers -/
namespace DL
open L2 PySem PySem.Spec PyProof.Rows
section
variable {X : Cx}
/-! ### the field of a kept exception -/
def dXF (okx : Str → Bool) (f : Str) (da : DE) : DE := fun c R => da c fun d c1 => onCel d fun k => ∃ x fs v, c1.cs k = some (.exc x) ∧ okx x.cls = true ∧ x.fs = some fs ∧ fs.lookup f = some v ∧ R v c1
theorem paired_lookup {K : PySem.W.Frag} {as : AsM} {H : Hp} {f : Str} : ∀ {vs : List (Str × V)} {ds : List (Str × D)} {d : D}, Paired (fun (p : Str × V) (q : Str × D) => p.1 = q.1 ∧ Rp K as H p.2 q.2) vs ds → ds.lookup f = some d → ∃ v, vs.lookup f = some v ∧ Rp K as H v d
  | _, _, _, .nil, h => by cases h
  | _, _, d, .cons (a := p) (b := q) h1 h2, h => by
    obtain ⟨p1, p2⟩ := p
    obtain ⟨q1, q2⟩ := q
    obtain ⟨e, r⟩ := h1
    dsimp only at e
    subst e
    rw [lookup_put]
    have h' : ((p1, q2) :: _).lookup f = some d := h
    by_cases z : f = p1
    · rw [if_pos z]
      subst z
      simp [List.lookup] at h'
      subst h'
      exact ⟨_, rfl, r⟩
    · rw [if_neg z]
      have e : (f == p1) = false := by simpa using z
      simp [List.lookup, e] at h'
      exact paired_lookup h2 h'
variable {e : Expr} {da : DE} {pos p : Pos} {f : Str} {okx : Str → Bool}
theorem pd_xF (ha : PD X e da) (h : ∀ r C, okx r = true → ClsK X.K r C → XfC X.K C ∧ PySem.W.findIn X.K (.ref C) f = some none) (hb : attributeBase e f X.env (eval e X.env) = eval e X.env := by rfl) : PD X (.Attribute e f pos) (dXF okx f da) := by
  refine ⟨fun pins s σ H Q I ⟨as, H0, c, R, ok, q, k⟩ => ?_⟩
  refine attr_of hb (thn (ha.run pins s σ H _ I ⟨as, H0, c, _, ok, q, fun as1 H1 Hn1 c1 v d l1 ok1 r1 q1 => (⟨as1, H1, c1, d, l1, ok1, r1, q1⟩ : ∃ as1 H1 c1 d, Le as H0 as1 H1 ∧ Ok X.K as1 H1 Hn1 σ c1 ∧ Rp X.K as1 H1 v d ∧ onCel d fun k => ∃ x fs v, c1.cs k = some (.exc x) ∧ okx x.cls = true ∧ x.fs = some fs ∧ fs.lookup f = some v ∧ R v c1)⟩) fun u s1 hh => ?_)
  obtain ⟨v, Hn1, I1, rx, as1, H1, c1, d, l1, ok1, r1, q1⟩ := hh
  obtain ⟨j, e1, x, fs, vd, e3, e4, e5, e6, q2⟩ := onCel_of q1
  subst e1
  obtain ⟨a, C, dd, rfl, ap, hH, xd, cl⟩ := cell_exc ok1.c r1 e3
  obtain ⟨T, hno⟩ := h _ _ e4 cl
  cases xd with
  | no => cases e5
  | @fs C' dx vs ds g1 g2 =>
    cases e5
    obtain ⟨vv, g3, g4⟩ := paired_lookup g2 e6
    obtain rfl : u = Value.ref a := rx
    obtain ⟨⟨oe, ho, hz, fvs, hv⟩, _⟩ := I1.hok a _ hH
    obtain ⟨mA, hns, hr⟩ := (show ObjOk X.prog X.w Hn1 s1.heap dx (.xd vs) from I1.hok dx _ (ok1.c.ex _ _ g1))
    obtain ⟨od, hod, hl⟩ := lookIn_ns hns
    obtain ⟨u, hu, ru⟩ := RelO.some_of (v := vv) (o := mA f) (by rw [← g3]; exact hr f)
    have J : PySem.W.InstAt s1.heap a oe C (some od) := ⟨ho, hz.1, by unfold PySem.W.notCls; rw [hv] <;> rfl, by rw [hz.2]; exact hod⟩
    exact HandSPX.exc_get I1.kIn J T.ga T.gg T.exC (PySem.W.findObj_own T.hdC hno rfl (by rw [hl, hu])) (handed_of ru) ⟨vv, Hn1, I1.tok _, ru, k _ _ _ _ _ _ l1 ok1 g4 q2⟩
/-! ### isinstance(x, (A, B, ..)), x kept -/
variable {ob : Str → Option Bool} {es : List Expr} {cvs : List Value}
/-! ### d.get(x), d a dict of the module, texts to whole numbers -/
end
end DL

/-! zip of a list and a tuple, walked -/
namespace DL
open L2 PySem PySem.Spec PyProof.Rows
section
variable {prog : Program} {w : World} {A : Around} {E : Value → Shared → Prop} {s : Shared}
end
end DL

/-! a text, walked sign by sign; texts compared -/
namespace DL
open L2 PySem PySem.Spec PyProof.Rows
end DL

/-! isinstance(x, list), x a list that may change -/
namespace DL
open L2 PySem PySem.Spec PyProof.Rows
end DL

/-! f-strings; s.startswith(t); c in "..", c a sign; int(text); defs as data: tables of them, calls by a local name -/
namespace DL
open L2 PySem PySem.Spec PyProof.Rows
section
variable {X : Cx} {K : PySem.W.Frag}
/-! ### f-strings -/
/-! ### s.startswith(t) -/
/-! ### a sign in a text -/
/-! ### int(text) -/
/-! ### defs as data -/
end
end DL

/-! a comprehension whose list may change later; enumerate of a list that may change, but not in the meanwhile -/
namespace DL
open L2 PySem PyProof.Rows
section
variable {X : Cx} {K : PySem.W.Frag} {tg : Expr} {pos : Pos}
/-! ### for .. in enumerate(a list that may change) -/
variable {dr : DA}
end
end DL

/-! repr of a list that may change -/
namespace DL
open L2 PySem PyProof.Rows
end DL

/-! a, b, *rest = a list -/
namespace L2
open PySem PySem.Spec PySem.Calls PyProof.Rows
section
variable {prog : Program} {w : World} {A : Around} {E : Value → Shared → Prop} {s : Shared}
end
section
variable {X : Cx} {pos : Pos}
end
end L2
namespace DL
open L2 PySem PySem.Spec PyProof.Rows
section
variable {X : Cx} {pos : Pos}
end
end DL

/-! zip of a tuple and a list, walked -/
namespace DL
open L2 PySem PySem.Spec PyProof.Rows
section
variable {prog : Program} {w : World} {A : Around} {E : Value → Shared → Prop} {s : Shared}
end
end DL

/-! a tuple of whole numbers, a constant of the module -/
namespace DL
open L2 PySem PyProof.Rows
section
variable {X : Cx} {x : Str} {pos : Pos}
end
end DL

/-! x in t, t a tuple of data of any depth -/
namespace DL
open L2 PySem PyProof.Rows
section
variable {K : PySem.W.Frag}
end
end DL

/-! a list within a list that changes no more -/
namespace DL
open L2 PySem PyProof.Rows
section
variable {K : PySem.W.Frag} {as : AsM} {H : Hp}
end
end DL

/-! (..) * n -/
namespace DL
open L2 PySem PyProof.Rows
section
variable {X : Cx} {K : PySem.W.Frag} {a b : Expr} {da db : DE} {pos : Pos}
end
end DL

/-! an own class over KeyError: its making (LookupError's new), its own __init__ -/
namespace DL
open L2 PySem PySem.Calls PyProof.Rows
/-- what the tail of such a class's order holds -/
structure KeyB (bm : List Value) : Prop where
  lk : bm.contains (.type "LookupError") = true
  ke : bm.contains (.type "KeyError") = true
  noA : bm.contains (.type "AttributeError") = false
  noN : bm.contains (.type "NameError") = false
section
variable {M : Model} {A : Around} {E : Value → Shared → Prop} {hp : Heap} {gs : Array GenState} {dr : Drawn} {tk : Nat} {os : OsState}
variable {cn qn : Str} {C ns : Addr} {bs bm : List Value} {hd : Bool} {sn : List Str} {sub : List Value} {ab : Bool} {col : Option Bool} {dd : Option Addr} {k0 k1 k2 k3 k5 : Option Value}
theorem key_new_asked (kb : KeyB bm) {us : List Value} {Q : Unit → Shared → Prop}
    (cAt : hp.get? C = some (excClassObj cn qn C ns bs bm hd sn sub ab col dd k0 k1 k2 k3 k5 "LookupError.__new__")) (q : Q () ⟨hp, gs, dr, tk, os⟩) : wpAny M A (checkBuiltinCall "LookupError.__new__" ⟨.ref C :: us, []⟩) Q E ⟨hp, gs, dr, tk, os⟩ := by
  have isL : (Value.ref C :: bm).contains (.type "LookupError") = true := by rw [List.contains_cons, kb.lk, Bool.or_true]
  have LF := PySem.F.excBase_LookupError
  have st := LF.noStar
  simp only [checkBuiltinCall, LF.newKind, LF.newSplit, LF.newRow]
  repeat (first
    | refine wpAny_loadPart_at cAt ?_
    | (refine wpAny_isSubtype_exc cAt ?_; rw [isL])
    | refine wpAny_staticBase_exc cAt ?_
    | refine wpAny_madeBy_exc cAt ?_
    | simp only [bne_self_eq_false, Bool.false_eq_true, if_false]
    | wp_step)
  exact q
end
section
variable {prog : Program} {w : World} {A : Around} {E : Value → Shared → Prop} {R : Result → Shared → Prop} {hp : Heap} {gs : Array GenState} {dr : Drawn} {tk : Nat} {os : OsState}
variable {cn qn : Str} {C ns : Addr} {bs bm : List Value} {hd : Bool} {sn : List Str} {sub : List Value} {ab : Bool} {col : Option Bool} {dd : Option Addr} {k0 k1 k2 k3 k5 : Option Value}
theorem key_new (kb : KeyB bm) {us : List Value} (cAt : hp.get? C = some (excClassObj cn qn C ns bs bm hd sn sub ab col dd k0 k1 k2 k3 k5 "LookupError.__new__"))
    (q : R (.ok (.ret (.ref (hp.objs.size + 1)))) ⟨(hp.push (PySem.W.kdv_tup us)).push (PySem.HandSPX.excO C hp.objs.size), gs, dr, tk, os⟩) (few : us.length ≤ sizeLine) :
    codeAny (model prog w) A (.builtin "LookupError.__new__" ⟨.ref C :: us, []⟩) R ⟨hp, gs, dr, tk, os⟩ := by
  have LF := PySem.F.excBase_LookupError
  have es := LF.ends
  have isL : (Value.ref C :: bm).contains (.type "LookupError") = true := by rw [List.contains_cons, kb.lk, Bool.or_true]
  have noAt : (Value.ref C :: bm).contains (.type "AttributeError") = false := by rw [List.contains_cons, kb.noA]; rfl
  have noNm : (Value.ref C :: bm).contains (.type "NameError") = false := by rw [List.contains_cons, kb.noN]; rfl
  refine codeAny_builtinAt LF.entry ?_
  unfold Builtin.«BaseException.__new__»
  refine PySem.wpAt_bind ?_
  show PySem.wpAt _ _ _ (stack >>= _) _ _ _
  refine PySem.wpAt_bind (PySem.wpAt_stack fun up dn => PySem.wpAt_of_wpAny ?_)
  wp_walk
  refine PySem.wpAt_of_wpAny ?_
  rw [LF.owner]
  repeat (first
    | with_reducible refine wpAny_madeHere_exc LF.canon cAt ?_
    | with_reducible refine wpAny_loadPart_at cAt ?_
    | (with_reducible refine wpAny_isSubtype_exc cAt ?_; first | rw [isL] | rw [noAt] | rw [noNm])
    | wp_step)
  show R _ _
  rw [Heap.size_push]
  exact q
theorem key_type_call (kb : KeyB bm) {us : List Value} {fI : Addr} {Q : PySem.Fin → Shared → Prop} (cAt : hp.get? C = some (excClassObj cn qn C ns bs bm hd sn sub ab col dd k0 k1 k2 k3 k5 "LookupError.__new__"))
    (own : PySem.W.Looks (model prog w) hp (typeLookup (.ref C) "__init__") (some (.ref fI))) (bd : ∀ me, PySem.W.Looks (model prog w) hp (bindSpecial (.ref fI) me) (.ref fI, [me])) (few : us.length ≤ sizeLine)
    (q : codeAny (model prog w) A (.call (.ref fI) ⟨.ref (hp.objs.size + 1) :: us, []⟩)
      (fun r s' => match r with | .ok (.ret v) => v = .none ∧ Q (.done (.ret (.ref (hp.objs.size + 1)))) s' | .ok _ => False | .error e => E e s')
      ⟨(hp.push (PySem.W.kdv_tup us)).push (PySem.HandSPX.excO C hp.objs.size), gs, dr, tk, os⟩) :
    wpAny (model prog w) A (Builtin.«type.__call__» ⟨.ref C :: us, []⟩) Q E ⟨hp, gs, dr, tk, os⟩ := by
  repeat (first
    | with_reducible refine wpAny_loadPart_at cAt ?_
    | with_reducible refine wpAny_madeBy_exc cAt ?_
    | wp_step)
  refine codeAny_call_builtin_code (Code.quiet_builtin _ PySem.F.excBase_LookupError.quiet) (key_new_asked kb cAt ?_)
  refine key_new kb cAt ?_ few
  show wpAny _ _ _ _ _ _
  have stay : ∀ b o, hp.get? b = some o → ((hp.push (PySem.W.kdv_tup us)).push (PySem.HandSPX.excO C hp.objs.size)).get? b = some o := fun b o e => Heap.get?_push_of_some _ (Heap.get?_push_of_some _ e)
  have cAt2 := stay _ _ cAt
  have eAt : ((hp.push (PySem.W.kdv_tup us)).push (PySem.HandSPX.excO C hp.objs.size)).get? (hp.objs.size + 1) = some (PySem.HandSPX.excO C hp.objs.size) := by heap_get
  have isC : (Value.ref C :: bm).contains (.ref C) = true := by simp
  have own2 := own.keeps stay
  have bd2 := (bd (.ref (hp.objs.size + 1))).keeps stay
  unfold isInstance
  repeat (first
    | with_reducible refine wpAny_loadPart_at eAt ?_
    | (with_reducible refine wpAny_isSubtype_exc cAt2 ?_; rw [isC])
    | wp_step)
  show wpAny _ _ (typeLookup (.ref C) _) _ _ _
  refine own2.at ?_
  refine wpAny_holding (wpAny_bind (bd2.at ?_))
  refine wpAny_bind (wpAny_call (codeAny_mono q fun r s' z => ?_))
  rcases r with e | (v | _ | _ | _) <;> first | exact z | exact z.elim | skip
  obtain ⟨rfl, z⟩ := z
  first
    | exact wpAny_pure (wpAny_pure z)
    | (wp_walk; exact z)
theorem key_call (kb : KeyB bm) {us : List Value} {fI : Addr} (cAt : hp.get? C = some (excClassObj cn qn C ns bs bm hd sn sub ab col dd k0 k1 k2 k3 k5 "LookupError.__new__"))
    (own : PySem.W.Looks (model prog w) hp (typeLookup (.ref C) "__init__") (some (.ref fI))) (bd : ∀ me, PySem.W.Looks (model prog w) hp (bindSpecial (.ref fI) me) (.ref fI, [me])) (few : us.length ≤ sizeLine)
    (q : codeAny (model prog w) (A.under (.builtin "type.__call__" ⟨.ref C :: us, []⟩)) (.call (.ref fI) ⟨.ref (hp.objs.size + 1) :: us, []⟩) (PySem.W.InitBack (hp.objs.size + 1) R)
      ⟨(hp.push (PySem.W.kdv_tup us)).push (PySem.HandSPX.excO C hp.objs.size), gs, dr, tk, os⟩) :
    codeAny (model prog w) A (.call (.ref C) ⟨us, []⟩) R ⟨hp, gs, dr, tk, os⟩ := by
  have a1 := PySem.tc_lookup
  have a2 := PySem.tc_bind (.ref C)
  have ty : (⟨hp, gs, dr, tk, os⟩ : Shared).TypeIs (.ref C) "type" := ⟨_, cAt, rfl⟩
  refine codeAny_of_tree ?_
  show wpAny _ _ (callAny (.ref C) _) _ _ _
  repeat (any_goals (first
    | assumption
    | with_reducible refine wpAny_loadPart_at cAt ?_
    | wp_step))
  refine ⟨rfl, ?_⟩
  refine codeAny_call_builtin_at (Code.quiet_builtin _ (by decide +kernel)) PySem.entry_typeCall (wpAny_check_type_call_sub cAt (key_type_call kb cAt own bd few ?_))
  refine codeAny_mono q fun r s' z => ?_
  rcases r with e | (v | _ | _ | _) <;> exact z
theorem key_init_asked (kb : KeyB bm) {e : Addr} {oe : Obj} {us : List Value} {Q : Unit → Shared → Prop}
    (cAt : hp.get? C = some (excClassObj cn qn C ns bs bm hd sn sub ab col dd k0 k1 k2 k3 k5 "LookupError.__new__")) (eAt : hp.get? e = some oe) (hc : oe.cls = .ref C) (q : Q () ⟨hp, gs, dr, tk, os⟩) :
    wpAny (model prog w) A (checkBuiltinCall "KeyError.__init__" ⟨.ref e :: us, []⟩) Q E ⟨hp, gs, dr, tk, os⟩ := by
  have isK : (Value.ref C :: bm).contains (.type "KeyError") = true := by rw [List.contains_cons, kb.ke, Bool.or_true]
  have KF := PyProof.Rows.excClass_KeyError
  have st := KF.notStar
  simp only [checkBuiltinCall, KF.initKind, KF.initSplit, KF.initSig]
  repeat (first
    | (with_reducible refine wpAny_loadPart_at eAt ?_; rw [hc])
    | with_reducible refine wpAny_loadPart_at cAt ?_
    | (with_reducible refine wpAny_isSubtype_exc cAt ?_; rw [isK])
    | wp_step)
  refine wpAny_onRaise ?_
  have z : ∀ (a b : String) (n : Nat), Bind.check ⟨.positional, "*", "KeyError", .self, [⟨"args", .varPos, false⟩]⟩ a b n (List.map (fun x => x.fst) ({ pos := Value.ref e :: us } : Args).kw) = pure () := fun a b n => check_star_args _ _ _ _ _ _
  rw [z]
  exact wpAny_pure q
/-- KeyError.__init__(e, ..): the args are laid anew -/
theorem key_init (kb : KeyB bm) {e t0 : Addr} {us : List Value}
    (cAt : hp.get? C = some (excClassObj cn qn C ns bs bm hd sn sub ab col dd k0 k1 k2 k3 k5 "LookupError.__new__")) (eAt : hp.get? e = some (PySem.HandSPX.excO C t0)) (few : us.length ≤ sizeLine)
    (q : ∀ h' t1, (∀ b o, b ≠ e → hp.get? b = some o → h'.get? b = some o) → h'.get? e = some (PySem.HandSPX.excO C t1) → R (.ok (.ret .none)) ⟨h', gs, dr, tk, os⟩) :
    codeAny (model prog w) A (.call (.builtin "KeyError.__init__") ⟨.ref e :: us, []⟩) R ⟨hp, gs, dr, tk, os⟩ := by
  refine codeAny_call_builtin PyProof.Rows.excClass_KeyError.init.plain PyProof.Rows.excClass_KeyError.initEntry (key_init_asked kb cAt eAt rfl ?_)
  wp_walk
  refine q _ hp.objs.size (fun b o nb bo => ?_) ?_
  · rw [Heap.get?_update_other _ _ (Ne.symm nb)]
    exact Heap.get?_push_of_some _ bo
  · rw [Heap.get?_update_self _ (Heap.get?_push_of_some _ eAt) rfl]
    rfl
end
end DL

/-! an own class over KeyError: its first field -/
namespace DL
open L2 PySem PySem.Calls PyProof.Rows
/-- the order of KeyError -/
abbrev keT : List Value := [.type "KeyError", .type "LookupError", .type "Exception", .type "BaseException", .type "object"]
theorem keT_b : KeyB keT := ⟨by decide +kernel, by decide +kernel, by decide +kernel, by decide +kernel⟩
theorem keT_pass (me : Value) (C : Addr) : refuseLoop me "__setattr__" (.ref C :: keT) = pure () := by
  rw [refuseLoop_ref]
  kernel_rfl
section
open Builtin Builtin.ObjectAttr
variable {prog : Program} {w : World} {A : Around} {R : Result → Shared → Prop} {hp : Heap} {gs : Array GenState} {dr : Drawn} {tc : Nat} {os : OsState}
theorem key_set {K : PySem.W.Frag} {f : Str} {ft : Tok} {v : Value} {e C : Addr} {fv : Array Value} {cd : ClassData}
    (kIn : K.In hp) (eAt : hp.get? e = some { cls := .ref C, data := .fields fv }) (cOf : PySem.W.clsIn K C = some cd) (ord : cd.mro = .ref C :: keT) (dict : cd.hasDict = true) (none_ : PySem.W.findIn K (.ref C) f = some none)
    (q : ∀ h' tc' dx, (∀ b o, b ≠ e → hp.get? b = some o → h'.get? b = some o) → hp.objs.size ≤ dx → dx ≠ e → h'.get? e = some { cls := .ref C, dict := some dx, data := .fields fv } →
      h'.Ns1 dx (fun y => if y = f then some v else none) → R (.ok (.ret .none)) ⟨h', gs, dr, tc', os⟩) :
    codeAny (model prog w) A (.call (.builtin "object.__setattr__") ⟨[.ref e, .str f ft, v], []⟩) R ⟨hp, gs, dr, tc, os⟩ := by
  have J : PySem.W.InstAt hp e { cls := .ref C, data := .fields fv } C none := ⟨eAt, rfl, rfl, trivial⟩
  have OS := PySem.F.store_object
  have full : cd.mro.isEmpty = false := by rw [ord]; rfl
  have isO : cd.mro.contains (.type "object") = true := by
    rw [ord, List.contains_cons]
    have : keT.contains (.type "object") = true := by decide +kernel
    rw [this, Bool.or_true]
  have apart : e ≠ hp.objs.size := Nat.ne_of_lt (Heap.lt_size eAt)
  have kind : PySem.W.Looks (model prog w) hp (isInstance (.ref e) (.type "object")) true :=
    J.type.andThen (PySem.W.looks_mroIn kIn (by unfold PySem.W.mroIn; rw [cOf, Option.bind_some, if_neg (by rw [full]; decide), isO]))
  refine codeAny_call_builtin OS.slot.plain OS.entry (@PySem.W.check_slot (model prog w) _ _ ⟨hp, gs, dr, tc, os⟩ "object.__setattr__" "object" "__setattr__" (.ref e) [.str f ft, v] [] _ OS.kind OS.split kind
    (OS.args (.ref e) (.str f ft) v) ?_)
  have line : PySem.W.Looks (model prog w) hp (mroOf (.ref C)) cd.mro := (PySem.W.looks_clsIn kIn cOf).andThen .now
  have taker : PySem.W.Looks (model prog w) hp (storeTaker? none) none := .now
  have dat : PySem.W.Looks (model prog w) hp (classData C) cd := PySem.W.looks_clsIn kIn cOf
  rw [PySem.W.osa_eq, refuse_eq]
  refine wpAny_bind (wpAny_bind (J.type.at (wpAny_bind (line.at ?_))))
  rw [ord, keT_pass]
  refine wpAny_pure (wpAny_bind (J.type.at (wpAny_bind ((PySem.W.looks_findIn kIn none_).at (wpAny_bind (taker.at ?_))))))
  show wpAny _ _ (storeInOwnDict (.ref e) (.ref C) (.str f ft) f v false) _ _ _
  obtain ⟨nm, bs, mro, ns, qn, hd, sn, sb, ab, col, del⟩ := cd
  dsimp only at dict
  subst dict
  unfold storeInOwnDict ownDictForStores
  repeat (first
    | with_reducible refine PySem.HandSPX.store_in_new ?_ ?_
    | with_reducible refine wpAny_loadPart_at eAt ?_
    | with_reducible refine dat.at ?_
    | wp_step)
  · exact ⟨_, #[], _, (Heap.get?_update_ne _ _ _ _ apart.symm).trans (Heap.get?_push_at rfl rfl), rfl, fun x hx => absurd hx (by simp), fun _ => rfl⟩
  · intro h' tc' one but
    have eAt2 : (hp.push { cls := .type "dict", data := .dict #[] }).get? e = some { cls := .ref C, data := .fields fv } := Heap.get?_push_of_some _ eAt
    refine q h' tc' hp.objs.size (fun b o nb bo => ?_) (Nat.le_refl _) apart.symm ?_ one
    · exact (but.2 b (Nat.ne_of_lt (Heap.lt_size bo))).trans ((Heap.get?_update_ne _ _ _ _ nb).trans (Heap.get?_push_of_some _ bo))
    · exact (but.2 e apart).trans (Heap.get?_update_self _ eAt2 rfl)
end
end DL

/-! raise of an own class over KeyError, with its own __init__ that keeps a field -/
namespace DL
open L2 PySem PySem.Spec PyProof.Rows
/-- what the written part says of such a class -/
structure OexK (K : PySem.W.Frag) (C : Addr) : Prop where
  cls : ∃ cn qn ns bs sn sub ab col dd k0 k1 k2 k3 k5, K.lookup C = some (excClassObj cn qn C ns bs keT true sn sub ab col dd k0 k1 k2 k3 k5 "LookupError.__new__")
  sa : PySem.W.findIn K (.ref C) "__setattr__" = some (some (.builtin "object.__setattr__"))
  exC : PySem.W.subIn K (.ref C) (.type "BaseException") = some true
  tyC : PySem.W.typeIn K (.ref C) = some (.type "type")
  kC : PySem.W.keepIn K (.ref C) = true
section
variable {X : Cx} {pins : List (Addr × Obj)} {σ : L2.St} {H : Hp} {s : Shared} {a C : Addr} {f : Str} {y : V} {u : Value} {Q : Unit → Shared → Prop} {E : Value → Shared → Prop} {A : Around}
/-- the data of the class -/
theorem OexK.dat (T : OexK X.K C) : ∃ cd : ClassData, PySem.W.clsIn X.K C = some cd ∧ cd.mro = .ref C :: keT ∧ cd.hasDict = true := by
  obtain ⟨cn, qn, ns, bs, sn, sub, ab, col, dd, k0, k1, k2, k3, k5, at_⟩ := T.cls
  refine ⟨{ name := cn, bases := bs, mro := .ref C :: keT, ns := ns, qualname := qn, hasDict := true, slotNames := sn, subclasses := sub, abstract := ab, collection := col, hasDel := false }, ?_, rfl, rfl⟩
  unfold PySem.W.clsIn
  rw [at_]
/-- self.f = y, the first one -/
theorem key_ost (T : OexK X.K C) (I : Inv X pins σ H s) (e : H a = some (exo a C none)) (free : PySem.W.findIn X.K (.ref C) f = some none) (ry : RelV y u)
    (q : ∀ dx s', H dx = none → dx ≠ a → Inv X pins σ (upd (upd H dx (exd dx [(f, y)])) a (exo a C (some dx))) s' → Q () s') : wpAny (model X.prog X.w) A (setAttr (.ref a) f u) Q E s := by
  obtain ⟨cd, c1, c2, c3⟩ := T.dat
  obtain ⟨t1, eAt⟩ := exo_at I.hok e
  obtain ⟨hp, gs, dr, tc, os⟩ := s
  refine PySem.W.set_plain I.kIn (ox := { cls := .ref C, dict := none, data := .fields #[.ref t1, .none, .none, .none, .bool false, .none] }) (od := none) ⟨eAt, rfl, rfl, trivial⟩ T.sa ?_
  refine key_set I.kIn eAt c1 c2 c3 free (fun h' tc' dx same new apart at2 one => ?_)
  have dnew : H dx = none := I.hok.fresh new
  have ndx : ∀ {b : Addr} {o : Obj}, hp.get? b = some o → b ≠ dx := fun {b o} z => Nat.ne_of_lt (Nat.lt_of_lt_of_le (Heap.lt_size z) new)
  have nea : ∀ {b : Addr}, H b = none → b ≠ a := fun {b} n z => by
    rw [z, e] at n
    cases n
  have U : Un X.fs [] H (upd (upd H dx (exd dx [(f, y)])) a (exo a C (some dx))) hp h' :=
    ⟨fun b o z n _ _ => same b o (nea n) z, fun b o z n _ _ => ⟨o.slots, same b o (nea n) z⟩, fun b o z n _ => by
        rw [upd_ne (nea n), upd_ne (ndx z)]
        exact n,
      fun b o z _ => by
        by_cases hb : b = a
        · rw [hb]
          exact ⟨_, at2⟩
        · exact ⟨o, same b o hb z⟩,
      fun b xs z => by
        rw [upd_ne (at_ne e z exo_tup), upd_ne (ne_of_none z dnew)]
        exact z,
      fun b o v z => by
        rw [upd_ne (at_ne e z exo_frz), upd_ne (ne_of_none z dnew)]
        exact z,
      fun b ps z => ⟨#[], by
        rw [upd_ne (at_ne e z exo_tbl), upd_ne (ne_of_none z dnew), z]
        simp⟩⟩
  refine q dx _ dnew apart (I.un (t' := tc') U fun b o z => ?_)
  by_cases hb : b = a
  · subst hb
    rw [upd_same] at z
    cases z
    exact exo_ok at2
  · rw [upd_ne hb] at z
    by_cases hd : b = dx
    · subst hd
      rw [upd_same] at z
      cases z
      exact exd_ok one (relO_put (fs := []) ry fun _ => True.intro)
    · rw [upd_ne hd] at z
      refine (I.hok b o z).stay (fun c v hc k => same c v ?_ k) (fun c hc => ?_) (fun c xs hc => ?_)
      · rcases hc with hc | hc
        · rw [hc]; exact hb
        · exact at_ne e hc exo_own
      · rw [upd_ne (at_ne e hc exo_own), upd_ne (ne_of_none hc dnew)]
        exact hc
      · rw [upd_ne (at_ne e hc exo_tup), upd_ne (ne_of_none hc dnew)]
        exact hc
/-- KeyError.__init__(self, ..): nothing of it is told -/
theorem key_oinit {us : List Value} {Q : Value → Shared → Prop} (T : OexK X.K C) (I : Inv X pins σ H s) (e : H a = some (exo a C none)) (few : us.length ≤ sizeLine) (q : ∀ s', Inv X pins σ H s' → Q .none s') :
    wpAny (model X.prog X.w) A (call (.builtin "KeyError.__init__") (.ref a :: us)) Q E s := by
  obtain ⟨cn, qn, ns, bs, sn, sub, ab, col, dd, k0, k1, k2, k3, k5, at_⟩ := T.cls
  obtain ⟨t1, eAt⟩ := exo_at I.hok e
  obtain ⟨hp, gs, dr, tc, os⟩ := s
  refine wpAny_call (key_init keT_b (I.kIn _ _ at_) eAt few fun h' t2 same at2 => ?_)
  have J := I.write (t' := tc) (x := a) (e := a) (o := exo a C none) (by rw [e]; exact True.intro) (.inl rfl) same ⟨_, at2⟩ (exo_ok at2)
  have back : upd H a (exo a C none) = H := by
    funext b
    by_cases hb : b = a
    · rw [hb, upd_same, e]
    · rw [upd_ne hb]
  rw [back] at J
  exact q _ J
end
/-! ### readings and rules -/
/-- KeyError.__init__(self, ..) -/
def tKeI (K : PySem.W.Frag) (ta : TA) : TE := fun σ H Q => ta σ H fun vs H1 => ∃ (a C : Addr) (ws : List V), vs = .ref a :: ws ∧ ws.length ≤ 1000 ∧ OexK K C ∧ H1 a = some (exo a C none) ∧ Q .non H1
/-- self.f = e, the first one -/
def tKst (K : PySem.W.Frag) (f : Str) (to te : TE) : TS := fun D σ H => te σ H fun y H1 => to σ H1 fun x H2 => ∃ a C : Addr, x = .ref a ∧ OexK K C ∧ PySem.W.findIn K (.ref C) f = some none ∧
  H2 a = some (exo a C none) ∧ ∀ dx, H2 dx = none → dx ≠ a → D.nx σ (upd (upd H2 dx (exd dx [(f, y)])) a (exo a C (some dx)))
section
variable {X : Cx} {o e : Expr} {es : List Expr} {to te : TE} {ta : TA} {f : Str} {p p' p1 p2 pos : Pos}
theorem ty_key : typeOf (.type "KeyError") = pure (.type "type") := by kernel_rfl
theorem ps_kst (ho : PE X o to) (he : PE X e te) (hs : swapsWith e (some (.Attribute o f p')) pos.line X.env = pure false := by rfl) : PS X (.Assign [.Attribute o f p'] e pos) (tKst X.K f to te) := by
  refine ⟨fun pins s σ H D I h => ?_⟩
  refine plainObj_wpAny_Assign_Attribute (thn (he.run pins s σ H _ I h) fun v s1 ⟨y, H1, I1, r1, q1⟩ => thn (ho.run pins s1 σ H1 _ I1 q1) fun u s2 ⟨x, H2, I2, r2, a, C, ex, T, free, ea, q⟩ => ?_) hs
  subst ex
  obtain rfl : u = Value.ref a := r2
  exact key_ost T I2 ea free r1 fun dx s' n ne J => ⟨σ, _, J, q dx n ne⟩
/-- C(e, ..), such a class -/
theorem pmk_kex {CX : CXT} {x : Str} {C fI : Addr} {k : Nat} {fd : FuncData} {ps : List Str} {sp : Sp} (T : OexK X.K C) (iC : PySem.W.findIn X.K (.ref C) "__init__" = some (some (.ref fI))) (tI : PySem.W.typeIn X.K (.ref fI) = some (.type "function"))
    (F1 : FnOk X.prog X.w X.K X.mg X.base CX k fI fd ps sp) (hr : Room (k + 1) X.A) (hb : Binds X.K fd ps []) (hx : Passes CX X (fun _ _ _ => False)) (hg : Gl X x) (hm : X.mg x = some (.ref C)) (ha : PA X (e :: es) ta)
    (hdb : (x == ("__debug__" : Str)) = false := by decide) (he : starEach (e :: es) X.env = (false, eval e X.env) :: starEach es X.env := by rfl) (hpl : (backTo pos (starEach es X.env)).any (·.1) = false := by rfl) :
    PMk X (.Call (.Name x p) (e :: es) [] pos) (tMkO C sp [] ta) := by
  intro pins s σ H Q I h
  obtain ⟨cn, qn, ns, bs, sn, sub, ab, col, dd, k0, k1, k2, k3, k5, at_⟩ := T.cls
  refine wpAny_Call_Name_kw (ld_glob I hg hm ?_ hdb)
  refine PySem.W.callWith_K (h₀ := X.base) I.ok.mod.kin T.kC (thn (ha.run pos pins s σ H _ I h) fun us s1 ⟨vs, H1, I1, r1, few, q1⟩ => ⟨I1.kIn, ?_⟩) he hpl
  show wpAny _ _ (call (.ref C) us) _ _ _
  obtain ⟨hp, gs, dr, tc, os⟩ := s1
  have top : hp.objs.size ≤ hp.objs.size + 1 := Nat.le_succ _
  have free : H1 (hp.objs.size + 1) = none := I1.hok.fresh top
  have body := q1 (hp.objs.size + 1) free
  rw [List.append_nil] at body
  have stay : ∀ b o, hp.get? b = some o → ((hp.push (PySem.W.kdv_tup us)).push (PySem.HandSPX.excO C hp.objs.size)).get? b = some o := fun b o z => Heap.get?_push_of_some _ (Heap.get?_push_of_some _ z)
  have eAt : ((hp.push (PySem.W.kdv_tup us)).push (PySem.HandSPX.excO C hp.objs.size)).get? (hp.objs.size + 1) = some (PySem.HandSPX.excO C hp.objs.size) := by heap_get
  have I2 : Inv X pins σ (upd H1 (hp.objs.size + 1) (exo (hp.objs.size + 1) C none)) ⟨(hp.push (PySem.W.kdv_tup us)).push (PySem.HandSPX.excO C hp.objs.size), gs, dr, tc, os⟩ :=
    I1.laid (t' := tc) (a := hp.objs.size + 1) (o := exo (hp.objs.size + 1) C none) (h' := (hp.push (PySem.W.kdv_tup us)).push (PySem.HandSPX.excO C hp.objs.size)) stay top (exo_ok eAt)
  have rr : Vals (V.ref (hp.objs.size + 1) :: vs) (Value.ref (hp.objs.size + 1) :: us) := .cons rfl r1
  have hl : (Value.ref (hp.objs.size + 1) :: us ++ []).length = ps.length := by
    rw [List.append_nil]
    exact (rr.length.symm).trans (F1.len _ _ _ _ body)
  have few2 : us.length ≤ sizeLine := by rw [← Paired.length r1, sizeLine_eq]; omega
  refine wpAny_call (key_call keT_b (I1.kIn _ _ at_) (PySem.W.looks_findIn I1.kIn iC) (fun me => PySem.W.bind_fn I1.kIn me tI) few2
    (codeAny_mono (F1.run _ X.stack _ _ ⟨Value.ref (hp.objs.size + 1) :: us, []⟩ (Value.ref (hp.objs.size + 1) :: us) _ _ (fun _ _ _ => False) (hr.make C us []) (I2.env0.make C us [])
      (by have z := hb _ (Value.ref (hp.objs.size + 1) :: us) I2.kIn hl; rw [List.append_nil] at z; exact z) rr body) fun r s' z => ?_))
  cases r with
  | error er => exact hx pins σ _ _ er s' I2 z
  | ok fl =>
    cases fl with
    | ret u =>
      obtain ⟨v, H2, os2, bare2, un2, hok2, rv, ev, d, fs, ea, ed, hd1, q2⟩ := z
      subst ev
      obtain ⟨h2, g2, d2, t2, os'⟩ := s'
      exact ⟨rv, mk_end (raises_own T.exC T.tyC) I1 top stay un2 hok2 os2 bare2 ea ed hd1 q2⟩
    | next => exact z.elim
    | brk => exact z.elim
    | cont => exact z.elim
end
end DL

/-! raise of such a class, as data -/
namespace DL
open L2 PySem PySem.Spec PyProof.Rows
section
variable {X : Cx} {e : Expr} {es : List Expr} {ta : TA} {p1 p2 pos : Pos}
theorem pe_keinit2 (hg : Gl X "KeyError") (hm : X.mg "KeyError" = none) (at_ : PySem.W.findCls X.K (.type "KeyError") (.type "type") "__init__" = some (.val (.builtin "KeyError.__init__"))) (ha : PA X (e :: es) ta)
    (nb : attributeBase (.Name "KeyError" p1) "__init__" X.env (eval (.Name "KeyError" p1) X.env) = eval (.Name "KeyError" p1) X.env := by rfl)
    (few : ((backTo pos (starEach (e :: es) X.env)).all (fun x => !x.1) && (backToKw pos (keywordEach [] X.env)).all (fun x => x.1.isSome)
      && decide ((e :: es).length + ([] : List Keyword).length + (if ([] : List Keyword).isEmpty then 0 else 1) < 30)) = true := by rfl)
    (hline : (p2.endLine == pos.line) = true := by rfl)
    (he : starEach (e :: es) X.env = (false, eval e X.env) :: starEach es X.env := by rfl) (hpl : (backTo pos (starEach es X.env)).any (·.1) = false := by rfl) :
    PE X (.Call (.Attribute (.Name "KeyError" p1) "__init__" p2) (e :: es) [] pos) (tKeI X.K ta) := by
  refine ⟨fun pins s σ H Q I h => ?_⟩
  rw [arm_eval_Call, nb]
  refine wpAny_bind (ld_blt I hg hm PyProof.Rows.excClass_KeyError.boot ?_ (by decide) (by decide))
  refine wpAny_bind (wpAny_standAt ?_)
  have form : methodCallForm ((e :: es).length + ([] : List Keyword).length) (backTo pos (starEach (e :: es) X.env)) (backToKw pos (keywordEach [] X.env)) = true := few
  have where_ : methodCallPos true (.Name "KeyError" p1) X.env p2 pos = pure pos := by
    unfold methodCallPos
    simp [hline]
  obtain ⟨m, fr⟩ := I.fr
  unfold methodCall
  rw [form]
  refine wpAny_bind (wpAny_holding (PySem.W.method_type fr I.ok.mod.kin ty_key (by decide +kernel) at_ (by decide +kernel) ?_))
  refine wpAny_bind (wpAny_of_eq where_ ?_)
  show wpAny _ _ (callWith pos (Value.builtin "KeyError.__init__") [] (backTo pos (starEach (e :: es) X.env)) []) _ _ _
  refine PyProof.Rows.callWith_method1 (thn (ha.run pos pins _ σ H _ (I.tok _) h) fun us s1 ⟨vs, H1, I1, r1, a, C, ws, ev, few2, T, ea, q⟩ => ?_) he hpl
  subst ev
  cases r1 with
  | @cons _ u0 _ ur ra rest =>
    obtain rfl : u0 = Value.ref a := ra
    exact key_oinit T I1 ea (by rw [← Paired.length rest, sizeLine_eq]; omega) fun s' J => ⟨.non, H1, J, rfl, q⟩
end
section
variable {P : Program} {w : World} {K : PySem.W.Frag} {mg : Str → Option Value} {base : Heap} {qual m f1 : Str} {params : Arguments} {body : List Stmt} {scope : Scope} {f C : Addr} {fd : FuncData} {j : Nat} {p1 p2 p3 p4 p5 p6 p7 p8 p9 p10 : Pos}
theorem initK1 (F : FunD K "__init__" qual params body scope [] [] f fd) (S : FnScope ["self", f1] ["self", f1] scope)
    (hbd : body = [.Expr (.Call (.Attribute (.Name "KeyError" p1) "__init__" p2) [.Name "self" p3, .Constant (.str m) j p4] [] p5) p6, .Assign [.Attribute (.Name "self" p7) f1 p8] (.Name f1 p9) p10])
    (hG : scope.names.lookup ("KeyError" : Str) = some .globalImplicit) (hS : scope.names.lookup ("self" : Str) = some NameKind.local) (h1 : scope.names.lookup f1 = some .local)
    (hd1 : (f1 == ("__debug__" : Str)) = false) (hc1 : (f1 == ("__classdict__" : Str)) = false)
    (hl : (p2.endLine == p5.line) = true) (hm : mg "KeyError" = none) (at_ : PySem.W.findCls K (.type "KeyError") (.type "type") "__init__" = some (.val (.builtin "KeyError.__init__"))) (TO : OexK K C) (n1 : PySem.W.findIn K (.ref C) f1 = some none) :
    FnOk P w K mg base CX0 1 f fd ["self", f1] (spI C [f1]) := by
  obtain ⟨oc, od, dV, kV, doc, pm, an, cdv, ct, osl, rfl, lk, hcd, _, _⟩ := F.ex
  subst hbd
  refine fn_of lk hcd S (fun vs H Q E ⟨a, ys, e, l, _⟩ => by rw [e]; simp [l]) fun A outer s H vs Q E hr ⟨a, ys, ev, l, ha, q⟩ => ?_
  match ys, l with
  | [y], _ =>
  subst ev
  have me : ∀ p, PE (cxOf CX0 P w K mg base ["self", f1] qual scope f cdv A outer s H E) (.Name "self" p) (tVar 0) := fun p => pe_var (i := 0) rfl (.inl hS) (by decide) (by decide)
  refine ⟨_, pss_cons (ps_expr (pe_keinit2 (show Gl _ _ from hG) hm at_ (pa_cons (me _) (pa_cons pe_str pa_nil)) (hline := hl))) (pss_one (ps_kst (me _) (pe_var (i := 1) rfl (.inl h1) hd1 hc1))), ?_⟩
  refine ⟨_, rfl, a, C, [.str m], rfl, by show 1 ≤ 1000; decide, TO, ha, ?_⟩
  refine ⟨_, rfl, _, rfl, a, C, rfl, TO, n1, ha, fun dx hdx hne => ?_⟩
  exact q dx hdx hne
end
/-- what the text's own class C over KeyError, with its own __init__ that keeps the fields fs, must be -/
structure ExK (P : Program) (w : World) (K : PySem.W.Frag) (mg : Str → Option Value) (base : Heap) (x : Str) (C : Addr) (fs : List Str) : Prop where
  T : OexK K C
  g : mg x = some (.ref C)
  ex : ∃ (fI : Addr) (fd : FuncData), PySem.W.findIn K (.ref C) "__init__" = some (some (.ref fI)) ∧ PySem.W.typeIn K (.ref fI) = some (.type "function") ∧ FnOk P w K mg base CX0 1 fI fd ("self" :: fs) (spI C fs) ∧ Binds K fd ("self" :: fs) []
section
variable {X : Cx} {x : Str} {C : Addr} {fs : List Str} {p cp pos : Pos} {e : Expr} {es : List Expr} {da : DA} {n : Nat}
end
end DL

/-! dict(list of pairs) -/
namespace DL
open L2 PySem PyProof.Rows
section
variable {K : PySem.W.Frag} {X : Cx}
end
end DL

/-! target = f(..), f raising -/
namespace DL
open L2 PySem PyProof.Rows
end DL

/-! list(..) as a list that changes -/
namespace DL
open L2 PySem PyProof.Rows
end DL

/-! where a statement stands within another one -/
namespace DL
open L2 PySem PyProof.Rows
end DL

/-! sorted of a tuple of tuples whose heads are whole numbers, no two alike -/
namespace SrtH
open PySem PySem.Calls PyProof.Rows Srt SrtO
section
variable {pr : Program} {wd : World} {Ar : Around} {sh : Shared}
end
end SrtH
namespace DL
open L2 PySem PySem.Spec PyProof.Rows
/-- each item a tuple with such a head -/
inductive HdA (K : PySem.W.Frag) (H : Hp) : List V → List Int → Prop
  | nil : HdA K H [] []
  | cons {t : Addr} {m : Int} {rs vs : List V} {ms : List Int} : SqT K H t (.int m :: rs) → HdA K H vs ms → HdA K H (.ref t :: vs) (m :: ms)
section
variable {X : Cx} {K : PySem.W.Frag}
theorem HdA.len {H : Hp} {vs : List V} {ms : List Int} (h : HdA K H vs ms) : vs.length = ms.length := by
  induction h with
  | nil => rfl
  | cons _ _ ih => rw [List.length_cons, List.length_cons, ih]
end
end DL

/-! things of a class of the program's own, their fields -/
namespace DL
open L2 PySem PySem.Spec PyProof.Rows
section
variable {X : Cx} {K : PySem.W.Frag}
/-! x.f = e -/
end
end DL

/-! methods of a class of the program's own -/
namespace DL
open L2 PySem PySem.Spec PyProof.Rows
section
variable {X : Cx} {k N : Nat} {f : Addr} {fd : FuncData} {ps : List Str} {sem : Sem} {gD : List D → List D → List D} {n m : Str} {p pos apos : Pos} {o e : Expr} {es : List Expr} {da : DE} {dr : DA}
end
end DL

/-! a thing of a class of the program's own is made -/
namespace DL
open L2 PySem PySem.Spec PyProof.Rows
section
variable {X : Cx} {k N : Nat} {f C : Addr} {fd : FuncData} {ps : List Str} {sem : Sem} {gD : List D → List D → List D} {n x : Str} {p pos : Pos} {e : Expr} {es : List Expr} {dr : DA}
end
end DL

/-! x.f += e; methods that raise -/
namespace DL
open L2 PySem PySem.Spec PyProof.Rows
section
variable {X : Cx} {K : PySem.W.Frag}
end
section
variable {X : Cx} {k N : Nat} {f C : Addr} {fd : FuncData} {ps : List Str} {sem : SemX} {gD : List D → List D → List D} {n m x : Str} {p pos apos : Pos} {o e : Expr} {es : List Expr} {da : DE} {dr : DA}
end
end DL

/-! a thing is made, its __init__ may raise -/
namespace DL
open L2 PySem PySem.Spec PyProof.Rows
section
variable {X : Cx} {k N : Nat} {f C : Addr} {fd : FuncData} {ps : List Str} {sem : SemX} {gD : List D → List D → List D} {n x : Str} {p pos : Pos} {e : Expr} {es : List Expr} {dr : DA}
end
end DL

/-! loops and comprehensions over a thing that may change later, but not in the meanwhile; pop -/
namespace DL
open L2 PySem PySem.Spec PyProof.Rows
section
variable {X : Cx} {K : PySem.W.Frag} {tg e : Expr} {da : DE} {pos : Pos}
/-! comprehensions -/
/-! pop of a list's last thing -/
variable {o : Expr} {do_ : DE} {apos cpos : Pos}
end
end DL

/-! repr of large things: how long the text is, told finer -/
namespace DL
open L2 PySem PySem.Spec PyProof.Rows
def iw (i : Int) : Nat := if -(2 ^ 24) < i ∧ i < 2 ^ 24 then 25 else 400
mutual
def wq : D → Nat
  | .int i => iw i | .str s => 10 * s.length + 2
  | .lst ds => 3 + wqA ds | .slst ds => 3 + wqA ds | .tup ds => 3 + wqA ds
  | .non => 5 | .bl _ => 5 | .dic _ => 5 | .ref _ => 5 | .ty _ => 5 | .cel _ => 5 | .fn _ => 5
def wqA : List D → Nat
  | [] => 0
  | d :: ds => wq d + 2 + wqA ds
end
theorem log_24 {i : Int} (h : -(2 ^ 24) < i ∧ i < 2 ^ 24) : i.natAbs.log2 < 24 := by
  by_cases z : i.natAbs = 0
  · rw [z]; decide
  · have : i.natAbs < 2 ^ 24 := by
      have e : (2 : Int) ^ 24 = 16777216 := by decide
      have e' : (2 : Nat) ^ 24 = 16777216 := by decide
      omega
    exact (Nat.log2_lt z).mpr this
mutual
theorem shownq : ∀ {d : D}, smallE d → (pyE d).showable = true ∧ (pyE d).shown.length ≤ wq d
  | .non, _ => ⟨rfl, by decide⟩
  | .bl b, _ => ⟨rfl, by cases b <;> decide⟩
  | .int i, h => by
    obtain ⟨h1, h2⟩ := (small_shown (d := .int i) h).2.imp id And.right
    refine ⟨h1, ?_⟩
    show _ ≤ iw i
    unfold iw
    split
    · rename_i z
      have := int_text_length_le (a := i) (k := 24) (by decide) (log_24 z)
      show (Str.ofString (toString i)).length ≤ 25
      have e : (Str.ofString (toString i)).length = (toString i).length := PySem.ofString_length _
      omega
    · exact h2
  | .str s, h => (small_shown (d := .str s) h).2.imp id And.right
  | .lst ds, h => by
    obtain ⟨h2, h4⟩ := shownqA (ds := ds) h
    refine ⟨h2, ?_⟩
    have := listText_len_le (PyData.shownAll (pyEA ds))
    show (listText (PyData.shownAll (pyEA ds))).length ≤ 3 + wqA ds
    omega
  | .slst ds, h => by
    obtain ⟨h2, h4⟩ := shownqA (ds := ds) h
    refine ⟨h2, ?_⟩
    have := listText_len_le (PyData.shownAll (pyEA ds))
    show (listText (PyData.shownAll (pyEA ds))).length ≤ 3 + wqA ds
    omega
  | .tup ds, h => by
    obtain ⟨h2, h4⟩ := shownqA (ds := ds) h
    refine ⟨h2, ?_⟩
    have := tupleText_len_le (PyData.shownAll (pyEA ds))
    show (tupleText (PyData.shownAll (pyEA ds))).length ≤ 3 + wqA ds
    omega
  | .dic _, _ => ⟨rfl, Nat.le_of_ble_eq_true rfl⟩
  | .ref _, h => False.elim h
  | .ty _, h => False.elim h
  | .cel _, h => False.elim h
  | .fn _, h => False.elim h
theorem shownqA : ∀ {ds : List D}, smallEA ds → PyData.showableAll (pyEA ds) = true ∧ ((PyData.shownAll (pyEA ds)).map (·.length)).sum + 2 * (PyData.shownAll (pyEA ds)).length ≤ wqA ds
  | [], h => ⟨rfl, Nat.le_refl _⟩
  | d :: ds, h => by
    obtain ⟨a2, a4⟩ := shownq (d := d) h.1
    obtain ⟨b2, b4⟩ := shownqA (ds := ds) h.2
    refine ⟨?_, ?_⟩
    · show (PyData.showable (pyE d) && PyData.showableAll (pyEA ds)) = true
      rw [a2, b2]; rfl
    · show (((PyData.shown (pyE d)) :: PyData.shownAll (pyEA ds)).map (·.length)).sum + 2 * ((PyData.shown (pyE d)) :: PyData.shownAll (pyEA ds)).length ≤ wq d + 2 + wqA ds
      simp only [List.map_cons, List.sum_cons, List.length_cons]
      omega
end
def fReprF : DFn := fun ds c R => match ds with
  | [d] => smallE d ∧ (pyE d).depth < 60 ∧ wq d ≤ sizeLine ∧ R (.str (pyE d).shown) c
  | _ => False
theorem callD_reprF {K : PySem.W.Frag} : CallD K (rReprE K) fReprF := by
  intro as H0 H σ c vs ds R Q ok r h k
  unfold fReprF at h
  split at h
  · obtain ⟨v, rfl, r1⟩ := rpa1 r
    obtain ⟨h1, h2, h3, h4⟩ := h
    obtain ⟨a2, a4⟩ := shownq h1
    exact ⟨v, _, rfl, rpE ok.c.ex h1 r1, a2, h2, Nat.le_trans a4 h3, k _ _ _ _ _ _ .refl ok (.str _) h4⟩
  · exact h.elim
theorem wqA_le {m : Nat} : ∀ {ds : List D}, (∀ d ∈ ds, wq d ≤ m) → wqA ds ≤ ds.length * (m + 2)
  | [], _ => Nat.zero_le _
  | d :: ds, h => by
    have h1 := h d List.mem_cons_self
    have h2 := wqA_le fun e he => h e (List.mem_cons_of_mem _ he)
    show wq d + 2 + wqA ds ≤ (ds.length + 1) * (m + 2)
    rw [Nat.succ_mul]; omega
end DL

/-! an own exception made, not raised: a cell that holds it -/
namespace DL
open L2 PySem PySem.Spec PyProof.Rows
/-- what makes an exception gives it as a value -/
theorem pe_of_pmk {X : Cx} {e : Expr} {t : L2.St → Hp → XK → Prop} (h : PMk X e t) : PE X e (fun σ H Q => t σ H fun cls d H' => ∀ a, H' a = none → Q (.ref a) (upd H' a (ExH cls d a))) := by
  refine ⟨fun pins s σ H Q I q => wpAny_mono (h pins s σ H _ I q) (fun u s1 hu => ?_) fun _ _ z => z⟩
  obtain ⟨a, oe, vs, sI, H', cls, d, rfl, J, k, ne, at_, z, dt, h1, na, os, ag, r, qq⟩ := hu
  have J1 : Inv X pins σ H' { s1 with heap := sI.heap } := ⟨J.ok, os.trans J.os, ag, J.base, J.loc, J.cell, J.free, J.freeC, J.pin, J.hok, J.len⟩
  exact ⟨.ref a, _, J1.laidN (t' := s1.toks) k ne na (exH_ok at_ z dt), rfl, qq a na⟩
def dMkX0 (x : Str) : DE := fun c R => ∀ k, c.cs k = none → R (.cel k) { c with cs := put c.cs k (.exc ⟨x, none⟩) }
def dMkXF (x : Str) (fs : List Str) (da : DA) : DE := fun c R => da c fun ds c1 => ds.length = fs.length ∧ ds.length ≤ 1000 ∧ ∀ k, c1.cs k = none → R (.cel k) { c1 with cs := put c1.cs k (.exc ⟨x, some (fs.zip ds).reverse⟩) }
section
variable {X : Cx} {x m : Str} {C : Addr} {fs : List Str} {j n : Nat} {p p2 cp : Pos} {e : Expr} {es : List Expr} {da : DA}
theorem pd_mkX (T : ExN X.K X.mg x C) (hc : ClsK X.K x C) (hg : Gl X x) (hdb : (x == ("__debug__" : Str)) = false := by decide) : PD X (.Call (.Name x p) [.Constant (.str m) j p2] [] cp) (dMkX0 x) :=
  pe_imp (pe_of_pmk (pmk_own PySem.F.excBase_ValueError T.e T.g T.k (raises_own T.b T.t) hg hdb)) fun σ H Q ⟨as, H0, c, R, ok, q, k⟩ a ha => by
    obtain ⟨i, as', n, l, ok', r⟩ := new_cell ok ha (.exc (x := ⟨x, none⟩) (.no x) hc)
    exact k _ _ _ _ _ _ l ok' r (q i n)
theorem pd_mkXF (T : ExF X.prog X.w X.K X.mg X.base x C fs) (hc : ClsK X.K x C) (hr : Room 2 X.A) (hg : Gl X x) (ha : PDA X (e :: es) da) (hdb : (x == ("__debug__" : Str)) = false := by decide)
    (he : starEach (e :: es) X.env = (false, eval e X.env) :: starEach es X.env := by rfl) (hpl : (backTo cp (starEach es X.env)).any (·.1) = false := by rfl) :
    PD X (.Call (.Name x p) (e :: es) [] cp) (dMkXF x fs da) := by
  obtain ⟨fI, fd, iC, tI, F1, hb⟩ := T.ex
  refine pe_imp (pe_of_pmk (pmk_oex (dvs := []) (ds := []) T.T iC tI F1 hr hb .nil pass0 hg T.g ha hdb he hpl)) fun σ H Q ⟨as, H0, c, R, ok, q, k⟩ => ⟨as, H0, c, _, ok, q, fun as1 H1 Hn1 c1 vs ds l1 ok1 r1 ⟨z1, z2, q1⟩ => ?_⟩
  refine ⟨by rw [r1.length]; exact z2, fun a ha1 => ⟨a, vs, by rw [List.append_nil], by rw [r1.length]; exact z1, upd_same, fun dx hdx hne => ⟨rfl, dx, _, upd_same, by rw [upd_ne hne, upd_same], ?_, fun b hb2 => ?_⟩⟩⟩
  · rw [upd_ne hne] at hdx; exact hdx
  · rw [upd_ne hne] at hdx
    rw [upd_del ha1 hne] at hb2 ⊢
    obtain ⟨l, ok2⟩ := new_known (o := .xd (fs.zip vs).reverse) ok1 hdx
    obtain ⟨i, as', n, l', ok', r⟩ := new_cell ok2 hb2 (.exc (x := ⟨x, some (fs.zip ds).reverse⟩) (.fs upd_same (paired_rev (paired_zip (r1.mono l)))) hc)
    exact k _ _ _ _ _ _ ((l1.trans l).trans l') ok' r (q1 i n)
theorem pd_mkXK (T : ExK X.prog X.w X.K X.mg X.base x C fs) (hc : ClsK X.K x C) (hr : Room 2 X.A) (hg : Gl X x) (ha : PDA X (e :: es) da) (hdb : (x == ("__debug__" : Str)) = false := by decide)
    (he : starEach (e :: es) X.env = (false, eval e X.env) :: starEach es X.env := by rfl) (hpl : (backTo cp (starEach es X.env)).any (·.1) = false := by rfl) :
    PD X (.Call (.Name x p) (e :: es) [] cp) (dMkXF x fs da) := by
  obtain ⟨fI, fd, iC, tI, F1, hb⟩ := T.ex
  refine pe_imp (pe_of_pmk (pmk_kex T.T iC tI F1 hr hb pass0 hg T.g ha hdb he hpl)) fun σ H Q ⟨as, H0, c, R, ok, q, k⟩ => ⟨as, H0, c, _, ok, q, fun as1 H1 Hn1 c1 vs ds l1 ok1 r1 ⟨z1, z2, q1⟩ => ?_⟩
  refine ⟨by rw [r1.length]; exact z2, fun a ha1 => ⟨a, vs, by rw [List.append_nil], by rw [r1.length]; exact z1, upd_same, fun dx hdx hne => ⟨rfl, dx, _, upd_same, by rw [upd_ne hne, upd_same], ?_, fun b hb2 => ?_⟩⟩⟩
  · rw [upd_ne hne] at hdx; exact hdx
  · rw [upd_ne hne] at hdx
    rw [upd_del ha1 hne] at hb2 ⊢
    obtain ⟨l, ok2⟩ := new_known (o := .xd (fs.zip vs).reverse) ok1 hdx
    obtain ⟨i, as', n, l', ok', r⟩ := new_cell ok2 hb2 (.exc (x := ⟨x, some (fs.zip ds).reverse⟩) (.fs upd_same (paired_rev (paired_zip (r1.mono l)))) hc)
    exact k _ _ _ _ _ _ ((l1.trans l).trans l') ok' r (q1 i n)
end
end DL

/-! an own class over LookupError: its making (LookupError's new), its own __init__ -/
namespace DL
open L2 PySem PySem.Calls PyProof.Rows
/-- what the tail of such a class's order holds -/
structure LupB (bm : List Value) : Prop where
  lk : bm.contains (.type "LookupError") = true
  ke : bm.contains (.type "LookupError") = true
  noA : bm.contains (.type "AttributeError") = false
  noN : bm.contains (.type "NameError") = false
section
variable {M : Model} {A : Around} {E : Value → Shared → Prop} {hp : Heap} {gs : Array GenState} {dr : Drawn} {tk : Nat} {os : OsState}
variable {cn qn : Str} {C ns : Addr} {bs bm : List Value} {hd : Bool} {sn : List Str} {sub : List Value} {ab : Bool} {col : Option Bool} {dd : Option Addr} {k0 k1 k2 k3 k5 : Option Value}
theorem lup_new_asked (kb : LupB bm) {us : List Value} {Q : Unit → Shared → Prop}
    (cAt : hp.get? C = some (excClassObj cn qn C ns bs bm hd sn sub ab col dd k0 k1 k2 k3 k5 "LookupError.__new__")) (q : Q () ⟨hp, gs, dr, tk, os⟩) : wpAny M A (checkBuiltinCall "LookupError.__new__" ⟨.ref C :: us, []⟩) Q E ⟨hp, gs, dr, tk, os⟩ := by
  have isL : (Value.ref C :: bm).contains (.type "LookupError") = true := by rw [List.contains_cons, kb.lk, Bool.or_true]
  have LF := PySem.F.excBase_LookupError
  have st := LF.noStar
  simp only [checkBuiltinCall, LF.newKind, LF.newSplit, LF.newRow]
  repeat (first
    | refine wpAny_loadPart_at cAt ?_
    | (refine wpAny_isSubtype_exc cAt ?_; rw [isL])
    | refine wpAny_staticBase_exc cAt ?_
    | refine wpAny_madeBy_exc cAt ?_
    | simp only [bne_self_eq_false, Bool.false_eq_true, if_false]
    | wp_step)
  exact q
end
section
variable {prog : Program} {w : World} {A : Around} {E : Value → Shared → Prop} {R : Result → Shared → Prop} {hp : Heap} {gs : Array GenState} {dr : Drawn} {tk : Nat} {os : OsState}
variable {cn qn : Str} {C ns : Addr} {bs bm : List Value} {hd : Bool} {sn : List Str} {sub : List Value} {ab : Bool} {col : Option Bool} {dd : Option Addr} {k0 k1 k2 k3 k5 : Option Value}
theorem lup_new (kb : LupB bm) {us : List Value} (cAt : hp.get? C = some (excClassObj cn qn C ns bs bm hd sn sub ab col dd k0 k1 k2 k3 k5 "LookupError.__new__"))
    (q : R (.ok (.ret (.ref (hp.objs.size + 1)))) ⟨(hp.push (PySem.W.kdv_tup us)).push (PySem.HandSPX.excO C hp.objs.size), gs, dr, tk, os⟩) (few : us.length ≤ sizeLine) :
    codeAny (model prog w) A (.builtin "LookupError.__new__" ⟨.ref C :: us, []⟩) R ⟨hp, gs, dr, tk, os⟩ := by
  have LF := PySem.F.excBase_LookupError
  have es := LF.ends
  have isL : (Value.ref C :: bm).contains (.type "LookupError") = true := by rw [List.contains_cons, kb.lk, Bool.or_true]
  have noAt : (Value.ref C :: bm).contains (.type "AttributeError") = false := by rw [List.contains_cons, kb.noA]; rfl
  have noNm : (Value.ref C :: bm).contains (.type "NameError") = false := by rw [List.contains_cons, kb.noN]; rfl
  refine codeAny_builtinAt LF.entry ?_
  unfold Builtin.«BaseException.__new__»
  refine PySem.wpAt_bind ?_
  show PySem.wpAt _ _ _ (stack >>= _) _ _ _
  refine PySem.wpAt_bind (PySem.wpAt_stack fun up dn => PySem.wpAt_of_wpAny ?_)
  wp_walk
  refine PySem.wpAt_of_wpAny ?_
  rw [LF.owner]
  repeat (first
    | with_reducible refine wpAny_madeHere_exc LF.canon cAt ?_
    | with_reducible refine wpAny_loadPart_at cAt ?_
    | (with_reducible refine wpAny_isSubtype_exc cAt ?_; first | rw [isL] | rw [noAt] | rw [noNm])
    | wp_step)
  show R _ _
  rw [Heap.size_push]
  exact q
theorem lup_type_call (kb : LupB bm) {us : List Value} {fI : Addr} {Q : PySem.Fin → Shared → Prop} (cAt : hp.get? C = some (excClassObj cn qn C ns bs bm hd sn sub ab col dd k0 k1 k2 k3 k5 "LookupError.__new__"))
    (own : PySem.W.Looks (model prog w) hp (typeLookup (.ref C) "__init__") (some (.ref fI))) (bd : ∀ me, PySem.W.Looks (model prog w) hp (bindSpecial (.ref fI) me) (.ref fI, [me])) (few : us.length ≤ sizeLine)
    (q : codeAny (model prog w) A (.call (.ref fI) ⟨.ref (hp.objs.size + 1) :: us, []⟩)
      (fun r s' => match r with | .ok (.ret v) => v = .none ∧ Q (.done (.ret (.ref (hp.objs.size + 1)))) s' | .ok _ => False | .error e => E e s')
      ⟨(hp.push (PySem.W.kdv_tup us)).push (PySem.HandSPX.excO C hp.objs.size), gs, dr, tk, os⟩) :
    wpAny (model prog w) A (Builtin.«type.__call__» ⟨.ref C :: us, []⟩) Q E ⟨hp, gs, dr, tk, os⟩ := by
  repeat (first
    | with_reducible refine wpAny_loadPart_at cAt ?_
    | with_reducible refine wpAny_madeBy_exc cAt ?_
    | wp_step)
  refine codeAny_call_builtin_code (Code.quiet_builtin _ PySem.F.excBase_LookupError.quiet) (lup_new_asked kb cAt ?_)
  refine lup_new kb cAt ?_ few
  show wpAny _ _ _ _ _ _
  have stay : ∀ b o, hp.get? b = some o → ((hp.push (PySem.W.kdv_tup us)).push (PySem.HandSPX.excO C hp.objs.size)).get? b = some o := fun b o e => Heap.get?_push_of_some _ (Heap.get?_push_of_some _ e)
  have cAt2 := stay _ _ cAt
  have eAt : ((hp.push (PySem.W.kdv_tup us)).push (PySem.HandSPX.excO C hp.objs.size)).get? (hp.objs.size + 1) = some (PySem.HandSPX.excO C hp.objs.size) := by heap_get
  have isC : (Value.ref C :: bm).contains (.ref C) = true := by simp
  have own2 := own.keeps stay
  have bd2 := (bd (.ref (hp.objs.size + 1))).keeps stay
  unfold isInstance
  repeat (first
    | with_reducible refine wpAny_loadPart_at eAt ?_
    | (with_reducible refine wpAny_isSubtype_exc cAt2 ?_; rw [isC])
    | wp_step)
  show wpAny _ _ (typeLookup (.ref C) _) _ _ _
  refine own2.at ?_
  refine wpAny_holding (wpAny_bind (bd2.at ?_))
  refine wpAny_bind (wpAny_call (codeAny_mono q fun r s' z => ?_))
  rcases r with e | (v | _ | _ | _) <;> first | exact z | exact z.elim | skip
  obtain ⟨rfl, z⟩ := z
  first
    | exact wpAny_pure (wpAny_pure z)
    | (wp_walk; exact z)
theorem lup_call (kb : LupB bm) {us : List Value} {fI : Addr} (cAt : hp.get? C = some (excClassObj cn qn C ns bs bm hd sn sub ab col dd k0 k1 k2 k3 k5 "LookupError.__new__"))
    (own : PySem.W.Looks (model prog w) hp (typeLookup (.ref C) "__init__") (some (.ref fI))) (bd : ∀ me, PySem.W.Looks (model prog w) hp (bindSpecial (.ref fI) me) (.ref fI, [me])) (few : us.length ≤ sizeLine)
    (q : codeAny (model prog w) (A.under (.builtin "type.__call__" ⟨.ref C :: us, []⟩)) (.call (.ref fI) ⟨.ref (hp.objs.size + 1) :: us, []⟩) (PySem.W.InitBack (hp.objs.size + 1) R)
      ⟨(hp.push (PySem.W.kdv_tup us)).push (PySem.HandSPX.excO C hp.objs.size), gs, dr, tk, os⟩) :
    codeAny (model prog w) A (.call (.ref C) ⟨us, []⟩) R ⟨hp, gs, dr, tk, os⟩ := by
  have a1 := PySem.tc_lookup
  have a2 := PySem.tc_bind (.ref C)
  have ty : (⟨hp, gs, dr, tk, os⟩ : Shared).TypeIs (.ref C) "type" := ⟨_, cAt, rfl⟩
  refine codeAny_of_tree ?_
  show wpAny _ _ (callAny (.ref C) _) _ _ _
  repeat (any_goals (first
    | assumption
    | with_reducible refine wpAny_loadPart_at cAt ?_
    | wp_step))
  refine ⟨rfl, ?_⟩
  refine codeAny_call_builtin_at (Code.quiet_builtin _ (by decide +kernel)) PySem.entry_typeCall (wpAny_check_type_call_sub cAt (lup_type_call kb cAt own bd few ?_))
  refine codeAny_mono q fun r s' z => ?_
  rcases r with e | (v | _ | _ | _) <;> exact z
theorem lup_init_asked (kb : LupB bm) {e : Addr} {oe : Obj} {us : List Value} {Q : Unit → Shared → Prop}
    (cAt : hp.get? C = some (excClassObj cn qn C ns bs bm hd sn sub ab col dd k0 k1 k2 k3 k5 "LookupError.__new__")) (eAt : hp.get? e = some oe) (hc : oe.cls = .ref C) (q : Q () ⟨hp, gs, dr, tk, os⟩) :
    wpAny (model prog w) A (checkBuiltinCall "LookupError.__init__" ⟨.ref e :: us, []⟩) Q E ⟨hp, gs, dr, tk, os⟩ := by
  have isK : (Value.ref C :: bm).contains (.type "LookupError") = true := by rw [List.contains_cons, kb.ke, Bool.or_true]
  have KF := PyProof.Rows.excClass_LookupError
  have st := KF.notStar
  simp only [checkBuiltinCall, KF.initKind, KF.initSplit, KF.initSig]
  repeat (first
    | (with_reducible refine wpAny_loadPart_at eAt ?_; rw [hc])
    | with_reducible refine wpAny_loadPart_at cAt ?_
    | (with_reducible refine wpAny_isSubtype_exc cAt ?_; rw [isK])
    | wp_step)
  refine wpAny_onRaise ?_
  have z : ∀ (a b : String) (n : Nat), Bind.check ⟨.positional, "*", "LookupError", .self, [⟨"args", .varPos, false⟩]⟩ a b n (List.map (fun x => x.fst) ({ pos := Value.ref e :: us } : Args).kw) = pure () := fun a b n => check_star_args _ _ _ _ _ _
  rw [z]
  exact wpAny_pure q
/-- LookupError.__init__(e, ..): the args are laid anew -/
theorem lup_init (kb : LupB bm) {e t0 : Addr} {us : List Value}
    (cAt : hp.get? C = some (excClassObj cn qn C ns bs bm hd sn sub ab col dd k0 k1 k2 k3 k5 "LookupError.__new__")) (eAt : hp.get? e = some (PySem.HandSPX.excO C t0)) (few : us.length ≤ sizeLine)
    (q : ∀ h' t1, (∀ b o, b ≠ e → hp.get? b = some o → h'.get? b = some o) → h'.get? e = some (PySem.HandSPX.excO C t1) → R (.ok (.ret .none)) ⟨h', gs, dr, tk, os⟩) :
    codeAny (model prog w) A (.call (.builtin "LookupError.__init__") ⟨.ref e :: us, []⟩) R ⟨hp, gs, dr, tk, os⟩ := by
  refine codeAny_call_builtin PyProof.Rows.excClass_LookupError.init.plain PyProof.Rows.excClass_LookupError.initEntry (lup_init_asked kb cAt eAt rfl ?_)
  wp_walk
  refine q _ hp.objs.size (fun b o nb bo => ?_) ?_
  · rw [Heap.get?_update_other _ _ (Ne.symm nb)]
    exact Heap.get?_push_of_some _ bo
  · rw [Heap.get?_update_self _ (Heap.get?_push_of_some _ eAt) rfl]
    rfl
end
end DL
/-! an own class over LookupError: its first field -/
namespace DL
open L2 PySem PySem.Calls PyProof.Rows
/-- the order of LookupError -/
abbrev luT : List Value := [.type "LookupError", .type "Exception", .type "BaseException", .type "object"]
theorem luT_b : LupB luT := ⟨by decide +kernel, by decide +kernel, by decide +kernel, by decide +kernel⟩
theorem luT_pass (me : Value) (C : Addr) : refuseLoop me "__setattr__" (.ref C :: luT) = pure () := by
  rw [refuseLoop_ref]
  kernel_rfl
section
open Builtin Builtin.ObjectAttr
variable {prog : Program} {w : World} {A : Around} {R : Result → Shared → Prop} {hp : Heap} {gs : Array GenState} {dr : Drawn} {tc : Nat} {os : OsState}
theorem lup_set {K : PySem.W.Frag} {f : Str} {ft : Tok} {v : Value} {e C : Addr} {fv : Array Value} {cd : ClassData}
    (kIn : K.In hp) (eAt : hp.get? e = some { cls := .ref C, data := .fields fv }) (cOf : PySem.W.clsIn K C = some cd) (ord : cd.mro = .ref C :: luT) (dict : cd.hasDict = true) (none_ : PySem.W.findIn K (.ref C) f = some none)
    (q : ∀ h' tc' dx, (∀ b o, b ≠ e → hp.get? b = some o → h'.get? b = some o) → hp.objs.size ≤ dx → dx ≠ e → h'.get? e = some { cls := .ref C, dict := some dx, data := .fields fv } →
      h'.Ns1 dx (fun y => if y = f then some v else none) → R (.ok (.ret .none)) ⟨h', gs, dr, tc', os⟩) :
    codeAny (model prog w) A (.call (.builtin "object.__setattr__") ⟨[.ref e, .str f ft, v], []⟩) R ⟨hp, gs, dr, tc, os⟩ := by
  have J : PySem.W.InstAt hp e { cls := .ref C, data := .fields fv } C none := ⟨eAt, rfl, rfl, trivial⟩
  have OS := PySem.F.store_object
  have full : cd.mro.isEmpty = false := by rw [ord]; rfl
  have isO : cd.mro.contains (.type "object") = true := by
    rw [ord, List.contains_cons]
    have : luT.contains (.type "object") = true := by decide +kernel
    rw [this, Bool.or_true]
  have apart : e ≠ hp.objs.size := Nat.ne_of_lt (Heap.lt_size eAt)
  have kind : PySem.W.Looks (model prog w) hp (isInstance (.ref e) (.type "object")) true :=
    J.type.andThen (PySem.W.looks_mroIn kIn (by unfold PySem.W.mroIn; rw [cOf, Option.bind_some, if_neg (by rw [full]; decide), isO]))
  refine codeAny_call_builtin OS.slot.plain OS.entry (@PySem.W.check_slot (model prog w) _ _ ⟨hp, gs, dr, tc, os⟩ "object.__setattr__" "object" "__setattr__" (.ref e) [.str f ft, v] [] _ OS.kind OS.split kind
    (OS.args (.ref e) (.str f ft) v) ?_)
  have line : PySem.W.Looks (model prog w) hp (mroOf (.ref C)) cd.mro := (PySem.W.looks_clsIn kIn cOf).andThen .now
  have taker : PySem.W.Looks (model prog w) hp (storeTaker? none) none := .now
  have dat : PySem.W.Looks (model prog w) hp (classData C) cd := PySem.W.looks_clsIn kIn cOf
  rw [PySem.W.osa_eq, refuse_eq]
  refine wpAny_bind (wpAny_bind (J.type.at (wpAny_bind (line.at ?_))))
  rw [ord, luT_pass]
  refine wpAny_pure (wpAny_bind (J.type.at (wpAny_bind ((PySem.W.looks_findIn kIn none_).at (wpAny_bind (taker.at ?_))))))
  show wpAny _ _ (storeInOwnDict (.ref e) (.ref C) (.str f ft) f v false) _ _ _
  obtain ⟨nm, bs, mro, ns, qn, hd, sn, sb, ab, col, del⟩ := cd
  dsimp only at dict
  subst dict
  unfold storeInOwnDict ownDictForStores
  repeat (first
    | with_reducible refine PySem.HandSPX.store_in_new ?_ ?_
    | with_reducible refine wpAny_loadPart_at eAt ?_
    | with_reducible refine dat.at ?_
    | wp_step)
  · exact ⟨_, #[], _, (Heap.get?_update_ne _ _ _ _ apart.symm).trans (Heap.get?_push_at rfl rfl), rfl, fun x hx => absurd hx (by simp), fun _ => rfl⟩
  · intro h' tc' one but
    have eAt2 : (hp.push { cls := .type "dict", data := .dict #[] }).get? e = some { cls := .ref C, data := .fields fv } := Heap.get?_push_of_some _ eAt
    refine q h' tc' hp.objs.size (fun b o nb bo => ?_) (Nat.le_refl _) apart.symm ?_ one
    · exact (but.2 b (Nat.ne_of_lt (Heap.lt_size bo))).trans ((Heap.get?_update_ne _ _ _ _ nb).trans (Heap.get?_push_of_some _ bo))
    · exact (but.2 e apart).trans (Heap.get?_update_self _ eAt2 rfl)
end
end DL
/-! raise of an own class over LookupError, with its own __init__ that keeps a field -/
namespace DL
open L2 PySem PySem.Spec PyProof.Rows
/-- what the written part says of such a class -/
structure OexL (K : PySem.W.Frag) (C : Addr) : Prop where
  cls : ∃ cn qn ns bs sn sub ab col dd k0 k1 k2 k3 k5, K.lookup C = some (excClassObj cn qn C ns bs luT true sn sub ab col dd k0 k1 k2 k3 k5 "LookupError.__new__")
  sa : PySem.W.findIn K (.ref C) "__setattr__" = some (some (.builtin "object.__setattr__"))
  exC : PySem.W.subIn K (.ref C) (.type "BaseException") = some true
  tyC : PySem.W.typeIn K (.ref C) = some (.type "type")
  kC : PySem.W.keepIn K (.ref C) = true
section
variable {X : Cx} {pins : List (Addr × Obj)} {σ : L2.St} {H : Hp} {s : Shared} {a C : Addr} {f : Str} {y : V} {u : Value} {Q : Unit → Shared → Prop} {E : Value → Shared → Prop} {A : Around}
/-- the data of the class -/
theorem OexL.dat (T : OexL X.K C) : ∃ cd : ClassData, PySem.W.clsIn X.K C = some cd ∧ cd.mro = .ref C :: luT ∧ cd.hasDict = true := by
  obtain ⟨cn, qn, ns, bs, sn, sub, ab, col, dd, k0, k1, k2, k3, k5, at_⟩ := T.cls
  refine ⟨{ name := cn, bases := bs, mro := .ref C :: luT, ns := ns, qualname := qn, hasDict := true, slotNames := sn, subclasses := sub, abstract := ab, collection := col, hasDel := false }, ?_, rfl, rfl⟩
  unfold PySem.W.clsIn
  rw [at_]
/-- self.f = y, the first one -/
theorem lup_ost (T : OexL X.K C) (I : Inv X pins σ H s) (e : H a = some (exo a C none)) (free : PySem.W.findIn X.K (.ref C) f = some none) (ry : RelV y u)
    (q : ∀ dx s', H dx = none → dx ≠ a → Inv X pins σ (upd (upd H dx (exd dx [(f, y)])) a (exo a C (some dx))) s' → Q () s') : wpAny (model X.prog X.w) A (setAttr (.ref a) f u) Q E s := by
  obtain ⟨cd, c1, c2, c3⟩ := T.dat
  obtain ⟨t1, eAt⟩ := exo_at I.hok e
  obtain ⟨hp, gs, dr, tc, os⟩ := s
  refine PySem.W.set_plain I.kIn (ox := { cls := .ref C, dict := none, data := .fields #[.ref t1, .none, .none, .none, .bool false, .none] }) (od := none) ⟨eAt, rfl, rfl, trivial⟩ T.sa ?_
  refine lup_set I.kIn eAt c1 c2 c3 free (fun h' tc' dx same new apart at2 one => ?_)
  have dnew : H dx = none := I.hok.fresh new
  have ndx : ∀ {b : Addr} {o : Obj}, hp.get? b = some o → b ≠ dx := fun {b o} z => Nat.ne_of_lt (Nat.lt_of_lt_of_le (Heap.lt_size z) new)
  have nea : ∀ {b : Addr}, H b = none → b ≠ a := fun {b} n z => by
    rw [z, e] at n
    cases n
  have U : Un X.fs [] H (upd (upd H dx (exd dx [(f, y)])) a (exo a C (some dx))) hp h' :=
    ⟨fun b o z n _ _ => same b o (nea n) z, fun b o z n _ _ => ⟨o.slots, same b o (nea n) z⟩, fun b o z n _ => by
        rw [upd_ne (nea n), upd_ne (ndx z)]
        exact n,
      fun b o z _ => by
        by_cases hb : b = a
        · rw [hb]
          exact ⟨_, at2⟩
        · exact ⟨o, same b o hb z⟩,
      fun b xs z => by
        rw [upd_ne (at_ne e z exo_tup), upd_ne (ne_of_none z dnew)]
        exact z,
      fun b o v z => by
        rw [upd_ne (at_ne e z exo_frz), upd_ne (ne_of_none z dnew)]
        exact z,
      fun b ps z => ⟨#[], by
        rw [upd_ne (at_ne e z exo_tbl), upd_ne (ne_of_none z dnew), z]
        simp⟩⟩
  refine q dx _ dnew apart (I.un (t' := tc') U fun b o z => ?_)
  by_cases hb : b = a
  · subst hb
    rw [upd_same] at z
    cases z
    exact exo_ok at2
  · rw [upd_ne hb] at z
    by_cases hd : b = dx
    · subst hd
      rw [upd_same] at z
      cases z
      exact exd_ok one (relO_put (fs := []) ry fun _ => True.intro)
    · rw [upd_ne hd] at z
      refine (I.hok b o z).stay (fun c v hc k => same c v ?_ k) (fun c hc => ?_) (fun c xs hc => ?_)
      · rcases hc with hc | hc
        · rw [hc]; exact hb
        · exact at_ne e hc exo_own
      · rw [upd_ne (at_ne e hc exo_own), upd_ne (ne_of_none hc dnew)]
        exact hc
      · rw [upd_ne (at_ne e hc exo_tup), upd_ne (ne_of_none hc dnew)]
        exact hc
/-- LookupError.__init__(self, ..): nothing of it is told -/
theorem lup_oinit {us : List Value} {Q : Value → Shared → Prop} (T : OexL X.K C) (I : Inv X pins σ H s) (e : H a = some (exo a C none)) (few : us.length ≤ sizeLine) (q : ∀ s', Inv X pins σ H s' → Q .none s') :
    wpAny (model X.prog X.w) A (call (.builtin "LookupError.__init__") (.ref a :: us)) Q E s := by
  obtain ⟨cn, qn, ns, bs, sn, sub, ab, col, dd, k0, k1, k2, k3, k5, at_⟩ := T.cls
  obtain ⟨t1, eAt⟩ := exo_at I.hok e
  obtain ⟨hp, gs, dr, tc, os⟩ := s
  refine wpAny_call (lup_init luT_b (I.kIn _ _ at_) eAt few fun h' t2 same at2 => ?_)
  have J := I.write (t' := tc) (x := a) (e := a) (o := exo a C none) (by rw [e]; exact True.intro) (.inl rfl) same ⟨_, at2⟩ (exo_ok at2)
  have back : upd H a (exo a C none) = H := by
    funext b
    by_cases hb : b = a
    · rw [hb, upd_same, e]
    · rw [upd_ne hb]
  rw [back] at J
  exact q _ J
end
/-! ### readings and rules -/
/-- LookupError.__init__(self, ..) -/
def tLuI (K : PySem.W.Frag) (ta : TA) : TE := fun σ H Q => ta σ H fun vs H1 => ∃ (a C : Addr) (ws : List V), vs = .ref a :: ws ∧ ws.length ≤ 1000 ∧ OexL K C ∧ H1 a = some (exo a C none) ∧ Q .non H1
/-- self.f = e, the first one -/
def tLuS (K : PySem.W.Frag) (f : Str) (to te : TE) : TS := fun D σ H => te σ H fun y H1 => to σ H1 fun x H2 => ∃ a C : Addr, x = .ref a ∧ OexL K C ∧ PySem.W.findIn K (.ref C) f = some none ∧
  H2 a = some (exo a C none) ∧ ∀ dx, H2 dx = none → dx ≠ a → D.nx σ (upd (upd H2 dx (exd dx [(f, y)])) a (exo a C (some dx)))
section
variable {X : Cx} {o e : Expr} {es : List Expr} {to te : TE} {ta : TA} {f : Str} {p p' p1 p2 pos : Pos}
theorem ty_lup : typeOf (.type "LookupError") = pure (.type "type") := by kernel_rfl
theorem ps_lust (ho : PE X o to) (he : PE X e te) (hs : swapsWith e (some (.Attribute o f p')) pos.line X.env = pure false := by rfl) : PS X (.Assign [.Attribute o f p'] e pos) (tLuS X.K f to te) := by
  refine ⟨fun pins s σ H D I h => ?_⟩
  refine plainObj_wpAny_Assign_Attribute (thn (he.run pins s σ H _ I h) fun v s1 ⟨y, H1, I1, r1, q1⟩ => thn (ho.run pins s1 σ H1 _ I1 q1) fun u s2 ⟨x, H2, I2, r2, a, C, ex, T, free, ea, q⟩ => ?_) hs
  subst ex
  obtain rfl : u = Value.ref a := r2
  exact lup_ost T I2 ea free r1 fun dx s' n ne J => ⟨σ, _, J, q dx n ne⟩
/-- C(e, ..), such a class -/
theorem pmk_lex {CX : CXT} {x : Str} {C fI : Addr} {k : Nat} {fd : FuncData} {ps : List Str} {sp : Sp} (T : OexL X.K C) (iC : PySem.W.findIn X.K (.ref C) "__init__" = some (some (.ref fI))) (tI : PySem.W.typeIn X.K (.ref fI) = some (.type "function"))
    (F1 : FnOk X.prog X.w X.K X.mg X.base CX k fI fd ps sp) (hr : Room (k + 1) X.A) (hb : Binds X.K fd ps []) (hx : Passes CX X (fun _ _ _ => False)) (hg : Gl X x) (hm : X.mg x = some (.ref C)) (ha : PA X (e :: es) ta)
    (hdb : (x == ("__debug__" : Str)) = false := by decide) (he : starEach (e :: es) X.env = (false, eval e X.env) :: starEach es X.env := by rfl) (hpl : (backTo pos (starEach es X.env)).any (·.1) = false := by rfl) :
    PMk X (.Call (.Name x p) (e :: es) [] pos) (tMkO C sp [] ta) := by
  intro pins s σ H Q I h
  obtain ⟨cn, qn, ns, bs, sn, sub, ab, col, dd, k0, k1, k2, k3, k5, at_⟩ := T.cls
  refine wpAny_Call_Name_kw (ld_glob I hg hm ?_ hdb)
  refine PySem.W.callWith_K (h₀ := X.base) I.ok.mod.kin T.kC (thn (ha.run pos pins s σ H _ I h) fun us s1 ⟨vs, H1, I1, r1, few, q1⟩ => ⟨I1.kIn, ?_⟩) he hpl
  show wpAny _ _ (call (.ref C) us) _ _ _
  obtain ⟨hp, gs, dr, tc, os⟩ := s1
  have top : hp.objs.size ≤ hp.objs.size + 1 := Nat.le_succ _
  have free : H1 (hp.objs.size + 1) = none := I1.hok.fresh top
  have body := q1 (hp.objs.size + 1) free
  rw [List.append_nil] at body
  have stay : ∀ b o, hp.get? b = some o → ((hp.push (PySem.W.kdv_tup us)).push (PySem.HandSPX.excO C hp.objs.size)).get? b = some o := fun b o z => Heap.get?_push_of_some _ (Heap.get?_push_of_some _ z)
  have eAt : ((hp.push (PySem.W.kdv_tup us)).push (PySem.HandSPX.excO C hp.objs.size)).get? (hp.objs.size + 1) = some (PySem.HandSPX.excO C hp.objs.size) := by heap_get
  have I2 : Inv X pins σ (upd H1 (hp.objs.size + 1) (exo (hp.objs.size + 1) C none)) ⟨(hp.push (PySem.W.kdv_tup us)).push (PySem.HandSPX.excO C hp.objs.size), gs, dr, tc, os⟩ :=
    I1.laid (t' := tc) (a := hp.objs.size + 1) (o := exo (hp.objs.size + 1) C none) (h' := (hp.push (PySem.W.kdv_tup us)).push (PySem.HandSPX.excO C hp.objs.size)) stay top (exo_ok eAt)
  have rr : Vals (V.ref (hp.objs.size + 1) :: vs) (Value.ref (hp.objs.size + 1) :: us) := .cons rfl r1
  have hl : (Value.ref (hp.objs.size + 1) :: us ++ []).length = ps.length := by
    rw [List.append_nil]
    exact (rr.length.symm).trans (F1.len _ _ _ _ body)
  have few2 : us.length ≤ sizeLine := by rw [← Paired.length r1, sizeLine_eq]; omega
  refine wpAny_call (lup_call luT_b (I1.kIn _ _ at_) (PySem.W.looks_findIn I1.kIn iC) (fun me => PySem.W.bind_fn I1.kIn me tI) few2
    (codeAny_mono (F1.run _ X.stack _ _ ⟨Value.ref (hp.objs.size + 1) :: us, []⟩ (Value.ref (hp.objs.size + 1) :: us) _ _ (fun _ _ _ => False) (hr.make C us []) (I2.env0.make C us [])
      (by have z := hb _ (Value.ref (hp.objs.size + 1) :: us) I2.kIn hl; rw [List.append_nil] at z; exact z) rr body) fun r s' z => ?_))
  cases r with
  | error er => exact hx pins σ _ _ er s' I2 z
  | ok fl =>
    cases fl with
    | ret u =>
      obtain ⟨v, H2, os2, bare2, un2, hok2, rv, ev, d, fs, ea, ed, hd1, q2⟩ := z
      subst ev
      obtain ⟨h2, g2, d2, t2, os'⟩ := s'
      exact ⟨rv, mk_end (raises_own T.exC T.tyC) I1 top stay un2 hok2 os2 bare2 ea ed hd1 q2⟩
    | next => exact z.elim
    | brk => exact z.elim
    | cont => exact z.elim
end
end DL
/-! raise of such a class, as data -/
namespace DL
open L2 PySem PySem.Spec PyProof.Rows
section
variable {X : Cx} {e : Expr} {es : List Expr} {ta : TA} {p1 p2 pos : Pos}
theorem pe_luinit2 (hg : Gl X "LookupError") (hm : X.mg "LookupError" = none) (at_ : PySem.W.findCls X.K (.type "LookupError") (.type "type") "__init__" = some (.val (.builtin "LookupError.__init__"))) (ha : PA X (e :: es) ta)
    (nb : attributeBase (.Name "LookupError" p1) "__init__" X.env (eval (.Name "LookupError" p1) X.env) = eval (.Name "LookupError" p1) X.env := by rfl)
    (few : ((backTo pos (starEach (e :: es) X.env)).all (fun x => !x.1) && (backToKw pos (keywordEach [] X.env)).all (fun x => x.1.isSome)
      && decide ((e :: es).length + ([] : List Keyword).length + (if ([] : List Keyword).isEmpty then 0 else 1) < 30)) = true := by rfl)
    (hline : (p2.endLine == pos.line) = true := by rfl)
    (he : starEach (e :: es) X.env = (false, eval e X.env) :: starEach es X.env := by rfl) (hpl : (backTo pos (starEach es X.env)).any (·.1) = false := by rfl) :
    PE X (.Call (.Attribute (.Name "LookupError" p1) "__init__" p2) (e :: es) [] pos) (tLuI X.K ta) := by
  refine ⟨fun pins s σ H Q I h => ?_⟩
  rw [arm_eval_Call, nb]
  refine wpAny_bind (ld_blt I hg hm PyProof.Rows.excClass_LookupError.boot ?_ (by decide) (by decide))
  refine wpAny_bind (wpAny_standAt ?_)
  have form : methodCallForm ((e :: es).length + ([] : List Keyword).length) (backTo pos (starEach (e :: es) X.env)) (backToKw pos (keywordEach [] X.env)) = true := few
  have where_ : methodCallPos true (.Name "LookupError" p1) X.env p2 pos = pure pos := by
    unfold methodCallPos
    simp [hline]
  obtain ⟨m, fr⟩ := I.fr
  unfold methodCall
  rw [form]
  refine wpAny_bind (wpAny_holding (PySem.W.method_type fr I.ok.mod.kin ty_lup (by decide +kernel) at_ (by decide +kernel) ?_))
  refine wpAny_bind (wpAny_of_eq where_ ?_)
  show wpAny _ _ (callWith pos (Value.builtin "LookupError.__init__") [] (backTo pos (starEach (e :: es) X.env)) []) _ _ _
  refine PyProof.Rows.callWith_method1 (thn (ha.run pos pins _ σ H _ (I.tok _) h) fun us s1 ⟨vs, H1, I1, r1, a, C, ws, ev, few2, T, ea, q⟩ => ?_) he hpl
  subst ev
  cases r1 with
  | @cons _ u0 _ ur ra rest =>
    obtain rfl : u0 = Value.ref a := ra
    exact lup_oinit T I1 ea (by rw [← Paired.length rest, sizeLine_eq]; omega) fun s' J => ⟨.non, H1, J, rfl, q⟩
end
section
variable {P : Program} {w : World} {K : PySem.W.Frag} {mg : Str → Option Value} {base : Heap} {qual m f1 : Str} {params : Arguments} {body : List Stmt} {scope : Scope} {f C : Addr} {fd : FuncData} {j : Nat} {p1 p2 p3 p4 p5 p6 p7 p8 p9 p10 : Pos}
theorem initL1 (F : FunD K "__init__" qual params body scope [] [] f fd) (S : FnScope ["self", f1] ["self", f1] scope)
    (hbd : body = [.Expr (.Call (.Attribute (.Name "LookupError" p1) "__init__" p2) [.Name "self" p3, .Constant (.str m) j p4] [] p5) p6, .Assign [.Attribute (.Name "self" p7) f1 p8] (.Name f1 p9) p10])
    (hG : scope.names.lookup ("LookupError" : Str) = some .globalImplicit) (hS : scope.names.lookup ("self" : Str) = some NameKind.local) (h1 : scope.names.lookup f1 = some .local)
    (hd1 : (f1 == ("__debug__" : Str)) = false) (hc1 : (f1 == ("__classdict__" : Str)) = false)
    (hl : (p2.endLine == p5.line) = true) (hm : mg "LookupError" = none) (at_ : PySem.W.findCls K (.type "LookupError") (.type "type") "__init__" = some (.val (.builtin "LookupError.__init__"))) (TO : OexL K C) (n1 : PySem.W.findIn K (.ref C) f1 = some none) :
    FnOk P w K mg base CX0 1 f fd ["self", f1] (spI C [f1]) := by
  obtain ⟨oc, od, dV, kV, doc, pm, an, cdv, ct, osl, rfl, lk, hcd, _, _⟩ := F.ex
  subst hbd
  refine fn_of lk hcd S (fun vs H Q E ⟨a, ys, e, l, _⟩ => by rw [e]; simp [l]) fun A outer s H vs Q E hr ⟨a, ys, ev, l, ha, q⟩ => ?_
  match ys, l with
  | [y], _ =>
  subst ev
  have me : ∀ p, PE (cxOf CX0 P w K mg base ["self", f1] qual scope f cdv A outer s H E) (.Name "self" p) (tVar 0) := fun p => pe_var (i := 0) rfl (.inl hS) (by decide) (by decide)
  refine ⟨_, pss_cons (ps_expr (pe_luinit2 (show Gl _ _ from hG) hm at_ (pa_cons (me _) (pa_cons pe_str pa_nil)) (hline := hl))) (pss_one (ps_lust (me _) (pe_var (i := 1) rfl (.inl h1) hd1 hc1))), ?_⟩
  refine ⟨_, rfl, a, C, [.str m], rfl, by show 1 ≤ 1000; decide, TO, ha, ?_⟩
  refine ⟨_, rfl, _, rfl, a, C, rfl, TO, n1, ha, fun dx hdx hne => ?_⟩
  exact q dx hdx hne
end
/-- what the text's own class C over LookupError, with its own __init__ that keeps the fields fs, must be -/
structure ExL (P : Program) (w : World) (K : PySem.W.Frag) (mg : Str → Option Value) (base : Heap) (x : Str) (C : Addr) (fs : List Str) : Prop where
  T : OexL K C
  g : mg x = some (.ref C)
  ex : ∃ (fI : Addr) (fd : FuncData), PySem.W.findIn K (.ref C) "__init__" = some (some (.ref fI)) ∧ PySem.W.typeIn K (.ref fI) = some (.type "function") ∧ FnOk P w K mg base CX0 1 fI fd ("self" :: fs) (spI C fs) ∧ Binds K fd ("self" :: fs) []
section
variable {X : Cx} {x : Str} {C : Addr} {fs : List Str} {p cp pos : Pos} {e : Expr} {es : List Expr} {da : DA} {n : Nat}
end
end DL
namespace DL
open L2 PySem PySem.Spec PyProof.Rows
theorem pd_mkXL {X : Cx} {x : Str} {C : Addr} {fs : List Str} {p cp : Pos} {e : Expr} {es : List Expr} {da : DA} (T : ExL X.prog X.w X.K X.mg X.base x C fs) (hc : ClsK X.K x C) (hr : Room 2 X.A) (hg : Gl X x) (ha : PDA X (e :: es) da) (hdb : (x == ("__debug__" : Str)) = false := by decide)
    (he : starEach (e :: es) X.env = (false, eval e X.env) :: starEach es X.env := by rfl) (hpl : (backTo cp (starEach es X.env)).any (·.1) = false := by rfl) :
    PD X (.Call (.Name x p) (e :: es) [] cp) (dMkXF x fs da) := by
  obtain ⟨fI, fd, iC, tI, F1, hb⟩ := T.ex
  refine pe_imp (pe_of_pmk (pmk_lex T.T iC tI F1 hr hb pass0 hg T.g ha hdb he hpl)) fun σ H Q ⟨as, H0, c, R, ok, q, k⟩ => ⟨as, H0, c, _, ok, q, fun as1 H1 Hn1 c1 vs ds l1 ok1 r1 ⟨z1, z2, q1⟩ => ?_⟩
  refine ⟨by rw [r1.length]; exact z2, fun a ha1 => ⟨a, vs, by rw [List.append_nil], by rw [r1.length]; exact z1, upd_same, fun dx hdx hne => ⟨rfl, dx, _, upd_same, by rw [upd_ne hne, upd_same], ?_, fun b hb2 => ?_⟩⟩⟩
  · rw [upd_ne hne] at hdx; exact hdx
  · rw [upd_ne hne] at hdx
    rw [upd_del ha1 hne] at hb2 ⊢
    obtain ⟨l, ok2⟩ := new_known (o := .xd (fs.zip vs).reverse) ok1 hdx
    obtain ⟨i, as', n, l', ok', r⟩ := new_cell ok2 hb2 (.exc (x := ⟨x, some (fs.zip ds).reverse⟩) (.fs upd_same (paired_rev (paired_zip (r1.mono l)))) hc)
    exact k _ _ _ _ _ _ ((l1.trans l).trans l') ok' r (q1 i n)
end DL
namespace My
open PySem DL
local macro_rules | `(tactic| k_search $t) => `(tactic| simp only [$t:term, sNext, sSeq, sAsg, sRet, sRetN, sDrop, e_if, sBreak, sCont, sAsgG, e_par, gNm, e_set, e_setC, gList, dVar, dC, dBin, e_int2, e_add_ii, e_add_ib, e_add_ss, e_add_ll, e_add_tt, dSub, dMul, dDiv, dMod, dPow, dShl, dShr, dAnd, dOr, dXor, e_neg, dLt, dLe, dGt, dGe, e_eq_ii, e_eq_bb, e_eq_ss, e_ne_ii, e_ne_bb, e_ne_ss, e_eq_l, e_eq_sl, e_eq_t, e_eq_n, e_ne_l, e_ne_sl, e_ne_t, e_ne_n, e_chain, dTru, e_tb, e_tru_n, e_tru_b, e_tru_i, e_tru_l, e_tru_sl, e_tru_t, e_tru_d, e_andT, e_orT, dNotT, e_andV, e_orV, dNotV, e_ifE, onB_t, onB_f, onB_dec, onB_ndec, onB_not, onI_i, dNil, dCons, dTup, dLst, dLstC, dCall, dFn, dFnK, e_abs, e_max, e_min, e_int_i, e_int_b, e_len_l, e_len_sl, e_len_t, e_len_d, e_len_s, e_len_c, e_sum_l, e_ix_l, e_ix_sl, e_ix_t, e_ix_c, e_ix_s, e_ix_di, e_ix_ds, dSl, e_sl_l, e_sl_sl, e_sl_t, e_sl_s, dNoPart, e_part, iSeq, iTp, e_rng1, iRng2, sFor, sWhile, dDNew, dIsN, dIsNotN, isNon, env0,
  List.map_cons, List.map_nil, List.length_cons, List.length_nil, List.replicate, List.cons_append, List.nil_append, List.append_nil, Nat.sub_self, Nat.reduceSub, Nat.reduceAdd, List.getElem?_cons_zero, List.getElem?_cons_succ, List.set_cons_zero, List.set_cons_succ, Option.some.injEq, Co.lst.injEq, exists_eq_left', exists_eq_left, exists_and_left, List.cons.injEq, decide_eq_true_eq, true_and, and_true, decide_true, decide_false, if_true, if_false, Bool.false_eq_true, Bool.not_true, Bool.not_false, listD, intsOf_map, put_same, put_put, at0, at1, at2, at3, at4, at5, ix20, ix21])
local macro_rules | `(tactic| walk_at "dl") => `(tactic| k_search put_same)
theorem cmul_of {i j : Int} (h : (-(2 ^ 64) < i ∧ i < 2 ^ 64) ∨ (-(2 ^ 64) < j ∧ j < 2 ^ 64)) : L2.CMul i j := h
theorem ite_both {p : Prop} [Decidable p] {A B : Prop} (h : p → A) (h' : ¬ p → B) : if p then A else B := by
  by_cases q : p
  · rw [if_pos q]; exact h q
  · rw [if_neg q]; exact h' q
theorem at_all {xs : List D} {P : D → Prop} {r : Int} (h0 : 0 ≤ r) (h1 : r < xs.length) (h : ∀ d ∈ xs, P d) : ∃ d, L2.atI xs r = some d ∧ P d :=
  let ⟨x, e, m⟩ := at_in (xs := xs) h0 h1
  ⟨x, e, h x m⟩
/-! ### the pool of draws -/
def Pool (cs : Cells) (j : Nat) : Prop := ∃ a b, cs j = some (.lst [.int a, .int b]) ∧ 0 ≤ a ∧ 0 ≤ b ∧ b < 2147483647
/-- all but j is as it was -/
def But (j : Nat) (cs cs' : Cells) : Prop := ∀ i, i ≠ j → cs' i = cs i
theorem But.put {j : Nat} {cs : Cells} {o : Co} : But j cs (put cs j o) := fun i h => put_ne h
theorem But.refl {j : Nat} {cs : Cells} : But j cs cs := fun i h => rfl
theorem But.trans {j : Nat} {cs cs1 cs2 : Cells} (a : But j cs cs1) (b : But j cs1 cs2) : But j cs cs2 := fun i h => (b i h).trans (a i h)
/-- a draw: any number below n -/
def Draw (j : Nat) (n : Int) (cs : Cells) (Q : Int → Cells → Prop) : Prop := ∀ r cs', 0 ≤ r → r < n → Pool cs' j → But j cs cs' → Q r cs'
def sem_l_take : Sem := fun ds cs R => match ds with
  | [.cel j, .int n] => (0 < n ∧ n < 2 ^ 200) ∧ Pool cs j ∧ Draw j n cs fun r cs' => R (.int r) cs'
  | _ => False
theorem len_l_take : ∀ ds cs R, sem_l_take ds cs R → ds.length = 2 := by intro ds cs R h; unfold sem_l_take at h; split at h; rfl; exact h.elim
/-- _law_take: slots 0=_law_pool_here 1=_law_many 2=_law_found -/
def den_l_take : DS :=
  (sSeq (sIf (dTB (dBin dGt (dBin dIxF (dVar 0) (dC (.int 0))) (dC (.int 0)))) (sSeq (sAsg (dBin dMod (dBin dIxF (dVar 0) (dC (.int 0))) (dVar 1)) 2)
    (sSeq (sAsgG (dBin dDiv (dBin dIxF (dVar 0) (dC (.int 0))) (dVar 1)) (gIx (dVar 0) (dC (.int 0))))
    (sRet (dVar 2)))) sNext)
    (sSeq (sAsgG (dBin dMod (dBin dAdd (dBin dMul (dBin dIxF (dVar 0) (dC (.int 1))) (dC (.int 48271))) (dC (.int 11))) (dC (.int 2147483647))) (gIx (dVar 0) (dC (.int 1))))
    (sRet (dBin dMod (dBin dDiv (dBin dMod (dBin dMul (dBin dIxF (dVar 0) (dC (.int 1))) (dBin dIxF (dVar 0) (dC (.int 1)))) (dC (.int 2147483629))) (dC (.int 16))) (dVar 1)))))
theorem okd_l_take : ∀ ds cs R, sem_l_take ds cs R → den_l_take { nx := fun c => R .non c.cs, rt := R } ⟨env0 3 ds, cs⟩ := by
  intro ds cs R h
  unfold sem_l_take at h
  split at h
  case h_2 => exact h.elim
  rename_i j n
  obtain ⟨⟨h1, h2⟩, ⟨a, b, hp, ha, hb, hb2⟩, k⟩ := h
  unfold den_l_take
  by_cases h : 0 < a
  · k_search hp
    rw [if_pos h]
    refine ⟨h1, ⟨h1, h2⟩, k _ _ (Int.emod_nonneg _ (by omega)) (Int.emod_lt_of_pos _ h1) ⟨a / n, b, put_same, Int.ediv_nonneg ha (by omega), hb, hb2⟩ But.put⟩
  · k_search hp
    rw [if_neg h]
    have g0 := Int.emod_nonneg (b * 48271 + 11) (show (2147483647 : Int) ≠ 0 by decide)
    have g1 := Int.emod_lt_of_pos (b * 48271 + 11) (show (0 : Int) < 2147483647 by decide)
    refine ⟨cmul_of (by omega), by decide, cmul_of (by omega), by decide, by decide, h1, k _ _ (Int.emod_nonneg _ (by omega)) (Int.emod_lt_of_pos _ h1) ⟨a, _, put_same, ha, g0, g1⟩ But.put⟩
/-- the script's ints in hand, a cell's number: a pool -/
def sem_l_pool : Sem := fun ds cs R => ∃ (ns : List Int) (k : Int), ds = [.slst (ns.map .int), .int k] ∧ (0 ≤ k ∧ k < 64) ∧ ns.length ≤ 63 ∧ ∀ j cs', cs j = none → Pool cs' j → But j cs cs' → R (.cel j) cs'
theorem len_l_pool : ∀ ds cs R, sem_l_pool ds cs R → ds.length = 2 := by rintro ds cs R ⟨j, n, rfl, _⟩; rfl
def if_l_pool_1 : DS :=
  (sIf (dTB (dBin dLt (dVar 1) (dCall fLen (dCons (dVar 0) dNil)))) (sAsg (dBin dIxF (dVar 0) (dVar 1)) 2) sNext)
/-- _law_pool: slots 0=_law_script 1=_law_k 2=_law_cell 3=_law_great 4=_law_mixed -/
def den_l_pool : DS :=
  (sSeq (sAsg (dBin dAdd (dBin dMul (dC (.int 7)) (dCall fSum (dCons (dSl (dVar 0) dNoPart (dPart (dC (.int 63)))) dNil))) (dVar 1)) 2)
    (sSeq if_l_pool_1
    (sSeq (sAsg (dCall fAbs (dCons (dVar 2) dNil)) 3)
    (sSeq (sAsg (dBin dMod (dBin dMul (dBin dAdd (dBin dAdd (dBin dAdd (dBin dMod (dVar 3) (dC (.int 2147483629))) (dBin dMul (dBin dMul (dC (.int 7919)) (dVar 1)) (dVar 1))) (dBin dMul (dC (.int 31)) (dVar 1))) (dC (.int 17))) (dC (.int 48271))) (dC (.int 2147483647))) 4)
    (sRet (dLstC (dCons (dBin dMul (dVar 3) (dCall fInt (dCons (dBin dGe (dVar 3) (dBin dPow (dC (.int 10)) (dC (.int 18)))) dNil))) (dCons (dBin dMod (dBin dMul (dVar 4) (dVar 4)) (dC (.int 2147483629))) dNil))))))))
theorem cutD_map (ns : List Int) (lo hi : Option Int) : ∃ ms : List Int, cutD (ns.map D.int) lo hi = ms.map D.int := by
  unfold cutD
  rw [← List.map_drop, ← List.map_take]
  exact ⟨_, rfl⟩
theorem at_map {ns : List Int} {k : Int} (h0 : 0 ≤ k) (h1 : k < ns.length) : ∃ v, L2.atI (ns.map D.int) k = some (.int v) := by
  obtain ⟨x, e, hx⟩ := at_in (xs := ns.map D.int) h0 (by rw [List.length_map]; exact h1)
  obtain ⟨v, _, rfl⟩ := List.mem_map.mp hx
  exact ⟨v, e⟩
theorem okd_l_pool : ∀ ds cs R, sem_l_pool ds cs R → den_l_pool { nx := fun c => R .non c.cs, rt := R } ⟨env0 5 ds, cs⟩ := by
  rintro ds cs R ⟨ns, k, rfl, ⟨h0, h1⟩, hl, q⟩
  unfold den_l_pool
  obtain ⟨ms, em⟩ := cutD_map ns none (some 63)
  have fin : ∀ v : Int, ∀ j, cs j = none → R (.cel j) (put cs j (.lst [.int ((if v < 0 then -v else v) * (if 10 ^ (18 : Int).toNat ≤ (if v < 0 then -v else v) then 1 else 0)),
      .int (((if v < 0 then -v else v) % 2147483629 + 7919 * k * k + 31 * k + 17) * 48271 % 2147483647 * (((if v < 0 then -v else v) % 2147483629 + 7919 * k * k + 31 * k + 17) * 48271 % 2147483647) % 2147483629)])) := by
    intro v j hj
    refine q j _ hj ⟨_, _, put_same, ?_, Int.emod_nonneg _ (by decide), Int.lt_trans (Int.emod_lt_of_pos _ (by decide)) (by decide)⟩ But.put
    refine Int.mul_nonneg (by split <;> omega) ?_
    generalize (if v < 0 then -v else v) = u
    split <;> decide
  have bits : ∀ v : Int, L2.CMul v (if 10 ^ (18 : Int).toNat ≤ v then 1 else 0) := fun v => cmul_of (.inr (by split <;> decide))
  have sq : ∀ v : Int, L2.CMul (v % 2147483647) (v % 2147483647) := fun v => by
    have g0 := Int.emod_nonneg v (show (2147483647 : Int) ≠ 0 by decide)
    have g1 := Int.emod_lt_of_pos v (show (0 : Int) < 2147483647 by decide)
    exact cmul_of (by omega)
  unfold if_l_pool_1
  by_cases hk : k < ns.length
  · k_search em
    obtain ⟨v, ev⟩ := at_map (ns := ns) h0 hk
    k_search (List.length_map (as := ns) D.int)
    k_search hk
    k_search ev
    exact ⟨cmul_of (by omega), by decide, cmul_of (by omega), cmul_of (by omega), cmul_of (by omega), cmul_of (by omega), by decide, ⟨by decide, by decide, by decide⟩, bits _, sq _, by decide, by decide, fin v⟩
  · k_search em
    k_search (List.length_map (as := ns) D.int)
    k_search hk
    exact ⟨cmul_of (by omega), by decide, cmul_of (by omega), cmul_of (by omega), cmul_of (by omega), cmul_of (by omega), by decide, ⟨by decide, by decide, by decide⟩, bits _, sq _, by decide, by decide, fin _⟩
/-! ### what is asked of things of any kind -/
def kindly (d : D) : Prop := (tyN d).isSome = true
/-! ### widths, worths -/
/-! ### bits of numbers from nought -/
def tb (x : Int) (i : Nat) : Bool := x.toNat.testBit i
section
variable {x y z : Int} {n : Nat}
end
/-! #### the law's own bits -/
local macro_rules | `(tactic| k_search $t) => `(tactic| simp only [$t:term, sNext, sSeq, sAsg, sRet, sRetN, sDrop, e_if, sBreak, sCont, sAsgG, e_par, e_par3, gNm, e_set, e_setC, gList, dVar, dC, dBin, e_int2, e_add_ii, e_add_ib, e_add_ss, e_add_ll, e_add_tt, dSub, dMul, dDiv, dMod, dPow, dShl, dShr, dAnd, dOr, dXor, e_neg, dLt, dLe, dGt, dGe, e_eq_ii, e_eq_bb, e_eq_ss, e_ne_ii, e_ne_bb, e_ne_ss, e_eq_l, e_eq_sl, e_eq_t, e_eq_n, e_ne_l, e_ne_sl, e_ne_t, e_ne_n, e_chain, dTru, e_tb, e_tru_n, e_tru_b, e_tru_i, e_tru_l, e_tru_sl, e_tru_t, e_tru_d, e_andT, e_orT, dNotT, e_andV, e_orV, dNotV, e_ifE, onB_t, onB_f, onB_dec, onB_ndec, onB_not, onI_i, dNil, dCons, dTup, dLst, dLstC, dCall, dFn, dFnK, e_abs, e_max, e_min, e_int_i, e_int_b, e_len_l, e_len_sl, e_len_t, e_len_d, e_len_s, e_len_c, e_sum_l, e_ix_l, e_ix_sl, e_ix_t, e_ix_c, e_ix_s, e_ix_di, e_ix_ds, dSl, e_sl_l, e_sl_sl, e_sl_t, e_sl_s, dNoPart, e_part, iSeq, iTp, e_rng1, iRng2, sFor, sWhile, dDNew, dIsN, dIsNotN, isNon, env0,
  List.map_cons, List.map_nil, List.length_cons, List.length_nil, List.replicate, List.cons_append, List.nil_append, List.append_nil, Nat.sub_self, Nat.reduceSub, Nat.reduceAdd, List.getElem?_cons_zero, List.getElem?_cons_succ, List.set_cons_zero, List.set_cons_succ, Option.some.injEq, Co.lst.injEq, exists_eq_left', exists_eq_left, exists_and_left, List.cons.injEq, decide_eq_true_eq, true_and, and_true, decide_true, decide_false, if_true, if_false, Bool.false_eq_true, Bool.not_true, Bool.not_false, listD, intsOf_map, put_same, put_put, at0, at1, at2, at3, at4, at5, ix20, ix21, sizeLine_eq, Nat.reduceLeDiff, Int.reduceLT, Int.reduceLE, Int.reduceNeg, gt_iff_lt, ge_iff_le, Int.one_mul, wipeD, TgN.vs, List.foldr_cons, List.foldr_nil, tgSet, fStr_i, fReprD_d, e_gtp, onCel_c, onDic_d, onKey_i, onKey_s, dIxC, dInC, dNotInC, dInCN, dUpd, dFrz, dFrzD, e_isB, cellD_dic, cellD_fdic, dBits, dDNewC, Co.dic.injEq, exists_eq', eq_self, and_self, e_enum, e_zip])
local macro_rules | `(tactic| walk_at "dl") => `(tactic| k_search put_same)
local macro_rules | `(tactic| walk_at "nd") => `(tactic| (simp only [List.map_cons, List.map_nil, List.cons_append, List.nil_append, List.append_nil]; decide +kernel))
local macro_rules | `(tactic| walk_at "asm") => `(tactic| repeat (refine And.intro (by assumption) ?_))
/-! ### what may be shown -/
/-- data of so much depth -/
def Dt : Nat → D → Prop
  | _, .non => True
  | _, .bl _ => True
  | _, .int _ => True
  | _, .str s => PyData.strOk s = true
  | k + 1, .lst ds => ∀ e ∈ ds, Dt k e
  | k + 1, .slst ds => ∀ e ∈ ds, Dt k e
  | k + 1, .tup ds => ∀ e ∈ ds, Dt k e
  | _, _ => False
theorem Dt.kindly {k : Nat} {d : D} (h : Dt k d) : kindly d := by cases d <;> first | rfl | (cases k <;> exact h.elim)
theorem dt_all {k : Nat} (ih : ∀ d, Dt k d → plain d = true ∧ (py d).canLay0 = true ∧ (py d).depth ≤ k) : ∀ {ds : List D}, (∀ e ∈ ds, Dt k e) → plainA ds = true ∧ PyData.canLayAll0 (pyA ds) = true ∧ PyData.depthAll (pyA ds) ≤ k
  | [], _ => ⟨rfl, rfl, Nat.zero_le _⟩
  | d :: ds, h => by
    obtain ⟨a1, a2, a3⟩ := ih d (h d List.mem_cons_self)
    obtain ⟨b1, b2, b3⟩ := dt_all ih fun e he => h e (List.mem_cons_of_mem _ he)
    refine ⟨?_, ?_, ?_⟩
    · show (plain d && plainA ds) = true
      rw [a1, b1]; rfl
    · show (PyData.canLay0 (py d) && PyData.canLayAll0 (pyA ds)) = true
      rw [a2, b2]; rfl
    · show max (PyData.depth (py d)) (PyData.depthAll (pyA ds)) ≤ k
      omega
theorem Dt.ok : ∀ {k : Nat} (d : D), Dt k d → plain d = true ∧ (py d).canLay0 = true ∧ (py d).depth ≤ k
  | 0, d, h => by cases d <;> first | exact ⟨rfl, rfl, Nat.le_refl _⟩ | exact ⟨rfl, h, Nat.le_refl _⟩ | exact h.elim
  | k + 1, d, h => by
    cases d <;> first
      | exact ⟨rfl, rfl, Nat.zero_le _⟩
      | exact ⟨rfl, h, Nat.zero_le _⟩
      | exact h.elim
      | exact (let ⟨a, b, c⟩ := dt_all (k := k) (fun d => Dt.ok d) h; ⟨a, b, Nat.succ_le_succ c⟩)
theorem gen_eq {k j : Nat} {x y : D} {A : Bool → Prop} (h : Dt k x) (h' : Dt j y) (hk : k ≤ 64) (hj : j ≤ 64) : GenEq x y A = A (PyData.eqv (py x) (py y)) := by
  obtain ⟨a1, a2, a3⟩ := h.ok
  obtain ⟨b1, b2, b3⟩ := h'.ok
  exact propext ⟨fun h => h.2.2.2.2, fun q => ⟨a1, b1, Bool.and_eq_true_iff.mpr ⟨a2, decide_eq_true (by omega)⟩, Bool.and_eq_true_iff.mpr ⟨b2, decide_eq_true (by omega)⟩, q⟩⟩
theorem gen_same {k : Nat} {x : D} {A : Bool → Prop} (h : Dt k x) (hk : k ≤ 64) (q : A true) : GenEq x x A := by
  rw [gen_eq h h hk hk, show PyData.eqv (py x) (py x) = true from SeqAt.eqv_refl _ h.ok.2.1]; exact q
def comps : D → List D | .tup ds => ds | _ => []
/-- whichever of the two: how many turns -/
theorem turns {n : Nat} {w : Int} (hw : 1 ≤ w) : ∃ m : Int, (if (if w < (n : Int) then w else n) > 1 then (if w < (n : Int) then w else n) else 1) = m ∧ 0 ≤ m ∧ m ≤ w := by
  refine ⟨_, rfl, ?_⟩
  split <;> split <;> omega
/-! ### a word among words -/
theorem flat_ints {ws : List Int} : (ws.map D.int).all flatD = true := by
  rw [List.all_eq_true]; rintro d hd; obtain ⟨x, _, rfl⟩ := List.mem_map.mp hd; rfl
/-! ### lists of draws -/
theorem Pool.ne {cs : Cells} {j k : Nat} (h : Pool cs j) (hk : cs k = none) : j ≠ k := fun z => by
  obtain ⟨a, b, h1, _⟩ := h
  rw [z, hk] at h1; cases h1
theorem del_ne {cs : Cells} {k i : Nat} (h : i ≠ k) : del cs k i = cs i := if_neg h
/-! ### data of any kind -/
def NmOk (i : Int) : Prop := -(2 ^ 200) < i ∧ i < 2 ^ 200
def Kd : Nat → D → Prop
  | _, .non => True
  | _, .bl _ => True
  | _, .int i => NmOk i
  | _, .str s => ∀ c ∈ s.cps.toList, c < 16 ^ 8
  | k + 1, .lst ds => ∀ e ∈ ds, Kd k e
  | k + 1, .tup ds => ∀ e ∈ ds, Kd k e
  | _ + 1, .dic ks => ks = []
  | _, _ => False
theorem Kd.kindly {k : Nat} {d : D} (h : Kd k d) : kindly d := by cases d <;> first | rfl | (cases k <;> exact h.elim)
theorem Kd.up : ∀ {k m : Nat} {d : D}, Kd k d → k ≤ m → Kd m d := by
  intro k
  induction k with
  | zero => intro m d h _; cases d <;> first | (cases m <;> first | exact h | exact True.intro) | exact h.elim
  | succ k ih =>
    intro m d h hm
    cases m with
    | zero => exact absurd hm (Nat.not_succ_le_zero k)
    | succ m =>
      cases d <;> first
        | exact True.intro
        | exact h
        | exact h.elim
        | exact fun e he => ih (h e he) (Nat.le_of_succ_le_succ hm)
theorem kd_all {k : Nat} (ih : ∀ d, Kd k d → smallE d ∧ (pyE d).depth ≤ k) : ∀ {ds : List D}, (∀ e ∈ ds, Kd k e) → smallEA ds ∧ PyData.depthAll (pyEA ds) ≤ k
  | [], _ => ⟨True.intro, Nat.zero_le _⟩
  | d :: ds, h => by
    obtain ⟨a1, a2⟩ := ih d (h d List.mem_cons_self)
    obtain ⟨b1, b2⟩ := kd_all ih fun e he => h e (List.mem_cons_of_mem _ he)
    refine ⟨⟨a1, b1⟩, ?_⟩
    show max (PyData.depth (pyE d)) (PyData.depthAll (pyEA ds)) ≤ k
    omega
theorem Kd.ok : ∀ {k : Nat} (d : D), Kd k d → smallE d ∧ (pyE d).depth ≤ k
  | 0, d, h => by cases d <;> first | exact ⟨h, Nat.le_refl _⟩ | exact h.elim
  | k + 1, d, h => by
    cases d <;> first
      | exact ⟨h, Nat.zero_le _⟩
      | exact h.elim
      | exact (let ⟨a, b⟩ := kd_all (k := k) (fun d => Kd.ok d) h; ⟨a, Nat.succ_le_succ b⟩)
      | exact ⟨h, Nat.succ_le_succ (Nat.zero_le _)⟩
structure AD (k w : Nat) (d : D) : Prop where
  k : Kd k d
  w : wt d ≤ w
theorem AD.mono {k w k' w' : Nat} {d : D} (h : AD k w d) (hk : k ≤ k') (hw : w ≤ w') : AD k' w' d := ⟨h.k.up hk, Nat.le_trans h.w hw⟩
theorem Kd.comps {k : Nat} {d : D} (h : Kd (k + 1) d) : ∀ e ∈ My.comps d, Kd k e := by
  cases d <;> first | exact h | exact fun e he => absurd he List.not_mem_nil
/-- kindly, and its parts too -/
def Kd2 (d : D) : Prop := kindly d ∧ ∀ e ∈ comps d, kindly e
theorem Kd.two {k : Nat} {d : D} (h : Kd k d) : Kd2 d := by
  refine ⟨h.kindly, ?_⟩
  cases k with
  | zero => cases d <;> first | exact h.elim | exact fun e he => absurd he List.not_mem_nil
  | succ k => exact fun e he => (h.comps e he).kindly
open Classical in
open Classical in
open Classical in
open Classical in
open Classical in
open Classical in
open Classical in
open Classical in
open Classical in
open Classical in
open Classical in
open Classical in
open Classical in
open Classical in
open Classical in
open Classical in
open Classical in
open Classical in
open Classical in
open Classical in
open Classical in
open Classical in
def isK_Bare (r : Str) : Option Bool := if r = "NoWord" then some false else if r = "NoBit" then some false else if r = "NoTable" then some false else if r = "Bare" then some true else if r = "Shut" then some false else if r = "NoRow" then some false else if r = "NoProgram" then some false else if r = "NoText" then some false else if r = "NoContract" then some false else if r = "NoInput" then some false else if r = "TooMany" then some false else if r = "NotLet" then some false else if r = "NoCall" then some false else if r = "NoName" then some false else if r = "NoShelf" then some false else none
def isK_GateError (r : Str) : Option Bool := if r = "NoWord" then some true else if r = "NoBit" then some true else if r = "NoTable" then some true else if r = "Bare" then some true else if r = "Shut" then some true else if r = "NoRow" then some true else if r = "NoProgram" then some true else if r = "NoText" then some true else if r = "NoContract" then some true else if r = "NoInput" then some true else if r = "TooMany" then some true else if r = "NotLet" then some true else if r = "NoCall" then some false else if r = "NoName" then some false else if r = "NoShelf" then some false else none
def isK_IndexError (r : Str) : Option Bool := if r = "NoWord" then some false else if r = "NoBit" then some false else if r = "NoTable" then some false else if r = "Bare" then some false else if r = "Shut" then some false else if r = "NoRow" then some false else if r = "NoProgram" then some false else if r = "NoText" then some false else if r = "NoContract" then some false else if r = "NoInput" then some false else if r = "TooMany" then some false else if r = "NotLet" then some false else if r = "NoCall" then some false else if r = "NoName" then some false else if r = "NoShelf" then some false else none
def isK_KeyError (r : Str) : Option Bool := if r = "NoWord" then some false else if r = "NoBit" then some false else if r = "NoTable" then some false else if r = "Bare" then some false else if r = "Shut" then some false else if r = "NoRow" then some false else if r = "NoProgram" then some false else if r = "NoText" then some false else if r = "NoContract" then some false else if r = "NoInput" then some false else if r = "TooMany" then some false else if r = "NotLet" then some false else if r = "NoCall" then some true else if r = "NoName" then some true else if r = "NoShelf" then some false else none
def isK_LookupError (r : Str) : Option Bool := if r = "NoWord" then some false else if r = "NoBit" then some false else if r = "NoTable" then some false else if r = "Bare" then some false else if r = "Shut" then some false else if r = "NoRow" then some false else if r = "NoProgram" then some false else if r = "NoText" then some false else if r = "NoContract" then some false else if r = "NoInput" then some false else if r = "TooMany" then some false else if r = "NotLet" then some false else if r = "NoCall" then some true else if r = "NoName" then some true else if r = "NoShelf" then some true else none
def isK_NoBit (r : Str) : Option Bool := if r = "NoWord" then some false else if r = "NoBit" then some true else if r = "NoTable" then some false else if r = "Bare" then some false else if r = "Shut" then some false else if r = "NoRow" then some false else if r = "NoProgram" then some false else if r = "NoText" then some false else if r = "NoContract" then some false else if r = "NoInput" then some false else if r = "TooMany" then some false else if r = "NotLet" then some false else if r = "NoCall" then some false else if r = "NoName" then some false else if r = "NoShelf" then some false else none
def isK_NoCall (r : Str) : Option Bool := if r = "NoWord" then some false else if r = "NoBit" then some false else if r = "NoTable" then some false else if r = "Bare" then some false else if r = "Shut" then some false else if r = "NoRow" then some false else if r = "NoProgram" then some false else if r = "NoText" then some false else if r = "NoContract" then some false else if r = "NoInput" then some false else if r = "TooMany" then some false else if r = "NotLet" then some false else if r = "NoCall" then some true else if r = "NoName" then some false else if r = "NoShelf" then some false else none
def isK_NoContract (r : Str) : Option Bool := if r = "NoWord" then some false else if r = "NoBit" then some false else if r = "NoTable" then some false else if r = "Bare" then some false else if r = "Shut" then some false else if r = "NoRow" then some false else if r = "NoProgram" then some false else if r = "NoText" then some false else if r = "NoContract" then some true else if r = "NoInput" then some false else if r = "TooMany" then some false else if r = "NotLet" then some false else if r = "NoCall" then some false else if r = "NoName" then some false else if r = "NoShelf" then some false else none
def isK_NoInput (r : Str) : Option Bool := if r = "NoWord" then some false else if r = "NoBit" then some false else if r = "NoTable" then some false else if r = "Bare" then some false else if r = "Shut" then some false else if r = "NoRow" then some false else if r = "NoProgram" then some false else if r = "NoText" then some false else if r = "NoContract" then some false else if r = "NoInput" then some true else if r = "TooMany" then some false else if r = "NotLet" then some false else if r = "NoCall" then some false else if r = "NoName" then some false else if r = "NoShelf" then some false else none
def isK_NoName (r : Str) : Option Bool := if r = "NoWord" then some false else if r = "NoBit" then some false else if r = "NoTable" then some false else if r = "Bare" then some false else if r = "Shut" then some false else if r = "NoRow" then some false else if r = "NoProgram" then some false else if r = "NoText" then some false else if r = "NoContract" then some false else if r = "NoInput" then some false else if r = "TooMany" then some false else if r = "NotLet" then some false else if r = "NoCall" then some false else if r = "NoName" then some true else if r = "NoShelf" then some false else none
def isK_NoProgram (r : Str) : Option Bool := if r = "NoWord" then some false else if r = "NoBit" then some false else if r = "NoTable" then some false else if r = "Bare" then some false else if r = "Shut" then some false else if r = "NoRow" then some false else if r = "NoProgram" then some true else if r = "NoText" then some false else if r = "NoContract" then some false else if r = "NoInput" then some false else if r = "TooMany" then some false else if r = "NotLet" then some false else if r = "NoCall" then some false else if r = "NoName" then some false else if r = "NoShelf" then some false else none
def isK_NoRow (r : Str) : Option Bool := if r = "NoWord" then some false else if r = "NoBit" then some false else if r = "NoTable" then some false else if r = "Bare" then some false else if r = "Shut" then some false else if r = "NoRow" then some true else if r = "NoProgram" then some false else if r = "NoText" then some false else if r = "NoContract" then some false else if r = "NoInput" then some false else if r = "TooMany" then some false else if r = "NotLet" then some false else if r = "NoCall" then some false else if r = "NoName" then some false else if r = "NoShelf" then some false else none
def isK_NoShelf (r : Str) : Option Bool := if r = "NoWord" then some false else if r = "NoBit" then some false else if r = "NoTable" then some false else if r = "Bare" then some false else if r = "Shut" then some false else if r = "NoRow" then some false else if r = "NoProgram" then some false else if r = "NoText" then some false else if r = "NoContract" then some false else if r = "NoInput" then some false else if r = "TooMany" then some false else if r = "NotLet" then some false else if r = "NoCall" then some false else if r = "NoName" then some false else if r = "NoShelf" then some true else none
def isK_NoTable (r : Str) : Option Bool := if r = "NoWord" then some false else if r = "NoBit" then some false else if r = "NoTable" then some true else if r = "Bare" then some false else if r = "Shut" then some false else if r = "NoRow" then some false else if r = "NoProgram" then some false else if r = "NoText" then some false else if r = "NoContract" then some false else if r = "NoInput" then some false else if r = "TooMany" then some false else if r = "NotLet" then some false else if r = "NoCall" then some false else if r = "NoName" then some false else if r = "NoShelf" then some false else none
def isK_NoText (r : Str) : Option Bool := if r = "NoWord" then some false else if r = "NoBit" then some false else if r = "NoTable" then some false else if r = "Bare" then some false else if r = "Shut" then some false else if r = "NoRow" then some false else if r = "NoProgram" then some false else if r = "NoText" then some true else if r = "NoContract" then some false else if r = "NoInput" then some false else if r = "TooMany" then some false else if r = "NotLet" then some false else if r = "NoCall" then some false else if r = "NoName" then some false else if r = "NoShelf" then some false else none
def isK_NoWord (r : Str) : Option Bool := if r = "NoWord" then some true else if r = "NoBit" then some false else if r = "NoTable" then some false else if r = "Bare" then some false else if r = "Shut" then some false else if r = "NoRow" then some false else if r = "NoProgram" then some false else if r = "NoText" then some false else if r = "NoContract" then some false else if r = "NoInput" then some false else if r = "TooMany" then some false else if r = "NotLet" then some false else if r = "NoCall" then some false else if r = "NoName" then some false else if r = "NoShelf" then some false else none
def isK_NotLet (r : Str) : Option Bool := if r = "NoWord" then some false else if r = "NoBit" then some false else if r = "NoTable" then some false else if r = "Bare" then some false else if r = "Shut" then some false else if r = "NoRow" then some false else if r = "NoProgram" then some false else if r = "NoText" then some false else if r = "NoContract" then some false else if r = "NoInput" then some false else if r = "TooMany" then some false else if r = "NotLet" then some true else if r = "NoCall" then some false else if r = "NoName" then some false else if r = "NoShelf" then some false else none
def isK_OverflowError (r : Str) : Option Bool := if r = "NoWord" then some false else if r = "NoBit" then some false else if r = "NoTable" then some false else if r = "Bare" then some false else if r = "Shut" then some false else if r = "NoRow" then some false else if r = "NoProgram" then some false else if r = "NoText" then some false else if r = "NoContract" then some false else if r = "NoInput" then some false else if r = "TooMany" then some false else if r = "NotLet" then some false else if r = "NoCall" then some false else if r = "NoName" then some false else if r = "NoShelf" then some false else none
def isK_RuntimeError (r : Str) : Option Bool := if r = "NoWord" then some false else if r = "NoBit" then some false else if r = "NoTable" then some false else if r = "Bare" then some false else if r = "Shut" then some false else if r = "NoRow" then some false else if r = "NoProgram" then some false else if r = "NoText" then some false else if r = "NoContract" then some false else if r = "NoInput" then some false else if r = "TooMany" then some false else if r = "NotLet" then some false else if r = "NoCall" then some false else if r = "NoName" then some false else if r = "NoShelf" then some false else none
def isK_Shut (r : Str) : Option Bool := if r = "NoWord" then some false else if r = "NoBit" then some false else if r = "NoTable" then some false else if r = "Bare" then some false else if r = "Shut" then some true else if r = "NoRow" then some false else if r = "NoProgram" then some false else if r = "NoText" then some false else if r = "NoContract" then some false else if r = "NoInput" then some false else if r = "TooMany" then some false else if r = "NotLet" then some false else if r = "NoCall" then some false else if r = "NoName" then some false else if r = "NoShelf" then some false else none
def isK_TooMany (r : Str) : Option Bool := if r = "NoWord" then some false else if r = "NoBit" then some false else if r = "NoTable" then some false else if r = "Bare" then some false else if r = "Shut" then some false else if r = "NoRow" then some false else if r = "NoProgram" then some false else if r = "NoText" then some false else if r = "NoContract" then some false else if r = "NoInput" then some false else if r = "TooMany" then some true else if r = "NotLet" then some false else if r = "NoCall" then some false else if r = "NoName" then some false else if r = "NoShelf" then some false else none
def isK_ValueError (r : Str) : Option Bool := if r = "NoWord" then some true else if r = "NoBit" then some true else if r = "NoTable" then some true else if r = "Bare" then some true else if r = "Shut" then some true else if r = "NoRow" then some true else if r = "NoProgram" then some true else if r = "NoText" then some true else if r = "NoContract" then some true else if r = "NoInput" then some true else if r = "TooMany" then some true else if r = "NotLet" then some true else if r = "NoCall" then some false else if r = "NoName" then some false else if r = "NoShelf" then some false else none
def fldT_name (r : Str) : Bool := if r = "NoCall" then true else if r = "NoName" then true else if r = "NoShelf" then true else false
def fldT_number (r : Str) : Bool := if r = "NoProgram" then true else if r = "NoText" then true else if r = "NoContract" then true else false
def fldT_part (r : Str) : Bool := if r = "NoContract" then true else if r = "NoInput" then true else false
def fldT_size (r : Str) : Bool := if r = "TooMany" then true else false
def fldT_way (r : Str) : Bool := if r = "NotLet" then true else false
def fldT_word (r : Str) : Bool := if r = "NotLet" then true else false
/-! ### the fifteen refusals as data -/
def Frd (cs cs' : Cells) : Prop := ∀ j o, cs j = some o → cs' j = some o
theorem Frd.refl {cs : Cells} : Frd cs cs := fun _ _ h => h
theorem Frd.trans {a b c : Cells} (h : Frd a b) (g : Frd b c) : Frd a c := fun j o e => g j o (h j o e)
theorem Frd.new {a b : Cells} {k : Nat} {o : Co} (h : Frd a b) (hk : b k = none) : Frd a (put b k o) := fun j u e => by
  rw [put_ne fun z => by rw [z] at e; rw [h _ _ e] at hk; cases hk]
  exact h j u e
theorem Frd.at {b : Cells} {k : Nat} {o : Co} : put b k o k = some o := put_same
def nm15 : List Str := ["NoWord", "NoBit", "NoTable", "Bare", "Shut", "NoRow", "NoProgram", "NoText", "NoContract", "NoInput", "TooMany", "NotLet", "NoCall", "NoName", "NoShelf"]
def mk15 (a b : D) : List DX := [⟨"NoWord", none⟩, ⟨"NoBit", none⟩, ⟨"NoTable", none⟩, ⟨"Bare", none⟩, ⟨"Shut", none⟩, ⟨"NoRow", none⟩, ⟨"NoProgram", some [("number", a)]⟩, ⟨"NoText", some [("number", a)]⟩,
  ⟨"NoContract", some [("number", b), ("part", a)]⟩, ⟨"NoInput", some [("part", a)]⟩, ⟨"TooMany", some [("size", a)]⟩, ⟨"NotLet", some [("way", b), ("word", a)]⟩, ⟨"NoCall", some [("name", a)]⟩, ⟨"NoName", some [("name", a)]⟩, ⟨"NoShelf", some [("name", a)]⟩]
def sem_l_made : Sem := fun ds cs R => ∃ (i : Nat) (a b : D), ds = [.int (i : Int), a, b] ∧ i < 15 ∧ ∀ k cs', Frd cs cs' → (∃ x, (mk15 a b)[i]? = some x ∧ cs' k = some (.exc x)) → R (.cel k) cs'
theorem len_l_made : ∀ ds cs R, sem_l_made ds cs R → ds.length = 3 := by rintro ds cs R ⟨_, _, _, rfl, _⟩; rfl
/-- _law_made: slots 0=_law_number 1=_law_one 2=_law_other 3=_law_some -/
def den_l_made : DS :=
  (sSeq (sAsg (dLst (dCons (dMkX0 "NoWord") (dCons (dMkX0 "NoBit") (dCons (dMkX0 "NoTable") (dCons (dMkX0 "Bare") (dCons (dMkX0 "Shut") (dCons (dMkX0 "NoRow") (dCons (dMkXF "NoProgram" ["number"] (dCons (dVar 1) dNil)) (dCons (dMkXF "NoText" ["number"] (dCons (dVar 1) dNil)) dNil))))))))) 3)
    (sSeq (sAsg (dBin dAdd (dVar 3) (dLst (dCons (dMkXF "NoContract" ["part", "number"] (dCons (dVar 1) (dCons (dVar 2) dNil))) (dCons (dMkXF "NoInput" ["part"] (dCons (dVar 1) dNil)) (dCons (dMkXF "TooMany" ["size"] (dCons (dVar 1) dNil)) (dCons (dMkXF "NotLet" ["word", "way"] (dCons (dVar 1) (dCons (dVar 2) dNil))) (dCons (dMkXF "NoCall" ["name"] (dCons (dVar 1) dNil)) (dCons (dMkXF "NoName" ["name"] (dCons (dVar 1) dNil)) dNil)))))))) 3)
    (sRet (dBin dIxF (dBin dAdd (dVar 3) (dLst (dCons (dMkXF "NoShelf" ["name"] (dCons (dVar 1) dNil)) dNil))) (dVar 0)))))
theorem mk0 {x : Str} {env : List (Option D)} {cs : Cells} {R : D → Z → Prop} (h : ∀ k cs', Frd cs cs' → cs' k = some (.exc ⟨x, none⟩) → R (.cel k) ⟨env, cs'⟩) : dMkX0 x ⟨env, cs⟩ R := fun k hk => h k _ (Frd.refl.new hk) put_same
theorem atN {l : List D} {i : Nat} {d : D} (h : l[i]? = some d) : L2.atI l (i : Int) = some d := by
  have hi : i < l.length := by
    rcases Nat.lt_or_ge i l.length with h' | h'
    · exact h'
    · rw [List.getElem?_eq_none h'] at h; cases h
  unfold L2.atI L2.ixN
  rw [if_pos (Int.natCast_nonneg i), if_pos (by omega)]
  exact h
theorem okd_l_made : ∀ ds cs R, sem_l_made ds cs R → den_l_made { nx := fun c => R .non c.cs, rt := R } ⟨env0 4 ds, cs⟩ := by
  rintro ds cs R ⟨i, a, b, rfl, hi, q⟩
  unfold den_l_made dMkXF
  walk_at "dl"
  refine mk0 fun k0 c0 f0 e0 => ?_
  refine mk0 fun k1 c1 f1 e1 => ?_
  refine mk0 fun k2 c2 f2 e2 => ?_
  refine mk0 fun k3 c3 f3 e3 => ?_
  refine mk0 fun k4 c4 f4 e4 => ?_
  refine mk0 fun k5 c5 f5 e5 => ?_
  walk_at "dl"
  intro k6 h6
  generalize hc : DL.put c5 k6 _ = c6
  have f6 : Frd c5 c6 := by rw [← hc]; exact Frd.refl.new h6
  have e6 : c6 k6 = some (.exc ⟨"NoProgram", some [("number", a)]⟩) := by rw [← hc]; exact put_same
  clear hc
  intro k7 h7
  generalize hc : DL.put c6 k7 _ = c7
  have f7 : Frd c6 c7 := by rw [← hc]; exact Frd.refl.new h7
  have e7 : c7 k7 = some (.exc ⟨"NoText", some [("number", a)]⟩) := by rw [← hc]; exact put_same
  clear hc
  intro k8 h8
  generalize hc : DL.put c7 k8 _ = c8
  have f8 : Frd c7 c8 := by rw [← hc]; exact Frd.refl.new h8
  have e8 : c8 k8 = some (.exc ⟨"NoContract", some [("number", b), ("part", a)]⟩) := by rw [← hc]; exact put_same
  clear hc
  intro k9 h9
  generalize hc : DL.put c8 k9 _ = c9
  have f9 : Frd c8 c9 := by rw [← hc]; exact Frd.refl.new h9
  have e9 : c9 k9 = some (.exc ⟨"NoInput", some [("part", a)]⟩) := by rw [← hc]; exact put_same
  clear hc
  intro k10 h10
  generalize hc : DL.put c9 k10 _ = c10
  have f10 : Frd c9 c10 := by rw [← hc]; exact Frd.refl.new h10
  have e10 : c10 k10 = some (.exc ⟨"TooMany", some [("size", a)]⟩) := by rw [← hc]; exact put_same
  clear hc
  intro k11 h11
  generalize hc : DL.put c10 k11 _ = c11
  have f11 : Frd c10 c11 := by rw [← hc]; exact Frd.refl.new h11
  have e11 : c11 k11 = some (.exc ⟨"NotLet", some [("way", b), ("word", a)]⟩) := by rw [← hc]; exact put_same
  clear hc
  intro k12 h12
  generalize hc : DL.put c11 k12 _ = c12
  have f12 : Frd c11 c12 := by rw [← hc]; exact Frd.refl.new h12
  have e12 : c12 k12 = some (.exc ⟨"NoCall", some [("name", a)]⟩) := by rw [← hc]; exact put_same
  clear hc
  intro k13 h13
  generalize hc : DL.put c12 k13 _ = c13
  have f13 : Frd c12 c13 := by rw [← hc]; exact Frd.refl.new h13
  have e13 : c13 k13 = some (.exc ⟨"NoName", some [("name", a)]⟩) := by rw [← hc]; exact put_same
  clear hc
  intro k14 h14
  generalize hc : DL.put c13 k14 _ = c14
  have f14 : Frd c13 c14 := by rw [← hc]; exact Frd.refl.new h14
  have e14 : c14 k14 = some (.exc ⟨"NoShelf", some [("name", a)]⟩) := by rw [← hc]; exact put_same
  clear hc
  have g13 : Frd c13 c14 := f14
  have g12 : Frd c12 c14 := f13.trans g13
  have g11 : Frd c11 c14 := f12.trans g12
  have g10 : Frd c10 c14 := f11.trans g11
  have g9 : Frd c9 c14 := f10.trans g10
  have g8 : Frd c8 c14 := f9.trans g9
  have g7 : Frd c7 c14 := f8.trans g8
  have g6 : Frd c6 c14 := f7.trans g7
  have g5 : Frd c5 c14 := f6.trans g6
  have g4 : Frd c4 c14 := f5.trans g5
  have g3 : Frd c3 c14 := f4.trans g4
  have g2 : Frd c2 c14 := f3.trans g3
  have g1 : Frd c1 c14 := f2.trans g2
  have g0 : Frd c0 c14 := f1.trans g1
  have g : Frd cs c14 := f0.trans g0
  match i, hi with
  | 0, _ => exact ⟨_, atN (i := 0) rfl, q k0 c14 g ⟨_, rfl, g0 _ _ e0⟩⟩
  | 1, _ => exact ⟨_, atN (i := 1) rfl, q k1 c14 g ⟨_, rfl, g1 _ _ e1⟩⟩
  | 2, _ => exact ⟨_, atN (i := 2) rfl, q k2 c14 g ⟨_, rfl, g2 _ _ e2⟩⟩
  | 3, _ => exact ⟨_, atN (i := 3) rfl, q k3 c14 g ⟨_, rfl, g3 _ _ e3⟩⟩
  | 4, _ => exact ⟨_, atN (i := 4) rfl, q k4 c14 g ⟨_, rfl, g4 _ _ e4⟩⟩
  | 5, _ => exact ⟨_, atN (i := 5) rfl, q k5 c14 g ⟨_, rfl, g5 _ _ e5⟩⟩
  | 6, _ => exact ⟨_, atN (i := 6) rfl, q k6 c14 g ⟨_, rfl, g6 _ _ e6⟩⟩
  | 7, _ => exact ⟨_, atN (i := 7) rfl, q k7 c14 g ⟨_, rfl, g7 _ _ e7⟩⟩
  | 8, _ => exact ⟨_, atN (i := 8) rfl, q k8 c14 g ⟨_, rfl, g8 _ _ e8⟩⟩
  | 9, _ => exact ⟨_, atN (i := 9) rfl, q k9 c14 g ⟨_, rfl, g9 _ _ e9⟩⟩
  | 10, _ => exact ⟨_, atN (i := 10) rfl, q k10 c14 g ⟨_, rfl, g10 _ _ e10⟩⟩
  | 11, _ => exact ⟨_, atN (i := 11) rfl, q k11 c14 g ⟨_, rfl, g11 _ _ e11⟩⟩
  | 12, _ => exact ⟨_, atN (i := 12) rfl, q k12 c14 g ⟨_, rfl, g12 _ _ e12⟩⟩
  | 13, _ => exact ⟨_, atN (i := 13) rfl, q k13 c14 g ⟨_, rfl, g13 _ _ e13⟩⟩
  | 14, _ => exact ⟨_, atN (i := 14) rfl, q k14 c14 g ⟨_, rfl, e14⟩⟩
/-! ### what they are -/
theorem all15 {f : Nat → Option Bool} {b : Nat → Bool} (h : ((List.range 15).all fun i => f i == some (b i)) = true) {i : Nat} (hi : i < 15) : f i = some (b i) := by
  have := List.all_eq_true.mp h i (List.mem_range.mpr hi)
  simpa using this
def nmA (i : Nat) : Str := nm15.getD i ""
theorem ik_NoWord {i : Nat} (hi : i < 15) : isK_NoWord (nmA i) = some (decide (i = 0)) := all15 (f := fun i => isK_NoWord (nmA i)) (b := fun i => decide (i = 0)) (by decide +kernel) hi
theorem ik_NoBit {i : Nat} (hi : i < 15) : isK_NoBit (nmA i) = some (decide (i = 1)) := all15 (f := fun i => isK_NoBit (nmA i)) (b := fun i => decide (i = 1)) (by decide +kernel) hi
theorem ik_NoTable {i : Nat} (hi : i < 15) : isK_NoTable (nmA i) = some (decide (i = 2)) := all15 (f := fun i => isK_NoTable (nmA i)) (b := fun i => decide (i = 2)) (by decide +kernel) hi
theorem ik_Bare {i : Nat} (hi : i < 15) : isK_Bare (nmA i) = some (decide (i = 3)) := all15 (f := fun i => isK_Bare (nmA i)) (b := fun i => decide (i = 3)) (by decide +kernel) hi
theorem ik_Shut {i : Nat} (hi : i < 15) : isK_Shut (nmA i) = some (decide (i = 4)) := all15 (f := fun i => isK_Shut (nmA i)) (b := fun i => decide (i = 4)) (by decide +kernel) hi
theorem ik_NoRow {i : Nat} (hi : i < 15) : isK_NoRow (nmA i) = some (decide (i = 5)) := all15 (f := fun i => isK_NoRow (nmA i)) (b := fun i => decide (i = 5)) (by decide +kernel) hi
theorem ik_NoProgram {i : Nat} (hi : i < 15) : isK_NoProgram (nmA i) = some (decide (i = 6)) := all15 (f := fun i => isK_NoProgram (nmA i)) (b := fun i => decide (i = 6)) (by decide +kernel) hi
theorem ik_NoText {i : Nat} (hi : i < 15) : isK_NoText (nmA i) = some (decide (i = 7)) := all15 (f := fun i => isK_NoText (nmA i)) (b := fun i => decide (i = 7)) (by decide +kernel) hi
theorem ik_NoContract {i : Nat} (hi : i < 15) : isK_NoContract (nmA i) = some (decide (i = 8)) := all15 (f := fun i => isK_NoContract (nmA i)) (b := fun i => decide (i = 8)) (by decide +kernel) hi
theorem ik_NoInput {i : Nat} (hi : i < 15) : isK_NoInput (nmA i) = some (decide (i = 9)) := all15 (f := fun i => isK_NoInput (nmA i)) (b := fun i => decide (i = 9)) (by decide +kernel) hi
theorem ik_TooMany {i : Nat} (hi : i < 15) : isK_TooMany (nmA i) = some (decide (i = 10)) := all15 (f := fun i => isK_TooMany (nmA i)) (b := fun i => decide (i = 10)) (by decide +kernel) hi
theorem ik_NotLet {i : Nat} (hi : i < 15) : isK_NotLet (nmA i) = some (decide (i = 11)) := all15 (f := fun i => isK_NotLet (nmA i)) (b := fun i => decide (i = 11)) (by decide +kernel) hi
theorem ik_NoCall {i : Nat} (hi : i < 15) : isK_NoCall (nmA i) = some (decide (i = 12)) := all15 (f := fun i => isK_NoCall (nmA i)) (b := fun i => decide (i = 12)) (by decide +kernel) hi
theorem ik_NoName {i : Nat} (hi : i < 15) : isK_NoName (nmA i) = some (decide (i = 13)) := all15 (f := fun i => isK_NoName (nmA i)) (b := fun i => decide (i = 13)) (by decide +kernel) hi
theorem ik_NoShelf {i : Nat} (hi : i < 15) : isK_NoShelf (nmA i) = some (decide (i = 14)) := all15 (f := fun i => isK_NoShelf (nmA i)) (b := fun i => decide (i = 14)) (by decide +kernel) hi
theorem ik_GateError {i : Nat} (hi : i < 15) : isK_GateError (nmA i) = some (decide (i < 12)) := all15 (f := fun i => isK_GateError (nmA i)) (b := fun i => decide (i < 12)) (by decide +kernel) hi
theorem ik_ValueError {i : Nat} (hi : i < 15) : isK_ValueError (nmA i) = some (decide (i < 12)) := all15 (f := fun i => isK_ValueError (nmA i)) (b := fun i => decide (i < 12)) (by decide +kernel) hi
theorem ik_KeyError {i : Nat} (hi : i < 15) : isK_KeyError (nmA i) = some (decide (12 ≤ i ∧ i < 14)) := all15 (f := fun i => isK_KeyError (nmA i)) (b := fun i => decide (12 ≤ i ∧ i < 14)) (by decide +kernel) hi
theorem ik_LookupError {i : Nat} (hi : i < 15) : isK_LookupError (nmA i) = some (decide (12 ≤ i)) := all15 (f := fun i => isK_LookupError (nmA i)) (b := fun i => decide (12 ≤ i)) (by decide +kernel) hi
theorem ik_IndexError {i : Nat} (hi : i < 15) : isK_IndexError (nmA i) = some (false) := all15 (f := fun i => isK_IndexError (nmA i)) (b := fun i => false) (by decide +kernel) hi
theorem ik_OverflowError {i : Nat} (hi : i < 15) : isK_OverflowError (nmA i) = some (false) := all15 (f := fun i => isK_OverflowError (nmA i)) (b := fun i => false) (by decide +kernel) hi
theorem ik_RuntimeError {i : Nat} (hi : i < 15) : isK_RuntimeError (nmA i) = some (false) := all15 (f := fun i => isK_RuntimeError (nmA i)) (b := fun i => false) (by decide +kernel) hi
def kd15 (i : Nat) : List D := (List.range 15).map fun j => .bl (decide (i = j))
def bs15 (i : Nat) : List D := [.bl (decide (i < 12)), .bl (decide (i < 12)), .bl (decide (12 ≤ i ∧ i < 14)), .bl (decide (12 ≤ i)), .bl false, .bl false, .bl false]
def Is15 (cs : Cells) (k i : Nat) (a b : D) : Prop := ∃ x, (mk15 a b)[i]? = some x ∧ cs k = some (.exc x)
theorem is_cls {a b : D} {i : Nat} {x : DX} (h : (mk15 a b)[i]? = some x) : x.cls = nmA i := by
  have hi : i < 15 := by
    rcases Nat.lt_or_ge i 15 with h' | h'
    · exact h'
    · rw [List.getElem?_eq_none (show (mk15 a b).length ≤ i from h')] at h; cases h
  match i, hi with
  | 0, _ => cases h; rfl
  | 1, _ => cases h; rfl
  | 2, _ => cases h; rfl
  | 3, _ => cases h; rfl
  | 4, _ => cases h; rfl
  | 5, _ => cases h; rfl
  | 6, _ => cases h; rfl
  | 7, _ => cases h; rfl
  | 8, _ => cases h; rfl
  | 9, _ => cases h; rfl
  | 10, _ => cases h; rfl
  | 11, _ => cases h; rfl
  | 12, _ => cases h; rfl
  | 13, _ => cases h; rfl
  | 14, _ => cases h; rfl
def sem_l_kinds : Sem := fun ds cs R => ∃ (k i : Nat) (a b : D), ds = [.cel k] ∧ i < 15 ∧ Is15 cs k i a b ∧ R (.lst (kd15 i)) cs
theorem len_l_kinds : ∀ ds cs R, sem_l_kinds ds cs R → ds.length = 1 := by rintro ds cs R ⟨_, _, _, _, rfl, _⟩; rfl
/-- _law_kinds: slots 0=_law_e 1=_law_found -/
def den_l_kinds : DS :=
  (sSeq (sAsg (dLst (dCons (dIsX isK_NoWord (dVar 0)) (dCons (dIsX isK_NoBit (dVar 0)) (dCons (dIsX isK_NoTable (dVar 0)) (dCons (dIsX isK_Bare (dVar 0)) dNil))))) 1)
    (sSeq (sAsg (dBin dAdd (dVar 1) (dLst (dCons (dIsX isK_Shut (dVar 0)) (dCons (dIsX isK_NoRow (dVar 0)) (dCons (dIsX isK_NoProgram (dVar 0)) (dCons (dIsX isK_NoText (dVar 0)) dNil)))))) 1)
    (sSeq (sAsg (dBin dAdd (dVar 1) (dLst (dCons (dIsX isK_NoContract (dVar 0)) (dCons (dIsX isK_NoInput (dVar 0)) (dCons (dIsX isK_TooMany (dVar 0)) (dCons (dIsX isK_NotLet (dVar 0)) dNil)))))) 1)
    (sRet (dBin dAdd (dVar 1) (dLst (dCons (dIsX isK_NoCall (dVar 0)) (dCons (dIsX isK_NoName (dVar 0)) (dCons (dIsX isK_NoShelf (dVar 0)) dNil)))))))))
theorem okd_l_kinds : ∀ ds cs R, sem_l_kinds ds cs R → den_l_kinds { nx := fun c => R .non c.cs, rt := R } ⟨env0 2 ds, cs⟩ := by
  rintro ds cs R ⟨k, i, a, b, rfl, hi, ⟨x, hx, hk⟩, q⟩
  have hc := is_cls hx
  unfold den_l_kinds dIsX
  walk_at "dl"
  refine ⟨x, hk, _, by rw [hc]; exact ik_NoWord hi, ?_⟩
  refine ⟨x, hk, _, by rw [hc]; exact ik_NoBit hi, ?_⟩
  refine ⟨x, hk, _, by rw [hc]; exact ik_NoTable hi, ?_⟩
  refine ⟨x, hk, _, by rw [hc]; exact ik_Bare hi, ?_⟩
  refine ⟨x, hk, _, by rw [hc]; exact ik_Shut hi, ?_⟩
  refine ⟨x, hk, _, by rw [hc]; exact ik_NoRow hi, ?_⟩
  refine ⟨x, hk, _, by rw [hc]; exact ik_NoProgram hi, ?_⟩
  refine ⟨x, hk, _, by rw [hc]; exact ik_NoText hi, ?_⟩
  refine ⟨x, hk, _, by rw [hc]; exact ik_NoContract hi, ?_⟩
  refine ⟨x, hk, _, by rw [hc]; exact ik_NoInput hi, ?_⟩
  refine ⟨x, hk, _, by rw [hc]; exact ik_TooMany hi, ?_⟩
  refine ⟨x, hk, _, by rw [hc]; exact ik_NotLet hi, ?_⟩
  refine ⟨x, hk, _, by rw [hc]; exact ik_NoCall hi, ?_⟩
  refine ⟨x, hk, _, by rw [hc]; exact ik_NoName hi, ?_⟩
  refine ⟨x, hk, _, by rw [hc]; exact ik_NoShelf hi, ?_⟩
  exact q
def sem_l_bases : Sem := fun ds cs R => ∃ (k i : Nat) (a b : D), ds = [.cel k] ∧ i < 15 ∧ Is15 cs k i a b ∧ R (.lst (bs15 i)) cs
theorem len_l_bases : ∀ ds cs R, sem_l_bases ds cs R → ds.length = 1 := by rintro ds cs R ⟨_, _, _, _, rfl, _⟩; rfl
/-- _law_bases: slots 0=_law_e 1=_law_found -/
def den_l_bases : DS :=
  (sSeq (sAsg (dLst (dCons (dIsX isK_GateError (dVar 0)) (dCons (dIsX isK_ValueError (dVar 0)) (dCons (dIsX isK_KeyError (dVar 0)) (dCons (dIsX isK_LookupError (dVar 0)) dNil))))) 1)
    (sRet (dBin dAdd (dVar 1) (dLst (dCons (dIsX isK_IndexError (dVar 0)) (dCons (dIsX isK_OverflowError (dVar 0)) (dCons (dIsX isK_RuntimeError (dVar 0)) dNil)))))))
theorem okd_l_bases : ∀ ds cs R, sem_l_bases ds cs R → den_l_bases { nx := fun c => R .non c.cs, rt := R } ⟨env0 2 ds, cs⟩ := by
  rintro ds cs R ⟨k, i, a, b, rfl, hi, ⟨x, hx, hk⟩, q⟩
  have hc := is_cls hx
  unfold den_l_bases dIsX
  walk_at "dl"
  refine ⟨x, hk, _, by rw [hc]; exact ik_GateError hi, ?_⟩
  refine ⟨x, hk, _, by rw [hc]; exact ik_ValueError hi, ?_⟩
  refine ⟨x, hk, _, by rw [hc]; exact ik_KeyError hi, ?_⟩
  refine ⟨x, hk, _, by rw [hc]; exact ik_LookupError hi, ?_⟩
  refine ⟨x, hk, _, by rw [hc]; exact ik_IndexError hi, ?_⟩
  refine ⟨x, hk, _, by rw [hc]; exact ik_OverflowError hi, ?_⟩
  refine ⟨x, hk, _, by rw [hc]; exact ik_RuntimeError hi, ?_⟩
  exact q
def vl15 (i : Nat) (a b : D) : List D := if i < 6 then [] else if i = 8 ∨ i = 11 then [a, b] else [a]
def sem_l_fields : Sem := fun ds cs R => ∃ (k i : Nat) (a b : D), ds = [.int (i : Int), .cel k] ∧ i < 15 ∧ Is15 cs k i a b ∧ R (.lst (vl15 i a b)) cs
theorem len_l_fields : ∀ ds cs R, sem_l_fields ds cs R → ds.length = 2 := by rintro ds cs R ⟨_, _, _, _, rfl, _⟩; rfl
def ex_l_fields_1 : DE :=
  (dIfE (dTB (dBin dGt (dVar 0) (dC (.int 11)))) (dLst (dCons (dXF fldT_name "name" (dVar 1)) dNil)) (dLst dNil))
/-- _law_fields: slots 0=_law_number 1=_law_e -/
def den_l_fields : DS :=
  (sSeq (sIf (dTB (dBin dIn (dVar 0) (dTup (dCons (dC (.int 6)) (dCons (dC (.int 7)) dNil))))) (sRet (dLst (dCons (dXF fldT_number "number" (dVar 1)) dNil))) sNext)
    (sSeq (sIf (dTB (dBin dEq (dVar 0) (dC (.int 8)))) (sRet (dLst (dCons (dXF fldT_part "part" (dVar 1)) (dCons (dXF fldT_number "number" (dVar 1)) dNil)))) sNext)
    (sSeq (sIf (dTB (dBin dEq (dVar 0) (dC (.int 9)))) (sRet (dLst (dCons (dXF fldT_part "part" (dVar 1)) dNil))) sNext)
    (sSeq (sIf (dTB (dBin dEq (dVar 0) (dC (.int 10)))) (sRet (dLst (dCons (dXF fldT_size "size" (dVar 1)) dNil))) sNext)
    (sSeq (sIf (dTB (dBin dEq (dVar 0) (dC (.int 11)))) (sRet (dLst (dCons (dXF fldT_word "word" (dVar 1)) (dCons (dXF fldT_way "way" (dVar 1)) dNil)))) sNext)
    (sRet ex_l_fields_1))))))
theorem in_intsT {ws : List Int} {w : Int} {b : Bool} {c : Z} {R : D → Z → Prop} (e : (ws.map D.int).any (fun d => eqF d (.int w)) = b) (q : R (.bl b) c) : dIn (.int w) (.tup (ws.map .int)) c R :=
  ⟨_, rfl, rfl, flat_ints, by rw [e]; exact q⟩
theorem okd_l_fields : ∀ ds cs R, sem_l_fields ds cs R → den_l_fields { nx := fun c => R .non c.cs, rt := R } ⟨env0 2 ds, cs⟩ := by
  rintro ds cs R ⟨k, i, a, b, rfl, hi, ⟨x, hx, hk⟩, q⟩
  have st : ∀ {j : Int} {b : Bool} {R : D → Z → Prop} {c : Z}, (([6, 7] : List Int).map D.int).any (fun d => eqF d (.int j)) = b → R (.bl b) c → dIn (.int j) (.tup [.int 6, .int 7]) c R := fun e q => in_intsT (ws := [6, 7]) e q
  match i, hi with
  | 0, _ =>
    cases hx
    show den_l_fields _ ⟨[some (.int 0), some (.cel k)], cs⟩
    unfold den_l_fields ex_l_fields_1 dXF
    k_search Int.reduceEq
    refine st (b := false) rfl ?_
    k_search Int.reduceEq
    exact q
  | 1, _ =>
    cases hx
    show den_l_fields _ ⟨[some (.int 1), some (.cel k)], cs⟩
    unfold den_l_fields ex_l_fields_1 dXF
    k_search Int.reduceEq
    refine st (b := false) rfl ?_
    k_search Int.reduceEq
    exact q
  | 2, _ =>
    cases hx
    show den_l_fields _ ⟨[some (.int 2), some (.cel k)], cs⟩
    unfold den_l_fields ex_l_fields_1 dXF
    k_search Int.reduceEq
    refine st (b := false) rfl ?_
    k_search Int.reduceEq
    exact q
  | 3, _ =>
    cases hx
    show den_l_fields _ ⟨[some (.int 3), some (.cel k)], cs⟩
    unfold den_l_fields ex_l_fields_1 dXF
    k_search Int.reduceEq
    refine st (b := false) rfl ?_
    k_search Int.reduceEq
    exact q
  | 4, _ =>
    cases hx
    show den_l_fields _ ⟨[some (.int 4), some (.cel k)], cs⟩
    unfold den_l_fields ex_l_fields_1 dXF
    k_search Int.reduceEq
    refine st (b := false) rfl ?_
    k_search Int.reduceEq
    exact q
  | 5, _ =>
    cases hx
    show den_l_fields _ ⟨[some (.int 5), some (.cel k)], cs⟩
    unfold den_l_fields ex_l_fields_1 dXF
    k_search Int.reduceEq
    refine st (b := false) rfl ?_
    k_search Int.reduceEq
    exact q
  | 6, _ =>
    cases hx
    show den_l_fields _ ⟨[some (.int 6), some (.cel k)], cs⟩
    unfold den_l_fields ex_l_fields_1 dXF
    k_search Int.reduceEq
    refine st (b := true) rfl ?_
    k_search Int.reduceEq
    exact ⟨_, hk, (by dsimp only; decide +kernel), _, rfl, _, by rfl, q⟩
  | 7, _ =>
    cases hx
    show den_l_fields _ ⟨[some (.int 7), some (.cel k)], cs⟩
    unfold den_l_fields ex_l_fields_1 dXF
    k_search Int.reduceEq
    refine st (b := true) rfl ?_
    k_search Int.reduceEq
    exact ⟨_, hk, (by dsimp only; decide +kernel), _, rfl, _, by rfl, q⟩
  | 8, _ =>
    cases hx
    show den_l_fields _ ⟨[some (.int 8), some (.cel k)], cs⟩
    unfold den_l_fields ex_l_fields_1 dXF
    k_search Int.reduceEq
    refine st (b := false) rfl ?_
    k_search Int.reduceEq
    exact ⟨_, hk, (by dsimp only; decide +kernel), _, rfl, _, by rfl, _, hk, (by dsimp only; decide +kernel), _, rfl, _, by rfl, q⟩
  | 9, _ =>
    cases hx
    show den_l_fields _ ⟨[some (.int 9), some (.cel k)], cs⟩
    unfold den_l_fields ex_l_fields_1 dXF
    k_search Int.reduceEq
    refine st (b := false) rfl ?_
    k_search Int.reduceEq
    exact ⟨_, hk, (by dsimp only; decide +kernel), _, rfl, _, by rfl, q⟩
  | 10, _ =>
    cases hx
    show den_l_fields _ ⟨[some (.int 10), some (.cel k)], cs⟩
    unfold den_l_fields ex_l_fields_1 dXF
    k_search Int.reduceEq
    refine st (b := false) rfl ?_
    k_search Int.reduceEq
    exact ⟨_, hk, (by dsimp only; decide +kernel), _, rfl, _, by rfl, q⟩
  | 11, _ =>
    cases hx
    show den_l_fields _ ⟨[some (.int 11), some (.cel k)], cs⟩
    unfold den_l_fields ex_l_fields_1 dXF
    k_search Int.reduceEq
    refine st (b := false) rfl ?_
    k_search Int.reduceEq
    exact ⟨_, hk, (by dsimp only; decide +kernel), _, rfl, _, by rfl, _, hk, (by dsimp only; decide +kernel), _, rfl, _, by rfl, q⟩
  | 12, _ =>
    cases hx
    show den_l_fields _ ⟨[some (.int 12), some (.cel k)], cs⟩
    unfold den_l_fields ex_l_fields_1 dXF
    k_search Int.reduceEq
    refine st (b := false) rfl ?_
    k_search Int.reduceEq
    exact ⟨_, hk, (by dsimp only; decide +kernel), _, rfl, _, by rfl, q⟩
  | 13, _ =>
    cases hx
    show den_l_fields _ ⟨[some (.int 13), some (.cel k)], cs⟩
    unfold den_l_fields ex_l_fields_1 dXF
    k_search Int.reduceEq
    refine st (b := false) rfl ?_
    k_search Int.reduceEq
    exact ⟨_, hk, (by dsimp only; decide +kernel), _, rfl, _, by rfl, q⟩
  | 14, _ =>
    cases hx
    show den_l_fields _ ⟨[some (.int 14), some (.cel k)], cs⟩
    unfold den_l_fields ex_l_fields_1 dXF
    k_search Int.reduceEq
    refine st (b := false) rfl ?_
    k_search Int.reduceEq
    exact ⟨_, hk, (by dsimp only; decide +kernel), _, rfl, _, by rfl, q⟩
/-! ### the law -/
def vs11 : List D := [.non, .int 7, .str "calls", .bl true, .lst [.int 1], .tup [.int 2, .str "x"], .dic [], .int 0, .int (-1), .str "", .int (10 ^ 30)]
def VOk (d : D) : Prop := Kd 3 d ∧ wq d ≤ 400
theorem vs_ok : ∀ d ∈ vs11, VOk d := by
  intro d hd
  simp only [vs11, List.mem_cons, List.not_mem_nil, or_false] at hd
  have str : ∀ {s : String}, ((Str.ofString s).cps.toList.all fun c => Nat.blt c (16 ^ 8)) = true → ∀ c ∈ (Str.ofString s).cps.toList, c < 16 ^ 8 := fun h c hc => Nat.le_of_ble_eq_true (List.all_eq_true.mp h c hc)
  have two : ∀ {P : D → Prop} {a b : D}, P a → P b → ∀ e ∈ [a, b], P e := fun ha hb => List.forall_mem_cons.mpr ⟨ha, List.forall_mem_cons.mpr ⟨hb, fun _ h => absurd h List.not_mem_nil⟩⟩
  rcases hd with rfl | rfl | rfl | rfl | rfl | rfl | rfl | rfl | rfl | rfl | rfl
  · exact ⟨True.intro, by decide +kernel⟩
  · exact ⟨⟨by decide, by decide⟩, by decide +kernel⟩
  · exact ⟨str (s := "calls") (by decide +kernel), by decide +kernel⟩
  · exact ⟨True.intro, by decide +kernel⟩
  · exact ⟨List.forall_mem_cons.mpr ⟨⟨by decide, by decide⟩, fun _ h => absurd h List.not_mem_nil⟩, by decide +kernel⟩
  · exact ⟨two ⟨by decide, by decide⟩ (str (s := "x") (by decide +kernel)), by decide +kernel⟩
  · exact ⟨rfl, by decide +kernel⟩
  · exact ⟨⟨by decide, by decide⟩, by decide +kernel⟩
  · exact ⟨⟨by decide, by decide⟩, by decide +kernel⟩
  · exact ⟨str (s := "") (by decide +kernel), by decide +kernel⟩
  · exact ⟨⟨by decide, by decide⟩, by decide +kernel⟩
theorem vl_mem {i : Nat} {a b : D} (ha : VOk a) (hb : VOk b) : (∀ d ∈ vl15 i a b, VOk d) ∧ (vl15 i a b).length ≤ 2 := by
  have one : ∀ {l : List D}, (∀ d ∈ l, VOk d) → ∀ d ∈ a :: l, VOk d := fun h => List.forall_mem_cons.mpr ⟨ha, h⟩
  have none_ : ∀ d ∈ ([] : List D), VOk d := fun _ h => absurd h List.not_mem_nil
  unfold vl15
  split
  · exact ⟨none_, by decide⟩
  · split
    · exact ⟨one (List.forall_mem_cons.mpr ⟨hb, none_⟩), Nat.le_refl _⟩
    · exact ⟨one none_, Nat.le_succ _⟩
theorem rep_vl {i : Nat} {a b : D} {c : Z} {R : D → Z → Prop} {S : Str} (ha : VOk a) (hb : VOk b) (e : (pyE (.lst (vl15 i a b))).shown = S) (q : R (.str S) c) : fReprF [.lst (vl15 i a b)] c R := by
  obtain ⟨h1, h2⟩ := vl_mem (i := i) ha hb
  have hk : Kd 4 (.lst (vl15 i a b)) := fun e he => (h1 e he).1
  obtain ⟨k1, k2⟩ := Kd.ok _ hk
  refine ⟨k1, by omega, ?_, by rw [e]; exact q⟩
  have := wqA_le fun e he => (h1 e he).2
  have : (vl15 i a b).length * (400 + 2) ≤ 2 * (400 + 2) := Nat.mul_le_mul_right _ h2
  show 3 + wqA _ ≤ _
  rw [sizeLine_eq]; omega
/-! ### the law, walked -/
def sem_p_law : Sem := fun ds cs R => ∃ ns : List Int, ds = [.slst (ns.map .int)] ∧ ns.length ≤ 63 ∧ ∀ cs', R (.bl true) cs'
theorem len_p_law : ∀ ds cs R, sem_p_law ds cs R → ds.length = 1 := by rintro ds cs R ⟨n, rfl, _⟩; rfl
theorem end_law : ∀ (ns : List Int) (R : D → Cells → Prop), ns.length ≤ 63 → (∀ cs, R (.bl true) cs) → sem_p_law [.slst (ns.map D.int)] (fun _ => none) R := fun ns R h q => ⟨ns, rfl, h, q⟩
def ex_p_law_1 : DE :=
  (dLc (iEnu (dCons (dFn 1 sem_l_kinds (fun ds _ => ds) (dCons (dVar 7) dNil)) dNil)) (.tup [10, 11]) (dTru (dVar 11)) (dVar 10))
def te_p_law_1 : DT :=
  (dOrT (dTB (dBin dNe (dVar 9) (dLst (dCons (dVar 6) dNil)))) (dTB (dBin dNe (dFn 1 sem_l_kinds (fun ds _ => ds) (dCons (dVar 8) dNil)) (dFn 1 sem_l_kinds (fun ds _ => ds) (dCons (dVar 7) dNil)))))
def if_p_law_1 : DS :=
  (sIf (dTB (dBin dGt (dVar 6) (dC (.int 11)))) (sAsg (dLst (dCons (dC (.bl false)) (dCons (dC (.bl false)) (dCons (dBin dLt (dVar 6) (dC (.int 14))) (dCons (dC (.bl true)) (dCons (dC (.bl false)) (dCons (dC (.bl false)) (dCons (dC (.bl false)) dNil)))))))) 12) sNext)
def te_p_law_2 : DT :=
  (dOrT (dTB (dBin dNe (dFn 1 sem_l_bases (fun ds _ => ds) (dCons (dVar 7) dNil)) (dVar 12))) (dTB (dBin dNe (dCall fReprF (dCons (dFn 2 sem_l_fields (fun ds _ => ds) (dCons (dVar 6) (dCons (dVar 7) dNil))) dNil)) (dCall fReprF (dCons (dVar 13) dNil)))))
def bd_p_law_1 : DS :=
  (sSeq (sPar 7 8 (dCons (dFn 3 sem_l_made (fun ds _ => ds) (dCons (dVar 6) (dCons (dVar 4) (dCons (dVar 5) dNil)))) (dCons (dFn 3 sem_l_made (fun ds _ => ds) (dCons (dVar 6) (dCons (dVar 5) (dCons (dVar 4) dNil)))) dNil)))
    (sSeq (sAsg ex_p_law_1 9)
    (sSeq (sIf te_p_law_1 (sRet (dC (.bl false))) sNext)
    (sSeq (sAsg (dLst (dCons (dC (.bl true)) (dCons (dC (.bl true)) (dCons (dC (.bl false)) (dCons (dC (.bl false)) (dCons (dC (.bl false)) (dCons (dC (.bl false)) (dCons (dC (.bl false)) dNil)))))))) 12)
    (sSeq if_p_law_1
    (sSeq (sAsg (dSl (dLst (dCons (dVar 4) (dCons (dVar 5) dNil))) dNoPart (dPart (dCall fLen (dCons (dFn 2 sem_l_fields (fun ds _ => ds) (dCons (dVar 6) (dCons (dVar 7) dNil))) dNil)))) 13)
    (sSeq (sIf te_p_law_2 (sRet (dC (.bl false))) sNext)
    (sIf (dTB (dBin dNe (dCall fReprF (dCons (dFn 2 sem_l_fields (fun ds _ => ds) (dCons (dVar 6) (dCons (dVar 8) dNil))) dNil)) (dCall fReprF (dCons (dSl (dLst (dCons (dVar 5) (dCons (dVar 4) dNil))) dNoPart (dPart (dCall fLen (dCons (dVar 13) dNil)))) dNil)))) (sRet (dC (.bl false))) sNext))))))))
def bd_p_law_2 : DS :=
  (sSeq (sAsg (dFn 2 sem_l_pool (fun ds _ => ds) (dCons (dVar 0) (dCons (dVar 1) dNil))) 2)
    (sSeq (sAsg (dLst (dCons (dC .non) (dCons (dC (.int 7)) (dCons (dC (.str "calls")) (dCons (dC (.bl true)) (dCons (dLst (dCons (dC (.int 1)) dNil)) (dCons (dTup (dCons (dC (.int 2)) (dCons (dC (.str "x")) dNil))) (dCons dDNew (dCons (dC (.int 0)) (dCons (dNeg (dC (.int 1))) (dCons (dC (.str "")) (dCons (dBin dPow (dC (.int 10)) (dC (.int 30))) dNil)))))))))))) 3)
    (sSeq (sPar 4 5 (dCons (dBin dIxF (dVar 3) (dFn 2 sem_l_take (fun ds _ => ds) (dCons (dVar 2) (dCons (dC (.int 11)) dNil)))) (dCons (dBin dIxF (dVar 3) (dFn 2 sem_l_take (fun ds _ => ds) (dCons (dVar 2) (dCons (dC (.int 11)) dNil)))) dNil)))
    (sFor (iRng1 (dCons (dC (.int 15)) dNil)) (gNm 6) bd_p_law_1))))
/-- law: slots 0=_law_script 1=_law_k 2=_law_pool_here 3=_law_some 4=_law_one 5=_law_other 6=_law_number 7=_law_made_here 8=_law_second 9=_law_kinds_here 10=_law_at 11=_law_is_so 12=_law_due 13=_law_values -/
def den_p_law : DS :=
  (sSeq (sFor (iRng1 (dCons (dCall fMax (dCons (dC (.int 1)) (dCons (dCall fMin (dCons (dCall fLen (dCons (dVar 0) dNil)) (dCons (dC (.int 10)) dNil))) dNil))) dNil)) (gNm 1) bd_p_law_2)
    (sRet (dC (.bl true))))
theorem lc_fG {α : Type} {k : Nat} {g : TgN} {tt : DT} {de : DE} {env : List (Option D)} {a b : α → D} {p : α → Bool} : ∀ {L : List α} {acc : List D} {cs : Cells} {R : List D → Cells → Prop}, cs k = none → (∀ x ∈ L, ∃ env', tgSet g (a x) env = some env' ∧ (∀ (cs : Cells) (Q : Bool → Z → Prop), Q (p x) ⟨env', cs⟩ → tt ⟨env', cs⟩ Q) ∧ ∀ (cs : Cells) (Q : D → Z → Prop), p x = true → Q (b x) ⟨env', cs⟩ → de ⟨env', cs⟩ Q) →
    acc.length + L.length ≤ 16777216 → R (acc ++ (L.filter p).map b) cs → lcGo k g tt de env (L.map a) acc cs R
  | [], acc, cs, R, hk, h, hl, q => by rw [List.filter_nil, List.map_nil, List.append_nil] at q; exact q
  | x :: L, acc, cs, R, hk, h, hl, q => by
    rw [List.length_cons] at hl
    obtain ⟨env', e1, h1, h2⟩ := h x List.mem_cons_self
    refine ⟨env', e1, h1 _ _ ?_⟩
    cases hp : p x with
    | true =>
      refine h2 _ _ hp ⟨put_same, by rw [sizeLine_eq]; omega, ?_⟩
      rw [del_put hk]
      refine lc_fG (a := a) (b := b) hk (fun y hy => h y (List.mem_cons_of_mem _ hy)) (by rw [List.length_append, List.length_singleton]; omega) ?_
      rw [List.append_assoc]
      rw [List.filter_cons, if_pos hp] at q
      exact q
    | false =>
      refine ⟨put_same, ?_⟩
      rw [del_put hk]
      refine lc_fG (a := a) (b := b) hk (fun y hy => h y (List.mem_cons_of_mem _ hy)) (by omega) ?_
      rw [List.filter_cons, if_neg (by rw [hp]; exact Bool.false_ne_true)] at q
      exact q
theorem Pool.frd {cs cs' : Cells} {j : Nat} (h : Pool cs j) (f : Frd cs cs') : Pool cs' j := by
  obtain ⟨a, b, e, r⟩ := h
  exact ⟨a, b, f j _ e, r⟩
theorem Is15.frd {cs cs' : Cells} {k i : Nat} {a b : D} (h : Is15 cs k i a b) (f : Frd cs cs') : Is15 cs' k i a b := by
  obtain ⟨x, e, h⟩ := h
  exact ⟨x, e, f _ _ h⟩
theorem dt_kd {i : Nat} : Dt 1 (.lst (kd15 i)) := fun e he => by
  obtain ⟨j, _, rfl⟩ := List.mem_map.mp he
  exact True.intro
theorem dt_bs {i : Nat} : Dt 1 (.lst (bs15 i)) := fun e he => by
  simp only [bs15, List.mem_cons, List.not_mem_nil, or_false] at he
  rcases he with rfl | rfl | rfl | rfl | rfl | rfl | rfl <;> exact True.intro
theorem cut_vl {i : Nat} {a b : D} : cutD [a, b] none (some ((vl15 i a b).length : Int)) = vl15 i a b := by
  unfold vl15
  split
  · rfl
  · split <;> rfl
theorem vl_len {i : Nat} {a b c d : D} : (vl15 i a b).length = (vl15 i c d).length := by
  unfold vl15
  split
  · rfl
  · split <;> rfl
theorem one_no {i : Nat} {a b : D} {DD : DEnds} {e0 e1 e2 e3 e7 e8 e9 e10 e11 e12 e13 : Option D} {cs : Cells} (hi : i < 15) (ha : VOk a) (hb : VOk b)
    (q : ∀ e7 e8 e9 e10 e11 e12 e13 cs', Frd cs cs' → DD.nx ⟨[e0, e1, e2, e3, some a, some b, some (.int (i : Int)), e7, e8, e9, e10, e11, e12, e13], cs'⟩) :
    bd_p_law_1 DD ⟨[e0, e1, e2, e3, some a, some b, some (.int (i : Int)), e7, e8, e9, e10, e11, e12, e13], cs⟩ := by
  obtain ⟨S1, h1⟩ : ∃ S, (pyE (.lst (vl15 i a b))).shown = S := ⟨_, rfl⟩
  obtain ⟨S2, h2⟩ : ∃ S, (pyE (.lst (vl15 i b a))).shown = S := ⟨_, rfl⟩
  unfold bd_p_law_1
  generalize hT2 : te_p_law_2 = T2
  generalize hT1 : te_p_law_1 = T1
  generalize hI1 : if_p_law_1 = I1
  generalize hE1 : ex_p_law_1 = E1
  walk_at "dl"
  refine ⟨i, a, b, rfl, hi, fun k1 cs1 f1 x1 => ?_⟩
  refine ⟨i, b, a, rfl, hi, fun k2 cs2 f2 x2 => ?_⟩
  have y1 : Is15 cs2 k1 i a b := Is15.frd x1 f2
  have fr := f1.trans f2
  subst hE1
  unfold ex_p_law_1 dLc
  walk_at "dl"
  refine ⟨k1, i, a, b, rfl, hi, y1, ?_⟩
  refine ⟨_, rfl, fun kk hkk => ?_⟩
  rw [show enumD (kd15 i) = (List.range 15).map fun j : Nat => D.tup [.int (j : Int), .bl (decide (i = j))] from rfl]
  refine lc_fG (g := .tup [10, 11]) (a := fun j : Nat => D.tup [.int (j : Int), .bl (decide (i = j))]) (p := fun j => decide (i = j)) (b := fun j : Nat => D.int (j : Int)) hkk (fun j hj => ⟨_, rfl, fun c Q h => ?_, fun c Q _ h => ⟨_, rfl, h⟩⟩) (by decide) ?_
  · unfold dTru
    exact ⟨_, rfl, _, rfl, h⟩
  have fil : (List.range 15).filter (fun j => decide (i = j)) = [i] := (by decide +kernel : ∀ i < 15, (List.range 15).filter (fun j => decide (i = j)) = [i]) i hi
  rw [fil]
  subst hT1
  unfold te_p_law_1
  walk_at "dl"
  refine gen_same (k := 1) (fun e he => by rw [List.mem_singleton.mp he]; exact True.intro) (by decide) ?_
  walk_at "dl"
  refine ⟨k2, i, b, a, rfl, hi, x2, k1, i, a, b, rfl, hi, y1, ?_⟩
  walk_at "dl"
  refine gen_same (k := 1) dt_kd (by decide) ?_
  walk_at "dl"
  subst hI1
  unfold if_p_law_1
  k_search e_if
  refine ite_both (fun h => ?_) (fun h => ?_)
  · have e : ([.bl false, .bl false, .bl (decide ((i : Int) < 14)), .bl true, .bl false, .bl false, .bl false] : List D) = bs15 i := by
      unfold bs15
      rw [decide_eq_false (show ¬ i < 12 by omega), show decide (12 ≤ i ∧ i < 14) = decide ((i : Int) < 14) from decide_eq_decide.mpr (by omega), decide_eq_true (show 12 ≤ i by omega)]
    rw [e]
    refine ⟨k1, i, a, b, rfl, hi, y1, ?_⟩
    k_search e_len_l
    subst hT2
    unfold te_p_law_2
    walk_at "dl"
    rw [cut_vl]
    refine ⟨k1, i, a, b, rfl, hi, y1, ?_⟩
    walk_at "dl"
    refine gen_same (k := 1) dt_bs (by decide) ?_
    walk_at "dl"
    refine ⟨k1, i, a, b, rfl, hi, y1, rep_vl ha hb h1 ?_⟩
    walk_at "dl"
    refine rep_vl ha hb h1 ?_
    rw [e_ne_ss, decide_eq_true rfl]
    walk_at "dl"
    refine ⟨k2, i, b, a, rfl, hi, x2, rep_vl hb ha h2 ?_⟩
    walk_at "dl"
    rw [vl_len (a := a) (b := b) (c := b) (d := a), cut_vl]
    refine rep_vl hb ha h2 ?_
    rw [e_ne_ss, decide_eq_true rfl]
    exact q _ _ _ _ _ _ _ _ fr
  · have e : ([.bl true, .bl true, .bl false, .bl false, .bl false, .bl false, .bl false] : List D) = bs15 i := by
      unfold bs15
      rw [decide_eq_true (show i < 12 by omega), decide_eq_false (show ¬ (12 ≤ i ∧ i < 14) by omega), decide_eq_false (show ¬ 12 ≤ i by omega)]
    rw [e]
    refine ⟨k1, i, a, b, rfl, hi, y1, ?_⟩
    k_search e_len_l
    subst hT2
    unfold te_p_law_2
    walk_at "dl"
    rw [cut_vl]
    refine ⟨k1, i, a, b, rfl, hi, y1, ?_⟩
    walk_at "dl"
    refine gen_same (k := 1) dt_bs (by decide) ?_
    walk_at "dl"
    refine ⟨k1, i, a, b, rfl, hi, y1, rep_vl ha hb h1 ?_⟩
    walk_at "dl"
    refine rep_vl ha hb h1 ?_
    rw [e_ne_ss, decide_eq_true rfl]
    walk_at "dl"
    refine ⟨k2, i, b, a, rfl, hi, x2, rep_vl hb ha h2 ?_⟩
    walk_at "dl"
    rw [vl_len (a := a) (b := b) (c := b) (d := a), cut_vl]
    refine rep_vl hb ha h2 ?_
    rw [e_ne_ss, decide_eq_true rfl]
    exact q _ _ _ _ _ _ _ _ fr
theorem okd_p_law : ∀ ds cs R, sem_p_law ds cs R → den_p_law { nx := fun c => R .non c.cs, rt := R } ⟨env0 14 ds, cs⟩ := by
  rintro ds cs R ⟨ns, rfl, hl, q⟩
  unfold den_p_law
  obtain ⟨m, em, m0, m1⟩ := turns (n := ns.length) (w := 10) (by decide)
  generalize hX : bd_p_law_2 = X
  walk_at "dl"
  k_search (List.length_map (as := ns) D.int)
  simp only [gt_iff_lt] at em
  rw [em]
  refine ⟨by omega, by omega, fun _ c => ∃ e2 e3 e4 e5 e6 e7 e8 e9 e10 e11 e12 e13 cs', ∃ e1, c = ⟨[some (.slst (ns.map .int)), e1, e2, e3, e4, e5, e6, e7, e8, e9, e10, e11, e12, e13], cs'⟩, ⟨_, _, _, _, _, _, _, _, _, _, _, _, _, _, rfl⟩, ?_, ?_⟩
  case refine_2 =>
    rintro c2 ⟨e2, e3, e4, e5, e6, e7, e8, e9, e10, e11, e12, e13, cs', e1, rfl⟩
    exact q _
  rintro i d c2 hd ⟨e2, e3, e4, e5, e6, e7, e8, e9, e10, e11, e12, e13, cs', e1, rfl⟩
  obtain ⟨hi, rfl⟩ := rangeD_get hd
  subst hX
  unfold bd_p_law_2
  generalize hB1 : bd_p_law_1 = B1
  walk_at "dl"
  refine ⟨ns, _, rfl, ⟨by omega, by omega⟩, hl, fun j cs2 hj hp b1 => ?_⟩
  refine ⟨⟨by decide, by decide, by decide⟩, ?_⟩
  k_search sem_l_take
  refine ⟨by decide, hp, fun r cs3 r0 r1 hp3 b3 => ?_⟩
  obtain ⟨a, ea, ha⟩ := at_all (xs := vs11) (P := VOk) r0 r1 vs_ok
  refine ⟨a, ea, ?_⟩
  refine ⟨by decide, hp3, fun s cs4 s0 s1 hp4 b4 => ?_⟩
  obtain ⟨b, eb, hb⟩ := at_all (xs := vs11) (P := VOk) s0 s1 vs_ok
  refine ⟨b, eb, ?_⟩
  subst hB1
  refine ⟨by decide, by decide, fun _ z => ∃ e6 e7 e8 e9 e10 e11 e12 e13 cs', z = ⟨[some (.slst (ns.map .int)), some (.int (0 + (i : Int))), some (.cel j), some (.lst vs11), some a, some b, e6, e7, e8, e9, e10, e11, e12, e13], cs'⟩, ⟨_, _, _, _, _, _, _, _, _, rfl⟩, ?_, ?_⟩
  · rintro n d c3 hd3 ⟨e6, e7, e8, e9, e10, e11, e12, e13, cs5, rfl⟩
    obtain ⟨hn, rfl⟩ := rangeD_get hd3
    rw [Int.zero_add]
    exact one_no (by simpa using hn) ha hb fun e7 e8 e9 e10 e11 e12 e13 cs6 f => ⟨_, _, _, _, _, _, _, _, _, rfl⟩
  · rintro c3 ⟨e6, e7, e8, e9, e10, e11, e12, e13, cs5, rfl⟩
    exact ⟨_, _, _, _, _, _, _, _, _, _, _, _, _, _, rfl⟩
end My
open PySem PySem.W PyProof.Rows
namespace My
open L2 DL
def top (i : Nat) : Stmt := PySem.Challenge.pw_boundgate_k05_refusals_apart.main.body.getD i (.Pass ⟨0, 0, 0, 0⟩)
abbrev st_l_pool : Stmt := top 18
abbrev st_l_take : Stmt := top 19
abbrev st_l_kinds : Stmt := top 20
abbrev st_l_bases : Stmt := top 21
abbrev st_l_made : Stmt := top 22
abbrev st_l_fields : Stmt := top 23
abbrev st_p_law : Stmt := top 24
theorem sc_l_pool : FnScope ["_law_script", "_law_k", "_law_cell", "_law_great", "_law_mixed"] ["_law_script", "_law_k"] (defScope st_l_pool) := ⟨rfl, rfl, rfl, by decide +kernel, rfl, by decide +kernel, by decide +kernel⟩
theorem sc_l_take : FnScope ["_law_pool_here", "_law_many", "_law_found"] ["_law_pool_here", "_law_many"] (defScope st_l_take) := ⟨rfl, rfl, rfl, by decide +kernel, rfl, by decide +kernel, by decide +kernel⟩
theorem sc_l_kinds : FnScope ["_law_e", "_law_found"] ["_law_e"] (defScope st_l_kinds) := ⟨rfl, rfl, rfl, by decide +kernel, rfl, by decide +kernel, by decide +kernel⟩
theorem sc_l_bases : FnScope ["_law_e", "_law_found"] ["_law_e"] (defScope st_l_bases) := ⟨rfl, rfl, rfl, by decide +kernel, rfl, by decide +kernel, by decide +kernel⟩
theorem sc_l_made : FnScope ["_law_number", "_law_one", "_law_other", "_law_some"] ["_law_number", "_law_one", "_law_other"] (defScope st_l_made) := ⟨rfl, rfl, rfl, by decide +kernel, rfl, by decide +kernel, by decide +kernel⟩
theorem sc_l_fields : FnScope ["_law_number", "_law_e"] ["_law_number", "_law_e"] (defScope st_l_fields) := ⟨rfl, rfl, rfl, by decide +kernel, rfl, by decide +kernel, by decide +kernel⟩
theorem sc_p_law : FnScope ["_law_script", "_law_k", "_law_pool_here", "_law_some", "_law_one", "_law_other", "_law_number", "_law_made_here", "_law_second", "_law_kinds_here", "_law_at", "_law_is_so", "_law_due", "_law_values"] ["_law_script"] (defScope st_p_law) := ⟨rfl, rfl, rfl, by decide +kernel, rfl, by decide +kernel, by decide +kernel⟩
abbrev sti_NoProgram : Stmt := clsKid (top 8) 0
theorem sci_NoProgram : FnScope ["self", "number"] ["self", "number"] (defScope sti_NoProgram) := ⟨rfl, rfl, rfl, by decide +kernel, rfl, by decide +kernel, by decide +kernel⟩
abbrev sti_NoText : Stmt := clsKid (top 9) 0
theorem sci_NoText : FnScope ["self", "number"] ["self", "number"] (defScope sti_NoText) := ⟨rfl, rfl, rfl, by decide +kernel, rfl, by decide +kernel, by decide +kernel⟩
abbrev sti_NoContract : Stmt := clsKid (top 10) 0
theorem sci_NoContract : FnScope ["self", "part", "number"] ["self", "part", "number"] (defScope sti_NoContract) := ⟨rfl, rfl, rfl, by decide +kernel, rfl, by decide +kernel, by decide +kernel⟩
abbrev sti_NoInput : Stmt := clsKid (top 11) 0
theorem sci_NoInput : FnScope ["self", "part"] ["self", "part"] (defScope sti_NoInput) := ⟨rfl, rfl, rfl, by decide +kernel, rfl, by decide +kernel, by decide +kernel⟩
abbrev sti_TooMany : Stmt := clsKid (top 12) 0
theorem sci_TooMany : FnScope ["self", "size"] ["self", "size"] (defScope sti_TooMany) := ⟨rfl, rfl, rfl, by decide +kernel, rfl, by decide +kernel, by decide +kernel⟩
abbrev sti_NotLet : Stmt := clsKid (top 13) 0
theorem sci_NotLet : FnScope ["self", "word", "way"] ["self", "word", "way"] (defScope sti_NotLet) := ⟨rfl, rfl, rfl, by decide +kernel, rfl, by decide +kernel, by decide +kernel⟩
abbrev sti_NoCall : Stmt := clsKid (top 14) 0
theorem sci_NoCall : FnScope ["self", "name"] ["self", "name"] (defScope sti_NoCall) := ⟨rfl, rfl, rfl, by decide +kernel, rfl, by decide +kernel, by decide +kernel⟩
abbrev sti_NoName : Stmt := clsKid (top 15) 0
theorem sci_NoName : FnScope ["self", "name"] ["self", "name"] (defScope sti_NoName) := ⟨rfl, rfl, rfl, by decide +kernel, rfl, by decide +kernel, by decide +kernel⟩
abbrev sti_NoShelf : Stmt := clsKid (top 16) 0
theorem sci_NoShelf : FnScope ["self", "name"] ["self", "name"] (defScope sti_NoShelf) := ⟨rfl, rfl, rfl, by decide +kernel, rfl, by decide +kernel, by decide +kernel⟩
structure Ad where
  a_l_pool : Addr
  fd_l_pool : FuncData
  a_l_take : Addr
  fd_l_take : FuncData
  a_l_kinds : Addr
  fd_l_kinds : FuncData
  a_l_bases : Addr
  fd_l_bases : FuncData
  a_l_made : Addr
  fd_l_made : FuncData
  a_l_fields : Addr
  fd_l_fields : FuncData
  a_p_law : Addr
  fd_p_law : FuncData
  x_Bare : Addr
  x_GateError : Addr
  x_NoBit : Addr
  x_NoCall : Addr
  x_NoContract : Addr
  x_NoInput : Addr
  x_NoName : Addr
  x_NoProgram : Addr
  x_NoRow : Addr
  x_NoShelf : Addr
  x_NoTable : Addr
  x_NoText : Addr
  x_NoWord : Addr
  x_NotLet : Addr
  x_Shut : Addr
  x_TooMany : Addr
  i_NoProgram : Addr
  fi_NoProgram : FuncData
  i_NoText : Addr
  fi_NoText : FuncData
  i_NoContract : Addr
  fi_NoContract : FuncData
  i_NoInput : Addr
  fi_NoInput : FuncData
  i_TooMany : Addr
  fi_TooMany : FuncData
  i_NotLet : Addr
  fi_NotLet : FuncData
  i_NoCall : Addr
  fi_NoCall : FuncData
  i_NoName : Addr
  fi_NoName : FuncData
  i_NoShelf : Addr
  fi_NoShelf : FuncData
structure Txt (K : PySem.W.Frag) (mg : Str → Option Value) (A : Ad) : Prop where
  F_l_pool : FunD K "_law_pool" "_law_pool" (defArgs st_l_pool) (defBody st_l_pool) (defScope st_l_pool) [] [] A.a_l_pool A.fd_l_pool
  m_l_pool : mg "_law_pool" = some (.ref A.a_l_pool)
  F_l_take : FunD K "_law_take" "_law_take" (defArgs st_l_take) (defBody st_l_take) (defScope st_l_take) [] [] A.a_l_take A.fd_l_take
  m_l_take : mg "_law_take" = some (.ref A.a_l_take)
  F_l_kinds : FunD K "_law_kinds" "_law_kinds" (defArgs st_l_kinds) (defBody st_l_kinds) (defScope st_l_kinds) [] [] A.a_l_kinds A.fd_l_kinds
  m_l_kinds : mg "_law_kinds" = some (.ref A.a_l_kinds)
  F_l_bases : FunD K "_law_bases" "_law_bases" (defArgs st_l_bases) (defBody st_l_bases) (defScope st_l_bases) [] [] A.a_l_bases A.fd_l_bases
  m_l_bases : mg "_law_bases" = some (.ref A.a_l_bases)
  F_l_made : FunD K "_law_made" "_law_made" (defArgs st_l_made) (defBody st_l_made) (defScope st_l_made) [] [] A.a_l_made A.fd_l_made
  m_l_made : mg "_law_made" = some (.ref A.a_l_made)
  F_l_fields : FunD K "_law_fields" "_law_fields" (defArgs st_l_fields) (defBody st_l_fields) (defScope st_l_fields) [] [] A.a_l_fields A.fd_l_fields
  m_l_fields : mg "_law_fields" = some (.ref A.a_l_fields)
  F_p_law : FunD K "law" "law" (defArgs st_p_law) (defBody st_p_law) (defScope st_p_law) [] [] A.a_p_law A.fd_p_law
  m_p_law : mg "law" = some (.ref A.a_p_law)
  b_IndexError : mg "IndexError" = none
  b_KeyError : mg "KeyError" = none
  b_LookupError : mg "LookupError" = none
  b_OverflowError : mg "OverflowError" = none
  b_RuntimeError : mg "RuntimeError" = none
  b_ValueError : mg "ValueError" = none
  b_abs : mg "abs" = none
  b_enumerate : mg "enumerate" = none
  b_int : mg "int" = none
  b_isinstance : mg "isinstance" = none
  b_len : mg "len" = none
  b_max : mg "max" = none
  b_min : mg "min" = none
  b_range : mg "range" = none
  b_repr : mg "repr" = none
  b_sum : mg "sum" = none
  g_Bare : mg "Bare" = some (.ref A.x_Bare)
  n_Bare : ClsK K "Bare" A.x_Bare
  g_GateError : mg "GateError" = some (.ref A.x_GateError)
  n_GateError : ClsK K "GateError" A.x_GateError
  g_NoBit : mg "NoBit" = some (.ref A.x_NoBit)
  n_NoBit : ClsK K "NoBit" A.x_NoBit
  g_NoCall : mg "NoCall" = some (.ref A.x_NoCall)
  n_NoCall : ClsK K "NoCall" A.x_NoCall
  g_NoContract : mg "NoContract" = some (.ref A.x_NoContract)
  n_NoContract : ClsK K "NoContract" A.x_NoContract
  g_NoInput : mg "NoInput" = some (.ref A.x_NoInput)
  n_NoInput : ClsK K "NoInput" A.x_NoInput
  g_NoName : mg "NoName" = some (.ref A.x_NoName)
  n_NoName : ClsK K "NoName" A.x_NoName
  g_NoProgram : mg "NoProgram" = some (.ref A.x_NoProgram)
  n_NoProgram : ClsK K "NoProgram" A.x_NoProgram
  g_NoRow : mg "NoRow" = some (.ref A.x_NoRow)
  n_NoRow : ClsK K "NoRow" A.x_NoRow
  g_NoShelf : mg "NoShelf" = some (.ref A.x_NoShelf)
  n_NoShelf : ClsK K "NoShelf" A.x_NoShelf
  g_NoTable : mg "NoTable" = some (.ref A.x_NoTable)
  n_NoTable : ClsK K "NoTable" A.x_NoTable
  g_NoText : mg "NoText" = some (.ref A.x_NoText)
  n_NoText : ClsK K "NoText" A.x_NoText
  g_NoWord : mg "NoWord" = some (.ref A.x_NoWord)
  n_NoWord : ClsK K "NoWord" A.x_NoWord
  g_NotLet : mg "NotLet" = some (.ref A.x_NotLet)
  n_NotLet : ClsK K "NotLet" A.x_NotLet
  g_Shut : mg "Shut" = some (.ref A.x_Shut)
  n_Shut : ClsK K "Shut" A.x_Shut
  g_TooMany : mg "TooMany" = some (.ref A.x_TooMany)
  n_TooMany : ClsK K "TooMany" A.x_TooMany
  X_NoWord : ExN K mg "NoWord" A.x_NoWord
  X_NoBit : ExN K mg "NoBit" A.x_NoBit
  X_NoTable : ExN K mg "NoTable" A.x_NoTable
  X_Bare : ExN K mg "Bare" A.x_Bare
  X_Shut : ExN K mg "Shut" A.x_Shut
  X_NoRow : ExN K mg "NoRow" A.x_NoRow
  E_NoWord : ExcC K A.x_NoWord
  E_NoBit : ExcC K A.x_NoBit
  E_NoTable : ExcC K A.x_NoTable
  E_Bare : ExcC K A.x_Bare
  E_Shut : ExcC K A.x_Shut
  E_NoRow : ExcC K A.x_NoRow
  E_NoProgram : ExcC K A.x_NoProgram
  E_NoText : ExcC K A.x_NoText
  E_NoContract : ExcC K A.x_NoContract
  E_NoInput : ExcC K A.x_NoInput
  E_TooMany : ExcC K A.x_TooMany
  E_NotLet : ExcC K A.x_NotLet
  E_NoCall : ExcC K A.x_NoCall
  E_NoName : ExcC K A.x_NoName
  E_NoShelf : ExcC K A.x_NoShelf
  I_NoProgram : FunD K "__init__" "NoProgram.__init__" (defArgs sti_NoProgram) (defBody sti_NoProgram) (defScope sti_NoProgram) [] [] A.i_NoProgram A.fi_NoProgram
  ic_NoProgram : PySem.W.findIn K (.ref A.x_NoProgram) "__init__" = some (some (.ref A.i_NoProgram))
  it_NoProgram : PySem.W.typeIn K (.ref A.i_NoProgram) = some (.type "function")
  O_NoProgram : OexC K A.x_NoProgram
  no_NoProgram_number : PySem.W.findIn K (.ref A.x_NoProgram) "number" = some none
  xf_NoProgram : XfC K A.x_NoProgram
  I_NoText : FunD K "__init__" "NoText.__init__" (defArgs sti_NoText) (defBody sti_NoText) (defScope sti_NoText) [] [] A.i_NoText A.fi_NoText
  ic_NoText : PySem.W.findIn K (.ref A.x_NoText) "__init__" = some (some (.ref A.i_NoText))
  it_NoText : PySem.W.typeIn K (.ref A.i_NoText) = some (.type "function")
  O_NoText : OexC K A.x_NoText
  no_NoText_number : PySem.W.findIn K (.ref A.x_NoText) "number" = some none
  xf_NoText : XfC K A.x_NoText
  I_NoContract : FunD K "__init__" "NoContract.__init__" (defArgs sti_NoContract) (defBody sti_NoContract) (defScope sti_NoContract) [] [] A.i_NoContract A.fi_NoContract
  ic_NoContract : PySem.W.findIn K (.ref A.x_NoContract) "__init__" = some (some (.ref A.i_NoContract))
  it_NoContract : PySem.W.typeIn K (.ref A.i_NoContract) = some (.type "function")
  O_NoContract : OexC K A.x_NoContract
  no_NoContract_part : PySem.W.findIn K (.ref A.x_NoContract) "part" = some none
  no_NoContract_number : PySem.W.findIn K (.ref A.x_NoContract) "number" = some none
  xf_NoContract : XfC K A.x_NoContract
  I_NoInput : FunD K "__init__" "NoInput.__init__" (defArgs sti_NoInput) (defBody sti_NoInput) (defScope sti_NoInput) [] [] A.i_NoInput A.fi_NoInput
  ic_NoInput : PySem.W.findIn K (.ref A.x_NoInput) "__init__" = some (some (.ref A.i_NoInput))
  it_NoInput : PySem.W.typeIn K (.ref A.i_NoInput) = some (.type "function")
  O_NoInput : OexC K A.x_NoInput
  no_NoInput_part : PySem.W.findIn K (.ref A.x_NoInput) "part" = some none
  xf_NoInput : XfC K A.x_NoInput
  I_TooMany : FunD K "__init__" "TooMany.__init__" (defArgs sti_TooMany) (defBody sti_TooMany) (defScope sti_TooMany) [] [] A.i_TooMany A.fi_TooMany
  ic_TooMany : PySem.W.findIn K (.ref A.x_TooMany) "__init__" = some (some (.ref A.i_TooMany))
  it_TooMany : PySem.W.typeIn K (.ref A.i_TooMany) = some (.type "function")
  O_TooMany : OexC K A.x_TooMany
  no_TooMany_size : PySem.W.findIn K (.ref A.x_TooMany) "size" = some none
  xf_TooMany : XfC K A.x_TooMany
  I_NotLet : FunD K "__init__" "NotLet.__init__" (defArgs sti_NotLet) (defBody sti_NotLet) (defScope sti_NotLet) [] [] A.i_NotLet A.fi_NotLet
  ic_NotLet : PySem.W.findIn K (.ref A.x_NotLet) "__init__" = some (some (.ref A.i_NotLet))
  it_NotLet : PySem.W.typeIn K (.ref A.i_NotLet) = some (.type "function")
  O_NotLet : OexC K A.x_NotLet
  no_NotLet_word : PySem.W.findIn K (.ref A.x_NotLet) "word" = some none
  no_NotLet_way : PySem.W.findIn K (.ref A.x_NotLet) "way" = some none
  xf_NotLet : XfC K A.x_NotLet
  I_NoCall : FunD K "__init__" "NoCall.__init__" (defArgs sti_NoCall) (defBody sti_NoCall) (defScope sti_NoCall) [] [] A.i_NoCall A.fi_NoCall
  ic_NoCall : PySem.W.findIn K (.ref A.x_NoCall) "__init__" = some (some (.ref A.i_NoCall))
  it_NoCall : PySem.W.typeIn K (.ref A.i_NoCall) = some (.type "function")
  O_NoCall : OexK K A.x_NoCall
  no_NoCall_name : PySem.W.findIn K (.ref A.x_NoCall) "name" = some none
  xf_NoCall : XfC K A.x_NoCall
  I_NoName : FunD K "__init__" "NoName.__init__" (defArgs sti_NoName) (defBody sti_NoName) (defScope sti_NoName) [] [] A.i_NoName A.fi_NoName
  ic_NoName : PySem.W.findIn K (.ref A.x_NoName) "__init__" = some (some (.ref A.i_NoName))
  it_NoName : PySem.W.typeIn K (.ref A.i_NoName) = some (.type "function")
  O_NoName : OexK K A.x_NoName
  no_NoName_name : PySem.W.findIn K (.ref A.x_NoName) "name" = some none
  xf_NoName : XfC K A.x_NoName
  I_NoShelf : FunD K "__init__" "NoShelf.__init__" (defArgs sti_NoShelf) (defBody sti_NoShelf) (defScope sti_NoShelf) [] [] A.i_NoShelf A.fi_NoShelf
  ic_NoShelf : PySem.W.findIn K (.ref A.x_NoShelf) "__init__" = some (some (.ref A.i_NoShelf))
  it_NoShelf : PySem.W.typeIn K (.ref A.i_NoShelf) = some (.type "function")
  O_NoShelf : OexL K A.x_NoShelf
  no_NoShelf_name : PySem.W.findIn K (.ref A.x_NoShelf) "name" = some none
  xf_NoShelf : XfC K A.x_NoShelf
  cb_GateError : ClsI K A.x_GateError
  cKeyError : PySem.W.findCls K (.type "KeyError") (.type "type") "__init__" = some (.val (.builtin "KeyError.__init__"))
  cLookupError : PySem.W.findCls K (.type "LookupError") (.type "type") "__init__" = some (.val (.builtin "LookupError.__init__"))
  i_NoWord_Bare : PySem.W.kitOne K (.ref A.x_NoWord) (.ref A.x_Bare) = some false
  i_NoBit_Bare : PySem.W.kitOne K (.ref A.x_NoBit) (.ref A.x_Bare) = some false
  i_NoTable_Bare : PySem.W.kitOne K (.ref A.x_NoTable) (.ref A.x_Bare) = some false
  i_Bare_Bare : PySem.W.kitOne K (.ref A.x_Bare) (.ref A.x_Bare) = some true
  i_Shut_Bare : PySem.W.kitOne K (.ref A.x_Shut) (.ref A.x_Bare) = some false
  i_NoRow_Bare : PySem.W.kitOne K (.ref A.x_NoRow) (.ref A.x_Bare) = some false
  i_NoProgram_Bare : PySem.W.kitOne K (.ref A.x_NoProgram) (.ref A.x_Bare) = some false
  i_NoText_Bare : PySem.W.kitOne K (.ref A.x_NoText) (.ref A.x_Bare) = some false
  i_NoContract_Bare : PySem.W.kitOne K (.ref A.x_NoContract) (.ref A.x_Bare) = some false
  i_NoInput_Bare : PySem.W.kitOne K (.ref A.x_NoInput) (.ref A.x_Bare) = some false
  i_TooMany_Bare : PySem.W.kitOne K (.ref A.x_TooMany) (.ref A.x_Bare) = some false
  i_NotLet_Bare : PySem.W.kitOne K (.ref A.x_NotLet) (.ref A.x_Bare) = some false
  i_NoCall_Bare : PySem.W.kitOne K (.ref A.x_NoCall) (.ref A.x_Bare) = some false
  i_NoName_Bare : PySem.W.kitOne K (.ref A.x_NoName) (.ref A.x_Bare) = some false
  i_NoShelf_Bare : PySem.W.kitOne K (.ref A.x_NoShelf) (.ref A.x_Bare) = some false
  i_NoWord_GateError : PySem.W.kitOne K (.ref A.x_NoWord) (.ref A.x_GateError) = some true
  i_NoBit_GateError : PySem.W.kitOne K (.ref A.x_NoBit) (.ref A.x_GateError) = some true
  i_NoTable_GateError : PySem.W.kitOne K (.ref A.x_NoTable) (.ref A.x_GateError) = some true
  i_Bare_GateError : PySem.W.kitOne K (.ref A.x_Bare) (.ref A.x_GateError) = some true
  i_Shut_GateError : PySem.W.kitOne K (.ref A.x_Shut) (.ref A.x_GateError) = some true
  i_NoRow_GateError : PySem.W.kitOne K (.ref A.x_NoRow) (.ref A.x_GateError) = some true
  i_NoProgram_GateError : PySem.W.kitOne K (.ref A.x_NoProgram) (.ref A.x_GateError) = some true
  i_NoText_GateError : PySem.W.kitOne K (.ref A.x_NoText) (.ref A.x_GateError) = some true
  i_NoContract_GateError : PySem.W.kitOne K (.ref A.x_NoContract) (.ref A.x_GateError) = some true
  i_NoInput_GateError : PySem.W.kitOne K (.ref A.x_NoInput) (.ref A.x_GateError) = some true
  i_TooMany_GateError : PySem.W.kitOne K (.ref A.x_TooMany) (.ref A.x_GateError) = some true
  i_NotLet_GateError : PySem.W.kitOne K (.ref A.x_NotLet) (.ref A.x_GateError) = some true
  i_NoCall_GateError : PySem.W.kitOne K (.ref A.x_NoCall) (.ref A.x_GateError) = some false
  i_NoName_GateError : PySem.W.kitOne K (.ref A.x_NoName) (.ref A.x_GateError) = some false
  i_NoShelf_GateError : PySem.W.kitOne K (.ref A.x_NoShelf) (.ref A.x_GateError) = some false
  i_NoWord_IndexError : PySem.W.kitOne K (.ref A.x_NoWord) (.type "IndexError") = some false
  i_NoBit_IndexError : PySem.W.kitOne K (.ref A.x_NoBit) (.type "IndexError") = some false
  i_NoTable_IndexError : PySem.W.kitOne K (.ref A.x_NoTable) (.type "IndexError") = some false
  i_Bare_IndexError : PySem.W.kitOne K (.ref A.x_Bare) (.type "IndexError") = some false
  i_Shut_IndexError : PySem.W.kitOne K (.ref A.x_Shut) (.type "IndexError") = some false
  i_NoRow_IndexError : PySem.W.kitOne K (.ref A.x_NoRow) (.type "IndexError") = some false
  i_NoProgram_IndexError : PySem.W.kitOne K (.ref A.x_NoProgram) (.type "IndexError") = some false
  i_NoText_IndexError : PySem.W.kitOne K (.ref A.x_NoText) (.type "IndexError") = some false
  i_NoContract_IndexError : PySem.W.kitOne K (.ref A.x_NoContract) (.type "IndexError") = some false
  i_NoInput_IndexError : PySem.W.kitOne K (.ref A.x_NoInput) (.type "IndexError") = some false
  i_TooMany_IndexError : PySem.W.kitOne K (.ref A.x_TooMany) (.type "IndexError") = some false
  i_NotLet_IndexError : PySem.W.kitOne K (.ref A.x_NotLet) (.type "IndexError") = some false
  i_NoCall_IndexError : PySem.W.kitOne K (.ref A.x_NoCall) (.type "IndexError") = some false
  i_NoName_IndexError : PySem.W.kitOne K (.ref A.x_NoName) (.type "IndexError") = some false
  i_NoShelf_IndexError : PySem.W.kitOne K (.ref A.x_NoShelf) (.type "IndexError") = some false
  i_NoWord_KeyError : PySem.W.kitOne K (.ref A.x_NoWord) (.type "KeyError") = some false
  i_NoBit_KeyError : PySem.W.kitOne K (.ref A.x_NoBit) (.type "KeyError") = some false
  i_NoTable_KeyError : PySem.W.kitOne K (.ref A.x_NoTable) (.type "KeyError") = some false
  i_Bare_KeyError : PySem.W.kitOne K (.ref A.x_Bare) (.type "KeyError") = some false
  i_Shut_KeyError : PySem.W.kitOne K (.ref A.x_Shut) (.type "KeyError") = some false
  i_NoRow_KeyError : PySem.W.kitOne K (.ref A.x_NoRow) (.type "KeyError") = some false
  i_NoProgram_KeyError : PySem.W.kitOne K (.ref A.x_NoProgram) (.type "KeyError") = some false
  i_NoText_KeyError : PySem.W.kitOne K (.ref A.x_NoText) (.type "KeyError") = some false
  i_NoContract_KeyError : PySem.W.kitOne K (.ref A.x_NoContract) (.type "KeyError") = some false
  i_NoInput_KeyError : PySem.W.kitOne K (.ref A.x_NoInput) (.type "KeyError") = some false
  i_TooMany_KeyError : PySem.W.kitOne K (.ref A.x_TooMany) (.type "KeyError") = some false
  i_NotLet_KeyError : PySem.W.kitOne K (.ref A.x_NotLet) (.type "KeyError") = some false
  i_NoCall_KeyError : PySem.W.kitOne K (.ref A.x_NoCall) (.type "KeyError") = some true
  i_NoName_KeyError : PySem.W.kitOne K (.ref A.x_NoName) (.type "KeyError") = some true
  i_NoShelf_KeyError : PySem.W.kitOne K (.ref A.x_NoShelf) (.type "KeyError") = some false
  i_NoWord_LookupError : PySem.W.kitOne K (.ref A.x_NoWord) (.type "LookupError") = some false
  i_NoBit_LookupError : PySem.W.kitOne K (.ref A.x_NoBit) (.type "LookupError") = some false
  i_NoTable_LookupError : PySem.W.kitOne K (.ref A.x_NoTable) (.type "LookupError") = some false
  i_Bare_LookupError : PySem.W.kitOne K (.ref A.x_Bare) (.type "LookupError") = some false
  i_Shut_LookupError : PySem.W.kitOne K (.ref A.x_Shut) (.type "LookupError") = some false
  i_NoRow_LookupError : PySem.W.kitOne K (.ref A.x_NoRow) (.type "LookupError") = some false
  i_NoProgram_LookupError : PySem.W.kitOne K (.ref A.x_NoProgram) (.type "LookupError") = some false
  i_NoText_LookupError : PySem.W.kitOne K (.ref A.x_NoText) (.type "LookupError") = some false
  i_NoContract_LookupError : PySem.W.kitOne K (.ref A.x_NoContract) (.type "LookupError") = some false
  i_NoInput_LookupError : PySem.W.kitOne K (.ref A.x_NoInput) (.type "LookupError") = some false
  i_TooMany_LookupError : PySem.W.kitOne K (.ref A.x_TooMany) (.type "LookupError") = some false
  i_NotLet_LookupError : PySem.W.kitOne K (.ref A.x_NotLet) (.type "LookupError") = some false
  i_NoCall_LookupError : PySem.W.kitOne K (.ref A.x_NoCall) (.type "LookupError") = some true
  i_NoName_LookupError : PySem.W.kitOne K (.ref A.x_NoName) (.type "LookupError") = some true
  i_NoShelf_LookupError : PySem.W.kitOne K (.ref A.x_NoShelf) (.type "LookupError") = some true
  i_NoWord_NoBit : PySem.W.kitOne K (.ref A.x_NoWord) (.ref A.x_NoBit) = some false
  i_NoBit_NoBit : PySem.W.kitOne K (.ref A.x_NoBit) (.ref A.x_NoBit) = some true
  i_NoTable_NoBit : PySem.W.kitOne K (.ref A.x_NoTable) (.ref A.x_NoBit) = some false
  i_Bare_NoBit : PySem.W.kitOne K (.ref A.x_Bare) (.ref A.x_NoBit) = some false
  i_Shut_NoBit : PySem.W.kitOne K (.ref A.x_Shut) (.ref A.x_NoBit) = some false
  i_NoRow_NoBit : PySem.W.kitOne K (.ref A.x_NoRow) (.ref A.x_NoBit) = some false
  i_NoProgram_NoBit : PySem.W.kitOne K (.ref A.x_NoProgram) (.ref A.x_NoBit) = some false
  i_NoText_NoBit : PySem.W.kitOne K (.ref A.x_NoText) (.ref A.x_NoBit) = some false
  i_NoContract_NoBit : PySem.W.kitOne K (.ref A.x_NoContract) (.ref A.x_NoBit) = some false
  i_NoInput_NoBit : PySem.W.kitOne K (.ref A.x_NoInput) (.ref A.x_NoBit) = some false
  i_TooMany_NoBit : PySem.W.kitOne K (.ref A.x_TooMany) (.ref A.x_NoBit) = some false
  i_NotLet_NoBit : PySem.W.kitOne K (.ref A.x_NotLet) (.ref A.x_NoBit) = some false
  i_NoCall_NoBit : PySem.W.kitOne K (.ref A.x_NoCall) (.ref A.x_NoBit) = some false
  i_NoName_NoBit : PySem.W.kitOne K (.ref A.x_NoName) (.ref A.x_NoBit) = some false
  i_NoShelf_NoBit : PySem.W.kitOne K (.ref A.x_NoShelf) (.ref A.x_NoBit) = some false
  i_NoWord_NoCall : PySem.W.kitOne K (.ref A.x_NoWord) (.ref A.x_NoCall) = some false
  i_NoBit_NoCall : PySem.W.kitOne K (.ref A.x_NoBit) (.ref A.x_NoCall) = some false
  i_NoTable_NoCall : PySem.W.kitOne K (.ref A.x_NoTable) (.ref A.x_NoCall) = some false
  i_Bare_NoCall : PySem.W.kitOne K (.ref A.x_Bare) (.ref A.x_NoCall) = some false
  i_Shut_NoCall : PySem.W.kitOne K (.ref A.x_Shut) (.ref A.x_NoCall) = some false
  i_NoRow_NoCall : PySem.W.kitOne K (.ref A.x_NoRow) (.ref A.x_NoCall) = some false
  i_NoProgram_NoCall : PySem.W.kitOne K (.ref A.x_NoProgram) (.ref A.x_NoCall) = some false
  i_NoText_NoCall : PySem.W.kitOne K (.ref A.x_NoText) (.ref A.x_NoCall) = some false
  i_NoContract_NoCall : PySem.W.kitOne K (.ref A.x_NoContract) (.ref A.x_NoCall) = some false
  i_NoInput_NoCall : PySem.W.kitOne K (.ref A.x_NoInput) (.ref A.x_NoCall) = some false
  i_TooMany_NoCall : PySem.W.kitOne K (.ref A.x_TooMany) (.ref A.x_NoCall) = some false
  i_NotLet_NoCall : PySem.W.kitOne K (.ref A.x_NotLet) (.ref A.x_NoCall) = some false
  i_NoCall_NoCall : PySem.W.kitOne K (.ref A.x_NoCall) (.ref A.x_NoCall) = some true
  i_NoName_NoCall : PySem.W.kitOne K (.ref A.x_NoName) (.ref A.x_NoCall) = some false
  i_NoShelf_NoCall : PySem.W.kitOne K (.ref A.x_NoShelf) (.ref A.x_NoCall) = some false
  i_NoWord_NoContract : PySem.W.kitOne K (.ref A.x_NoWord) (.ref A.x_NoContract) = some false
  i_NoBit_NoContract : PySem.W.kitOne K (.ref A.x_NoBit) (.ref A.x_NoContract) = some false
  i_NoTable_NoContract : PySem.W.kitOne K (.ref A.x_NoTable) (.ref A.x_NoContract) = some false
  i_Bare_NoContract : PySem.W.kitOne K (.ref A.x_Bare) (.ref A.x_NoContract) = some false
  i_Shut_NoContract : PySem.W.kitOne K (.ref A.x_Shut) (.ref A.x_NoContract) = some false
  i_NoRow_NoContract : PySem.W.kitOne K (.ref A.x_NoRow) (.ref A.x_NoContract) = some false
  i_NoProgram_NoContract : PySem.W.kitOne K (.ref A.x_NoProgram) (.ref A.x_NoContract) = some false
  i_NoText_NoContract : PySem.W.kitOne K (.ref A.x_NoText) (.ref A.x_NoContract) = some false
  i_NoContract_NoContract : PySem.W.kitOne K (.ref A.x_NoContract) (.ref A.x_NoContract) = some true
  i_NoInput_NoContract : PySem.W.kitOne K (.ref A.x_NoInput) (.ref A.x_NoContract) = some false
  i_TooMany_NoContract : PySem.W.kitOne K (.ref A.x_TooMany) (.ref A.x_NoContract) = some false
  i_NotLet_NoContract : PySem.W.kitOne K (.ref A.x_NotLet) (.ref A.x_NoContract) = some false
  i_NoCall_NoContract : PySem.W.kitOne K (.ref A.x_NoCall) (.ref A.x_NoContract) = some false
  i_NoName_NoContract : PySem.W.kitOne K (.ref A.x_NoName) (.ref A.x_NoContract) = some false
  i_NoShelf_NoContract : PySem.W.kitOne K (.ref A.x_NoShelf) (.ref A.x_NoContract) = some false
  i_NoWord_NoInput : PySem.W.kitOne K (.ref A.x_NoWord) (.ref A.x_NoInput) = some false
  i_NoBit_NoInput : PySem.W.kitOne K (.ref A.x_NoBit) (.ref A.x_NoInput) = some false
  i_NoTable_NoInput : PySem.W.kitOne K (.ref A.x_NoTable) (.ref A.x_NoInput) = some false
  i_Bare_NoInput : PySem.W.kitOne K (.ref A.x_Bare) (.ref A.x_NoInput) = some false
  i_Shut_NoInput : PySem.W.kitOne K (.ref A.x_Shut) (.ref A.x_NoInput) = some false
  i_NoRow_NoInput : PySem.W.kitOne K (.ref A.x_NoRow) (.ref A.x_NoInput) = some false
  i_NoProgram_NoInput : PySem.W.kitOne K (.ref A.x_NoProgram) (.ref A.x_NoInput) = some false
  i_NoText_NoInput : PySem.W.kitOne K (.ref A.x_NoText) (.ref A.x_NoInput) = some false
  i_NoContract_NoInput : PySem.W.kitOne K (.ref A.x_NoContract) (.ref A.x_NoInput) = some false
  i_NoInput_NoInput : PySem.W.kitOne K (.ref A.x_NoInput) (.ref A.x_NoInput) = some true
  i_TooMany_NoInput : PySem.W.kitOne K (.ref A.x_TooMany) (.ref A.x_NoInput) = some false
  i_NotLet_NoInput : PySem.W.kitOne K (.ref A.x_NotLet) (.ref A.x_NoInput) = some false
  i_NoCall_NoInput : PySem.W.kitOne K (.ref A.x_NoCall) (.ref A.x_NoInput) = some false
  i_NoName_NoInput : PySem.W.kitOne K (.ref A.x_NoName) (.ref A.x_NoInput) = some false
  i_NoShelf_NoInput : PySem.W.kitOne K (.ref A.x_NoShelf) (.ref A.x_NoInput) = some false
  i_NoWord_NoName : PySem.W.kitOne K (.ref A.x_NoWord) (.ref A.x_NoName) = some false
  i_NoBit_NoName : PySem.W.kitOne K (.ref A.x_NoBit) (.ref A.x_NoName) = some false
  i_NoTable_NoName : PySem.W.kitOne K (.ref A.x_NoTable) (.ref A.x_NoName) = some false
  i_Bare_NoName : PySem.W.kitOne K (.ref A.x_Bare) (.ref A.x_NoName) = some false
  i_Shut_NoName : PySem.W.kitOne K (.ref A.x_Shut) (.ref A.x_NoName) = some false
  i_NoRow_NoName : PySem.W.kitOne K (.ref A.x_NoRow) (.ref A.x_NoName) = some false
  i_NoProgram_NoName : PySem.W.kitOne K (.ref A.x_NoProgram) (.ref A.x_NoName) = some false
  i_NoText_NoName : PySem.W.kitOne K (.ref A.x_NoText) (.ref A.x_NoName) = some false
  i_NoContract_NoName : PySem.W.kitOne K (.ref A.x_NoContract) (.ref A.x_NoName) = some false
  i_NoInput_NoName : PySem.W.kitOne K (.ref A.x_NoInput) (.ref A.x_NoName) = some false
  i_TooMany_NoName : PySem.W.kitOne K (.ref A.x_TooMany) (.ref A.x_NoName) = some false
  i_NotLet_NoName : PySem.W.kitOne K (.ref A.x_NotLet) (.ref A.x_NoName) = some false
  i_NoCall_NoName : PySem.W.kitOne K (.ref A.x_NoCall) (.ref A.x_NoName) = some false
  i_NoName_NoName : PySem.W.kitOne K (.ref A.x_NoName) (.ref A.x_NoName) = some true
  i_NoShelf_NoName : PySem.W.kitOne K (.ref A.x_NoShelf) (.ref A.x_NoName) = some false
  i_NoWord_NoProgram : PySem.W.kitOne K (.ref A.x_NoWord) (.ref A.x_NoProgram) = some false
  i_NoBit_NoProgram : PySem.W.kitOne K (.ref A.x_NoBit) (.ref A.x_NoProgram) = some false
  i_NoTable_NoProgram : PySem.W.kitOne K (.ref A.x_NoTable) (.ref A.x_NoProgram) = some false
  i_Bare_NoProgram : PySem.W.kitOne K (.ref A.x_Bare) (.ref A.x_NoProgram) = some false
  i_Shut_NoProgram : PySem.W.kitOne K (.ref A.x_Shut) (.ref A.x_NoProgram) = some false
  i_NoRow_NoProgram : PySem.W.kitOne K (.ref A.x_NoRow) (.ref A.x_NoProgram) = some false
  i_NoProgram_NoProgram : PySem.W.kitOne K (.ref A.x_NoProgram) (.ref A.x_NoProgram) = some true
  i_NoText_NoProgram : PySem.W.kitOne K (.ref A.x_NoText) (.ref A.x_NoProgram) = some false
  i_NoContract_NoProgram : PySem.W.kitOne K (.ref A.x_NoContract) (.ref A.x_NoProgram) = some false
  i_NoInput_NoProgram : PySem.W.kitOne K (.ref A.x_NoInput) (.ref A.x_NoProgram) = some false
  i_TooMany_NoProgram : PySem.W.kitOne K (.ref A.x_TooMany) (.ref A.x_NoProgram) = some false
  i_NotLet_NoProgram : PySem.W.kitOne K (.ref A.x_NotLet) (.ref A.x_NoProgram) = some false
  i_NoCall_NoProgram : PySem.W.kitOne K (.ref A.x_NoCall) (.ref A.x_NoProgram) = some false
  i_NoName_NoProgram : PySem.W.kitOne K (.ref A.x_NoName) (.ref A.x_NoProgram) = some false
  i_NoShelf_NoProgram : PySem.W.kitOne K (.ref A.x_NoShelf) (.ref A.x_NoProgram) = some false
  i_NoWord_NoRow : PySem.W.kitOne K (.ref A.x_NoWord) (.ref A.x_NoRow) = some false
  i_NoBit_NoRow : PySem.W.kitOne K (.ref A.x_NoBit) (.ref A.x_NoRow) = some false
  i_NoTable_NoRow : PySem.W.kitOne K (.ref A.x_NoTable) (.ref A.x_NoRow) = some false
  i_Bare_NoRow : PySem.W.kitOne K (.ref A.x_Bare) (.ref A.x_NoRow) = some false
  i_Shut_NoRow : PySem.W.kitOne K (.ref A.x_Shut) (.ref A.x_NoRow) = some false
  i_NoRow_NoRow : PySem.W.kitOne K (.ref A.x_NoRow) (.ref A.x_NoRow) = some true
  i_NoProgram_NoRow : PySem.W.kitOne K (.ref A.x_NoProgram) (.ref A.x_NoRow) = some false
  i_NoText_NoRow : PySem.W.kitOne K (.ref A.x_NoText) (.ref A.x_NoRow) = some false
  i_NoContract_NoRow : PySem.W.kitOne K (.ref A.x_NoContract) (.ref A.x_NoRow) = some false
  i_NoInput_NoRow : PySem.W.kitOne K (.ref A.x_NoInput) (.ref A.x_NoRow) = some false
  i_TooMany_NoRow : PySem.W.kitOne K (.ref A.x_TooMany) (.ref A.x_NoRow) = some false
  i_NotLet_NoRow : PySem.W.kitOne K (.ref A.x_NotLet) (.ref A.x_NoRow) = some false
  i_NoCall_NoRow : PySem.W.kitOne K (.ref A.x_NoCall) (.ref A.x_NoRow) = some false
  i_NoName_NoRow : PySem.W.kitOne K (.ref A.x_NoName) (.ref A.x_NoRow) = some false
  i_NoShelf_NoRow : PySem.W.kitOne K (.ref A.x_NoShelf) (.ref A.x_NoRow) = some false
  i_NoWord_NoShelf : PySem.W.kitOne K (.ref A.x_NoWord) (.ref A.x_NoShelf) = some false
  i_NoBit_NoShelf : PySem.W.kitOne K (.ref A.x_NoBit) (.ref A.x_NoShelf) = some false
  i_NoTable_NoShelf : PySem.W.kitOne K (.ref A.x_NoTable) (.ref A.x_NoShelf) = some false
  i_Bare_NoShelf : PySem.W.kitOne K (.ref A.x_Bare) (.ref A.x_NoShelf) = some false
  i_Shut_NoShelf : PySem.W.kitOne K (.ref A.x_Shut) (.ref A.x_NoShelf) = some false
  i_NoRow_NoShelf : PySem.W.kitOne K (.ref A.x_NoRow) (.ref A.x_NoShelf) = some false
  i_NoProgram_NoShelf : PySem.W.kitOne K (.ref A.x_NoProgram) (.ref A.x_NoShelf) = some false
  i_NoText_NoShelf : PySem.W.kitOne K (.ref A.x_NoText) (.ref A.x_NoShelf) = some false
  i_NoContract_NoShelf : PySem.W.kitOne K (.ref A.x_NoContract) (.ref A.x_NoShelf) = some false
  i_NoInput_NoShelf : PySem.W.kitOne K (.ref A.x_NoInput) (.ref A.x_NoShelf) = some false
  i_TooMany_NoShelf : PySem.W.kitOne K (.ref A.x_TooMany) (.ref A.x_NoShelf) = some false
  i_NotLet_NoShelf : PySem.W.kitOne K (.ref A.x_NotLet) (.ref A.x_NoShelf) = some false
  i_NoCall_NoShelf : PySem.W.kitOne K (.ref A.x_NoCall) (.ref A.x_NoShelf) = some false
  i_NoName_NoShelf : PySem.W.kitOne K (.ref A.x_NoName) (.ref A.x_NoShelf) = some false
  i_NoShelf_NoShelf : PySem.W.kitOne K (.ref A.x_NoShelf) (.ref A.x_NoShelf) = some true
  i_NoWord_NoTable : PySem.W.kitOne K (.ref A.x_NoWord) (.ref A.x_NoTable) = some false
  i_NoBit_NoTable : PySem.W.kitOne K (.ref A.x_NoBit) (.ref A.x_NoTable) = some false
  i_NoTable_NoTable : PySem.W.kitOne K (.ref A.x_NoTable) (.ref A.x_NoTable) = some true
  i_Bare_NoTable : PySem.W.kitOne K (.ref A.x_Bare) (.ref A.x_NoTable) = some false
  i_Shut_NoTable : PySem.W.kitOne K (.ref A.x_Shut) (.ref A.x_NoTable) = some false
  i_NoRow_NoTable : PySem.W.kitOne K (.ref A.x_NoRow) (.ref A.x_NoTable) = some false
  i_NoProgram_NoTable : PySem.W.kitOne K (.ref A.x_NoProgram) (.ref A.x_NoTable) = some false
  i_NoText_NoTable : PySem.W.kitOne K (.ref A.x_NoText) (.ref A.x_NoTable) = some false
  i_NoContract_NoTable : PySem.W.kitOne K (.ref A.x_NoContract) (.ref A.x_NoTable) = some false
  i_NoInput_NoTable : PySem.W.kitOne K (.ref A.x_NoInput) (.ref A.x_NoTable) = some false
  i_TooMany_NoTable : PySem.W.kitOne K (.ref A.x_TooMany) (.ref A.x_NoTable) = some false
  i_NotLet_NoTable : PySem.W.kitOne K (.ref A.x_NotLet) (.ref A.x_NoTable) = some false
  i_NoCall_NoTable : PySem.W.kitOne K (.ref A.x_NoCall) (.ref A.x_NoTable) = some false
  i_NoName_NoTable : PySem.W.kitOne K (.ref A.x_NoName) (.ref A.x_NoTable) = some false
  i_NoShelf_NoTable : PySem.W.kitOne K (.ref A.x_NoShelf) (.ref A.x_NoTable) = some false
  i_NoWord_NoText : PySem.W.kitOne K (.ref A.x_NoWord) (.ref A.x_NoText) = some false
  i_NoBit_NoText : PySem.W.kitOne K (.ref A.x_NoBit) (.ref A.x_NoText) = some false
  i_NoTable_NoText : PySem.W.kitOne K (.ref A.x_NoTable) (.ref A.x_NoText) = some false
  i_Bare_NoText : PySem.W.kitOne K (.ref A.x_Bare) (.ref A.x_NoText) = some false
  i_Shut_NoText : PySem.W.kitOne K (.ref A.x_Shut) (.ref A.x_NoText) = some false
  i_NoRow_NoText : PySem.W.kitOne K (.ref A.x_NoRow) (.ref A.x_NoText) = some false
  i_NoProgram_NoText : PySem.W.kitOne K (.ref A.x_NoProgram) (.ref A.x_NoText) = some false
  i_NoText_NoText : PySem.W.kitOne K (.ref A.x_NoText) (.ref A.x_NoText) = some true
  i_NoContract_NoText : PySem.W.kitOne K (.ref A.x_NoContract) (.ref A.x_NoText) = some false
  i_NoInput_NoText : PySem.W.kitOne K (.ref A.x_NoInput) (.ref A.x_NoText) = some false
  i_TooMany_NoText : PySem.W.kitOne K (.ref A.x_TooMany) (.ref A.x_NoText) = some false
  i_NotLet_NoText : PySem.W.kitOne K (.ref A.x_NotLet) (.ref A.x_NoText) = some false
  i_NoCall_NoText : PySem.W.kitOne K (.ref A.x_NoCall) (.ref A.x_NoText) = some false
  i_NoName_NoText : PySem.W.kitOne K (.ref A.x_NoName) (.ref A.x_NoText) = some false
  i_NoShelf_NoText : PySem.W.kitOne K (.ref A.x_NoShelf) (.ref A.x_NoText) = some false
  i_NoWord_NoWord : PySem.W.kitOne K (.ref A.x_NoWord) (.ref A.x_NoWord) = some true
  i_NoBit_NoWord : PySem.W.kitOne K (.ref A.x_NoBit) (.ref A.x_NoWord) = some false
  i_NoTable_NoWord : PySem.W.kitOne K (.ref A.x_NoTable) (.ref A.x_NoWord) = some false
  i_Bare_NoWord : PySem.W.kitOne K (.ref A.x_Bare) (.ref A.x_NoWord) = some false
  i_Shut_NoWord : PySem.W.kitOne K (.ref A.x_Shut) (.ref A.x_NoWord) = some false
  i_NoRow_NoWord : PySem.W.kitOne K (.ref A.x_NoRow) (.ref A.x_NoWord) = some false
  i_NoProgram_NoWord : PySem.W.kitOne K (.ref A.x_NoProgram) (.ref A.x_NoWord) = some false
  i_NoText_NoWord : PySem.W.kitOne K (.ref A.x_NoText) (.ref A.x_NoWord) = some false
  i_NoContract_NoWord : PySem.W.kitOne K (.ref A.x_NoContract) (.ref A.x_NoWord) = some false
  i_NoInput_NoWord : PySem.W.kitOne K (.ref A.x_NoInput) (.ref A.x_NoWord) = some false
  i_TooMany_NoWord : PySem.W.kitOne K (.ref A.x_TooMany) (.ref A.x_NoWord) = some false
  i_NotLet_NoWord : PySem.W.kitOne K (.ref A.x_NotLet) (.ref A.x_NoWord) = some false
  i_NoCall_NoWord : PySem.W.kitOne K (.ref A.x_NoCall) (.ref A.x_NoWord) = some false
  i_NoName_NoWord : PySem.W.kitOne K (.ref A.x_NoName) (.ref A.x_NoWord) = some false
  i_NoShelf_NoWord : PySem.W.kitOne K (.ref A.x_NoShelf) (.ref A.x_NoWord) = some false
  i_NoWord_NotLet : PySem.W.kitOne K (.ref A.x_NoWord) (.ref A.x_NotLet) = some false
  i_NoBit_NotLet : PySem.W.kitOne K (.ref A.x_NoBit) (.ref A.x_NotLet) = some false
  i_NoTable_NotLet : PySem.W.kitOne K (.ref A.x_NoTable) (.ref A.x_NotLet) = some false
  i_Bare_NotLet : PySem.W.kitOne K (.ref A.x_Bare) (.ref A.x_NotLet) = some false
  i_Shut_NotLet : PySem.W.kitOne K (.ref A.x_Shut) (.ref A.x_NotLet) = some false
  i_NoRow_NotLet : PySem.W.kitOne K (.ref A.x_NoRow) (.ref A.x_NotLet) = some false
  i_NoProgram_NotLet : PySem.W.kitOne K (.ref A.x_NoProgram) (.ref A.x_NotLet) = some false
  i_NoText_NotLet : PySem.W.kitOne K (.ref A.x_NoText) (.ref A.x_NotLet) = some false
  i_NoContract_NotLet : PySem.W.kitOne K (.ref A.x_NoContract) (.ref A.x_NotLet) = some false
  i_NoInput_NotLet : PySem.W.kitOne K (.ref A.x_NoInput) (.ref A.x_NotLet) = some false
  i_TooMany_NotLet : PySem.W.kitOne K (.ref A.x_TooMany) (.ref A.x_NotLet) = some false
  i_NotLet_NotLet : PySem.W.kitOne K (.ref A.x_NotLet) (.ref A.x_NotLet) = some true
  i_NoCall_NotLet : PySem.W.kitOne K (.ref A.x_NoCall) (.ref A.x_NotLet) = some false
  i_NoName_NotLet : PySem.W.kitOne K (.ref A.x_NoName) (.ref A.x_NotLet) = some false
  i_NoShelf_NotLet : PySem.W.kitOne K (.ref A.x_NoShelf) (.ref A.x_NotLet) = some false
  i_NoWord_OverflowError : PySem.W.kitOne K (.ref A.x_NoWord) (.type "OverflowError") = some false
  i_NoBit_OverflowError : PySem.W.kitOne K (.ref A.x_NoBit) (.type "OverflowError") = some false
  i_NoTable_OverflowError : PySem.W.kitOne K (.ref A.x_NoTable) (.type "OverflowError") = some false
  i_Bare_OverflowError : PySem.W.kitOne K (.ref A.x_Bare) (.type "OverflowError") = some false
  i_Shut_OverflowError : PySem.W.kitOne K (.ref A.x_Shut) (.type "OverflowError") = some false
  i_NoRow_OverflowError : PySem.W.kitOne K (.ref A.x_NoRow) (.type "OverflowError") = some false
  i_NoProgram_OverflowError : PySem.W.kitOne K (.ref A.x_NoProgram) (.type "OverflowError") = some false
  i_NoText_OverflowError : PySem.W.kitOne K (.ref A.x_NoText) (.type "OverflowError") = some false
  i_NoContract_OverflowError : PySem.W.kitOne K (.ref A.x_NoContract) (.type "OverflowError") = some false
  i_NoInput_OverflowError : PySem.W.kitOne K (.ref A.x_NoInput) (.type "OverflowError") = some false
  i_TooMany_OverflowError : PySem.W.kitOne K (.ref A.x_TooMany) (.type "OverflowError") = some false
  i_NotLet_OverflowError : PySem.W.kitOne K (.ref A.x_NotLet) (.type "OverflowError") = some false
  i_NoCall_OverflowError : PySem.W.kitOne K (.ref A.x_NoCall) (.type "OverflowError") = some false
  i_NoName_OverflowError : PySem.W.kitOne K (.ref A.x_NoName) (.type "OverflowError") = some false
  i_NoShelf_OverflowError : PySem.W.kitOne K (.ref A.x_NoShelf) (.type "OverflowError") = some false
  i_NoWord_RuntimeError : PySem.W.kitOne K (.ref A.x_NoWord) (.type "RuntimeError") = some false
  i_NoBit_RuntimeError : PySem.W.kitOne K (.ref A.x_NoBit) (.type "RuntimeError") = some false
  i_NoTable_RuntimeError : PySem.W.kitOne K (.ref A.x_NoTable) (.type "RuntimeError") = some false
  i_Bare_RuntimeError : PySem.W.kitOne K (.ref A.x_Bare) (.type "RuntimeError") = some false
  i_Shut_RuntimeError : PySem.W.kitOne K (.ref A.x_Shut) (.type "RuntimeError") = some false
  i_NoRow_RuntimeError : PySem.W.kitOne K (.ref A.x_NoRow) (.type "RuntimeError") = some false
  i_NoProgram_RuntimeError : PySem.W.kitOne K (.ref A.x_NoProgram) (.type "RuntimeError") = some false
  i_NoText_RuntimeError : PySem.W.kitOne K (.ref A.x_NoText) (.type "RuntimeError") = some false
  i_NoContract_RuntimeError : PySem.W.kitOne K (.ref A.x_NoContract) (.type "RuntimeError") = some false
  i_NoInput_RuntimeError : PySem.W.kitOne K (.ref A.x_NoInput) (.type "RuntimeError") = some false
  i_TooMany_RuntimeError : PySem.W.kitOne K (.ref A.x_TooMany) (.type "RuntimeError") = some false
  i_NotLet_RuntimeError : PySem.W.kitOne K (.ref A.x_NotLet) (.type "RuntimeError") = some false
  i_NoCall_RuntimeError : PySem.W.kitOne K (.ref A.x_NoCall) (.type "RuntimeError") = some false
  i_NoName_RuntimeError : PySem.W.kitOne K (.ref A.x_NoName) (.type "RuntimeError") = some false
  i_NoShelf_RuntimeError : PySem.W.kitOne K (.ref A.x_NoShelf) (.type "RuntimeError") = some false
  i_NoWord_Shut : PySem.W.kitOne K (.ref A.x_NoWord) (.ref A.x_Shut) = some false
  i_NoBit_Shut : PySem.W.kitOne K (.ref A.x_NoBit) (.ref A.x_Shut) = some false
  i_NoTable_Shut : PySem.W.kitOne K (.ref A.x_NoTable) (.ref A.x_Shut) = some false
  i_Bare_Shut : PySem.W.kitOne K (.ref A.x_Bare) (.ref A.x_Shut) = some false
  i_Shut_Shut : PySem.W.kitOne K (.ref A.x_Shut) (.ref A.x_Shut) = some true
  i_NoRow_Shut : PySem.W.kitOne K (.ref A.x_NoRow) (.ref A.x_Shut) = some false
  i_NoProgram_Shut : PySem.W.kitOne K (.ref A.x_NoProgram) (.ref A.x_Shut) = some false
  i_NoText_Shut : PySem.W.kitOne K (.ref A.x_NoText) (.ref A.x_Shut) = some false
  i_NoContract_Shut : PySem.W.kitOne K (.ref A.x_NoContract) (.ref A.x_Shut) = some false
  i_NoInput_Shut : PySem.W.kitOne K (.ref A.x_NoInput) (.ref A.x_Shut) = some false
  i_TooMany_Shut : PySem.W.kitOne K (.ref A.x_TooMany) (.ref A.x_Shut) = some false
  i_NotLet_Shut : PySem.W.kitOne K (.ref A.x_NotLet) (.ref A.x_Shut) = some false
  i_NoCall_Shut : PySem.W.kitOne K (.ref A.x_NoCall) (.ref A.x_Shut) = some false
  i_NoName_Shut : PySem.W.kitOne K (.ref A.x_NoName) (.ref A.x_Shut) = some false
  i_NoShelf_Shut : PySem.W.kitOne K (.ref A.x_NoShelf) (.ref A.x_Shut) = some false
  i_NoWord_TooMany : PySem.W.kitOne K (.ref A.x_NoWord) (.ref A.x_TooMany) = some false
  i_NoBit_TooMany : PySem.W.kitOne K (.ref A.x_NoBit) (.ref A.x_TooMany) = some false
  i_NoTable_TooMany : PySem.W.kitOne K (.ref A.x_NoTable) (.ref A.x_TooMany) = some false
  i_Bare_TooMany : PySem.W.kitOne K (.ref A.x_Bare) (.ref A.x_TooMany) = some false
  i_Shut_TooMany : PySem.W.kitOne K (.ref A.x_Shut) (.ref A.x_TooMany) = some false
  i_NoRow_TooMany : PySem.W.kitOne K (.ref A.x_NoRow) (.ref A.x_TooMany) = some false
  i_NoProgram_TooMany : PySem.W.kitOne K (.ref A.x_NoProgram) (.ref A.x_TooMany) = some false
  i_NoText_TooMany : PySem.W.kitOne K (.ref A.x_NoText) (.ref A.x_TooMany) = some false
  i_NoContract_TooMany : PySem.W.kitOne K (.ref A.x_NoContract) (.ref A.x_TooMany) = some false
  i_NoInput_TooMany : PySem.W.kitOne K (.ref A.x_NoInput) (.ref A.x_TooMany) = some false
  i_TooMany_TooMany : PySem.W.kitOne K (.ref A.x_TooMany) (.ref A.x_TooMany) = some true
  i_NotLet_TooMany : PySem.W.kitOne K (.ref A.x_NotLet) (.ref A.x_TooMany) = some false
  i_NoCall_TooMany : PySem.W.kitOne K (.ref A.x_NoCall) (.ref A.x_TooMany) = some false
  i_NoName_TooMany : PySem.W.kitOne K (.ref A.x_NoName) (.ref A.x_TooMany) = some false
  i_NoShelf_TooMany : PySem.W.kitOne K (.ref A.x_NoShelf) (.ref A.x_TooMany) = some false
  i_NoWord_ValueError : PySem.W.kitOne K (.ref A.x_NoWord) (.type "ValueError") = some true
  i_NoBit_ValueError : PySem.W.kitOne K (.ref A.x_NoBit) (.type "ValueError") = some true
  i_NoTable_ValueError : PySem.W.kitOne K (.ref A.x_NoTable) (.type "ValueError") = some true
  i_Bare_ValueError : PySem.W.kitOne K (.ref A.x_Bare) (.type "ValueError") = some true
  i_Shut_ValueError : PySem.W.kitOne K (.ref A.x_Shut) (.type "ValueError") = some true
  i_NoRow_ValueError : PySem.W.kitOne K (.ref A.x_NoRow) (.type "ValueError") = some true
  i_NoProgram_ValueError : PySem.W.kitOne K (.ref A.x_NoProgram) (.type "ValueError") = some true
  i_NoText_ValueError : PySem.W.kitOne K (.ref A.x_NoText) (.type "ValueError") = some true
  i_NoContract_ValueError : PySem.W.kitOne K (.ref A.x_NoContract) (.type "ValueError") = some true
  i_NoInput_ValueError : PySem.W.kitOne K (.ref A.x_NoInput) (.type "ValueError") = some true
  i_TooMany_ValueError : PySem.W.kitOne K (.ref A.x_TooMany) (.type "ValueError") = some true
  i_NotLet_ValueError : PySem.W.kitOne K (.ref A.x_NotLet) (.type "ValueError") = some true
  i_NoCall_ValueError : PySem.W.kitOne K (.ref A.x_NoCall) (.type "ValueError") = some false
  i_NoName_ValueError : PySem.W.kitOne K (.ref A.x_NoName) (.type "ValueError") = some false
  i_NoShelf_ValueError : PySem.W.kitOne K (.ref A.x_NoShelf) (.type "ValueError") = some false
section
variable {P : Program} {w : World} {K : PySem.W.Frag} {mg : Str → Option Value} {base : Heap} {Ad0 : Ad}
theorem isK_ok_Bare (T : Txt K mg Ad0) : ∀ r b C, isK_Bare r = some b → ClsK K r C → ExcC K C ∧ PySem.W.kitOne K (.ref C) (.ref Ad0.x_Bare) = some b := by
  intro r b C e hc
  unfold isK_Bare at e
  by_cases h : r = "NoWord"
  · rw [if_pos h] at e; cases e; subst h; have e2 := hc.symm.trans T.n_NoWord; cases e2; exact ⟨T.E_NoWord, T.i_NoWord_Bare⟩
  rw [if_neg h] at e
  by_cases h : r = "NoBit"
  · rw [if_pos h] at e; cases e; subst h; have e2 := hc.symm.trans T.n_NoBit; cases e2; exact ⟨T.E_NoBit, T.i_NoBit_Bare⟩
  rw [if_neg h] at e
  by_cases h : r = "NoTable"
  · rw [if_pos h] at e; cases e; subst h; have e2 := hc.symm.trans T.n_NoTable; cases e2; exact ⟨T.E_NoTable, T.i_NoTable_Bare⟩
  rw [if_neg h] at e
  by_cases h : r = "Bare"
  · rw [if_pos h] at e; cases e; subst h; have e2 := hc.symm.trans T.n_Bare; cases e2; exact ⟨T.E_Bare, T.i_Bare_Bare⟩
  rw [if_neg h] at e
  by_cases h : r = "Shut"
  · rw [if_pos h] at e; cases e; subst h; have e2 := hc.symm.trans T.n_Shut; cases e2; exact ⟨T.E_Shut, T.i_Shut_Bare⟩
  rw [if_neg h] at e
  by_cases h : r = "NoRow"
  · rw [if_pos h] at e; cases e; subst h; have e2 := hc.symm.trans T.n_NoRow; cases e2; exact ⟨T.E_NoRow, T.i_NoRow_Bare⟩
  rw [if_neg h] at e
  by_cases h : r = "NoProgram"
  · rw [if_pos h] at e; cases e; subst h; have e2 := hc.symm.trans T.n_NoProgram; cases e2; exact ⟨T.E_NoProgram, T.i_NoProgram_Bare⟩
  rw [if_neg h] at e
  by_cases h : r = "NoText"
  · rw [if_pos h] at e; cases e; subst h; have e2 := hc.symm.trans T.n_NoText; cases e2; exact ⟨T.E_NoText, T.i_NoText_Bare⟩
  rw [if_neg h] at e
  by_cases h : r = "NoContract"
  · rw [if_pos h] at e; cases e; subst h; have e2 := hc.symm.trans T.n_NoContract; cases e2; exact ⟨T.E_NoContract, T.i_NoContract_Bare⟩
  rw [if_neg h] at e
  by_cases h : r = "NoInput"
  · rw [if_pos h] at e; cases e; subst h; have e2 := hc.symm.trans T.n_NoInput; cases e2; exact ⟨T.E_NoInput, T.i_NoInput_Bare⟩
  rw [if_neg h] at e
  by_cases h : r = "TooMany"
  · rw [if_pos h] at e; cases e; subst h; have e2 := hc.symm.trans T.n_TooMany; cases e2; exact ⟨T.E_TooMany, T.i_TooMany_Bare⟩
  rw [if_neg h] at e
  by_cases h : r = "NotLet"
  · rw [if_pos h] at e; cases e; subst h; have e2 := hc.symm.trans T.n_NotLet; cases e2; exact ⟨T.E_NotLet, T.i_NotLet_Bare⟩
  rw [if_neg h] at e
  by_cases h : r = "NoCall"
  · rw [if_pos h] at e; cases e; subst h; have e2 := hc.symm.trans T.n_NoCall; cases e2; exact ⟨T.E_NoCall, T.i_NoCall_Bare⟩
  rw [if_neg h] at e
  by_cases h : r = "NoName"
  · rw [if_pos h] at e; cases e; subst h; have e2 := hc.symm.trans T.n_NoName; cases e2; exact ⟨T.E_NoName, T.i_NoName_Bare⟩
  rw [if_neg h] at e
  by_cases h : r = "NoShelf"
  · rw [if_pos h] at e; cases e; subst h; have e2 := hc.symm.trans T.n_NoShelf; cases e2; exact ⟨T.E_NoShelf, T.i_NoShelf_Bare⟩
  rw [if_neg h] at e
  cases e
theorem isK_ok_GateError (T : Txt K mg Ad0) : ∀ r b C, isK_GateError r = some b → ClsK K r C → ExcC K C ∧ PySem.W.kitOne K (.ref C) (.ref Ad0.x_GateError) = some b := by
  intro r b C e hc
  unfold isK_GateError at e
  by_cases h : r = "NoWord"
  · rw [if_pos h] at e; cases e; subst h; have e2 := hc.symm.trans T.n_NoWord; cases e2; exact ⟨T.E_NoWord, T.i_NoWord_GateError⟩
  rw [if_neg h] at e
  by_cases h : r = "NoBit"
  · rw [if_pos h] at e; cases e; subst h; have e2 := hc.symm.trans T.n_NoBit; cases e2; exact ⟨T.E_NoBit, T.i_NoBit_GateError⟩
  rw [if_neg h] at e
  by_cases h : r = "NoTable"
  · rw [if_pos h] at e; cases e; subst h; have e2 := hc.symm.trans T.n_NoTable; cases e2; exact ⟨T.E_NoTable, T.i_NoTable_GateError⟩
  rw [if_neg h] at e
  by_cases h : r = "Bare"
  · rw [if_pos h] at e; cases e; subst h; have e2 := hc.symm.trans T.n_Bare; cases e2; exact ⟨T.E_Bare, T.i_Bare_GateError⟩
  rw [if_neg h] at e
  by_cases h : r = "Shut"
  · rw [if_pos h] at e; cases e; subst h; have e2 := hc.symm.trans T.n_Shut; cases e2; exact ⟨T.E_Shut, T.i_Shut_GateError⟩
  rw [if_neg h] at e
  by_cases h : r = "NoRow"
  · rw [if_pos h] at e; cases e; subst h; have e2 := hc.symm.trans T.n_NoRow; cases e2; exact ⟨T.E_NoRow, T.i_NoRow_GateError⟩
  rw [if_neg h] at e
  by_cases h : r = "NoProgram"
  · rw [if_pos h] at e; cases e; subst h; have e2 := hc.symm.trans T.n_NoProgram; cases e2; exact ⟨T.E_NoProgram, T.i_NoProgram_GateError⟩
  rw [if_neg h] at e
  by_cases h : r = "NoText"
  · rw [if_pos h] at e; cases e; subst h; have e2 := hc.symm.trans T.n_NoText; cases e2; exact ⟨T.E_NoText, T.i_NoText_GateError⟩
  rw [if_neg h] at e
  by_cases h : r = "NoContract"
  · rw [if_pos h] at e; cases e; subst h; have e2 := hc.symm.trans T.n_NoContract; cases e2; exact ⟨T.E_NoContract, T.i_NoContract_GateError⟩
  rw [if_neg h] at e
  by_cases h : r = "NoInput"
  · rw [if_pos h] at e; cases e; subst h; have e2 := hc.symm.trans T.n_NoInput; cases e2; exact ⟨T.E_NoInput, T.i_NoInput_GateError⟩
  rw [if_neg h] at e
  by_cases h : r = "TooMany"
  · rw [if_pos h] at e; cases e; subst h; have e2 := hc.symm.trans T.n_TooMany; cases e2; exact ⟨T.E_TooMany, T.i_TooMany_GateError⟩
  rw [if_neg h] at e
  by_cases h : r = "NotLet"
  · rw [if_pos h] at e; cases e; subst h; have e2 := hc.symm.trans T.n_NotLet; cases e2; exact ⟨T.E_NotLet, T.i_NotLet_GateError⟩
  rw [if_neg h] at e
  by_cases h : r = "NoCall"
  · rw [if_pos h] at e; cases e; subst h; have e2 := hc.symm.trans T.n_NoCall; cases e2; exact ⟨T.E_NoCall, T.i_NoCall_GateError⟩
  rw [if_neg h] at e
  by_cases h : r = "NoName"
  · rw [if_pos h] at e; cases e; subst h; have e2 := hc.symm.trans T.n_NoName; cases e2; exact ⟨T.E_NoName, T.i_NoName_GateError⟩
  rw [if_neg h] at e
  by_cases h : r = "NoShelf"
  · rw [if_pos h] at e; cases e; subst h; have e2 := hc.symm.trans T.n_NoShelf; cases e2; exact ⟨T.E_NoShelf, T.i_NoShelf_GateError⟩
  rw [if_neg h] at e
  cases e
theorem isK_ok_IndexError (T : Txt K mg Ad0) : ∀ r b C, isK_IndexError r = some b → ClsK K r C → ExcC K C ∧ PySem.W.kitOne K (.ref C) (.type "IndexError") = some b := by
  intro r b C e hc
  unfold isK_IndexError at e
  by_cases h : r = "NoWord"
  · rw [if_pos h] at e; cases e; subst h; have e2 := hc.symm.trans T.n_NoWord; cases e2; exact ⟨T.E_NoWord, T.i_NoWord_IndexError⟩
  rw [if_neg h] at e
  by_cases h : r = "NoBit"
  · rw [if_pos h] at e; cases e; subst h; have e2 := hc.symm.trans T.n_NoBit; cases e2; exact ⟨T.E_NoBit, T.i_NoBit_IndexError⟩
  rw [if_neg h] at e
  by_cases h : r = "NoTable"
  · rw [if_pos h] at e; cases e; subst h; have e2 := hc.symm.trans T.n_NoTable; cases e2; exact ⟨T.E_NoTable, T.i_NoTable_IndexError⟩
  rw [if_neg h] at e
  by_cases h : r = "Bare"
  · rw [if_pos h] at e; cases e; subst h; have e2 := hc.symm.trans T.n_Bare; cases e2; exact ⟨T.E_Bare, T.i_Bare_IndexError⟩
  rw [if_neg h] at e
  by_cases h : r = "Shut"
  · rw [if_pos h] at e; cases e; subst h; have e2 := hc.symm.trans T.n_Shut; cases e2; exact ⟨T.E_Shut, T.i_Shut_IndexError⟩
  rw [if_neg h] at e
  by_cases h : r = "NoRow"
  · rw [if_pos h] at e; cases e; subst h; have e2 := hc.symm.trans T.n_NoRow; cases e2; exact ⟨T.E_NoRow, T.i_NoRow_IndexError⟩
  rw [if_neg h] at e
  by_cases h : r = "NoProgram"
  · rw [if_pos h] at e; cases e; subst h; have e2 := hc.symm.trans T.n_NoProgram; cases e2; exact ⟨T.E_NoProgram, T.i_NoProgram_IndexError⟩
  rw [if_neg h] at e
  by_cases h : r = "NoText"
  · rw [if_pos h] at e; cases e; subst h; have e2 := hc.symm.trans T.n_NoText; cases e2; exact ⟨T.E_NoText, T.i_NoText_IndexError⟩
  rw [if_neg h] at e
  by_cases h : r = "NoContract"
  · rw [if_pos h] at e; cases e; subst h; have e2 := hc.symm.trans T.n_NoContract; cases e2; exact ⟨T.E_NoContract, T.i_NoContract_IndexError⟩
  rw [if_neg h] at e
  by_cases h : r = "NoInput"
  · rw [if_pos h] at e; cases e; subst h; have e2 := hc.symm.trans T.n_NoInput; cases e2; exact ⟨T.E_NoInput, T.i_NoInput_IndexError⟩
  rw [if_neg h] at e
  by_cases h : r = "TooMany"
  · rw [if_pos h] at e; cases e; subst h; have e2 := hc.symm.trans T.n_TooMany; cases e2; exact ⟨T.E_TooMany, T.i_TooMany_IndexError⟩
  rw [if_neg h] at e
  by_cases h : r = "NotLet"
  · rw [if_pos h] at e; cases e; subst h; have e2 := hc.symm.trans T.n_NotLet; cases e2; exact ⟨T.E_NotLet, T.i_NotLet_IndexError⟩
  rw [if_neg h] at e
  by_cases h : r = "NoCall"
  · rw [if_pos h] at e; cases e; subst h; have e2 := hc.symm.trans T.n_NoCall; cases e2; exact ⟨T.E_NoCall, T.i_NoCall_IndexError⟩
  rw [if_neg h] at e
  by_cases h : r = "NoName"
  · rw [if_pos h] at e; cases e; subst h; have e2 := hc.symm.trans T.n_NoName; cases e2; exact ⟨T.E_NoName, T.i_NoName_IndexError⟩
  rw [if_neg h] at e
  by_cases h : r = "NoShelf"
  · rw [if_pos h] at e; cases e; subst h; have e2 := hc.symm.trans T.n_NoShelf; cases e2; exact ⟨T.E_NoShelf, T.i_NoShelf_IndexError⟩
  rw [if_neg h] at e
  cases e
theorem isK_ok_KeyError (T : Txt K mg Ad0) : ∀ r b C, isK_KeyError r = some b → ClsK K r C → ExcC K C ∧ PySem.W.kitOne K (.ref C) (.type "KeyError") = some b := by
  intro r b C e hc
  unfold isK_KeyError at e
  by_cases h : r = "NoWord"
  · rw [if_pos h] at e; cases e; subst h; have e2 := hc.symm.trans T.n_NoWord; cases e2; exact ⟨T.E_NoWord, T.i_NoWord_KeyError⟩
  rw [if_neg h] at e
  by_cases h : r = "NoBit"
  · rw [if_pos h] at e; cases e; subst h; have e2 := hc.symm.trans T.n_NoBit; cases e2; exact ⟨T.E_NoBit, T.i_NoBit_KeyError⟩
  rw [if_neg h] at e
  by_cases h : r = "NoTable"
  · rw [if_pos h] at e; cases e; subst h; have e2 := hc.symm.trans T.n_NoTable; cases e2; exact ⟨T.E_NoTable, T.i_NoTable_KeyError⟩
  rw [if_neg h] at e
  by_cases h : r = "Bare"
  · rw [if_pos h] at e; cases e; subst h; have e2 := hc.symm.trans T.n_Bare; cases e2; exact ⟨T.E_Bare, T.i_Bare_KeyError⟩
  rw [if_neg h] at e
  by_cases h : r = "Shut"
  · rw [if_pos h] at e; cases e; subst h; have e2 := hc.symm.trans T.n_Shut; cases e2; exact ⟨T.E_Shut, T.i_Shut_KeyError⟩
  rw [if_neg h] at e
  by_cases h : r = "NoRow"
  · rw [if_pos h] at e; cases e; subst h; have e2 := hc.symm.trans T.n_NoRow; cases e2; exact ⟨T.E_NoRow, T.i_NoRow_KeyError⟩
  rw [if_neg h] at e
  by_cases h : r = "NoProgram"
  · rw [if_pos h] at e; cases e; subst h; have e2 := hc.symm.trans T.n_NoProgram; cases e2; exact ⟨T.E_NoProgram, T.i_NoProgram_KeyError⟩
  rw [if_neg h] at e
  by_cases h : r = "NoText"
  · rw [if_pos h] at e; cases e; subst h; have e2 := hc.symm.trans T.n_NoText; cases e2; exact ⟨T.E_NoText, T.i_NoText_KeyError⟩
  rw [if_neg h] at e
  by_cases h : r = "NoContract"
  · rw [if_pos h] at e; cases e; subst h; have e2 := hc.symm.trans T.n_NoContract; cases e2; exact ⟨T.E_NoContract, T.i_NoContract_KeyError⟩
  rw [if_neg h] at e
  by_cases h : r = "NoInput"
  · rw [if_pos h] at e; cases e; subst h; have e2 := hc.symm.trans T.n_NoInput; cases e2; exact ⟨T.E_NoInput, T.i_NoInput_KeyError⟩
  rw [if_neg h] at e
  by_cases h : r = "TooMany"
  · rw [if_pos h] at e; cases e; subst h; have e2 := hc.symm.trans T.n_TooMany; cases e2; exact ⟨T.E_TooMany, T.i_TooMany_KeyError⟩
  rw [if_neg h] at e
  by_cases h : r = "NotLet"
  · rw [if_pos h] at e; cases e; subst h; have e2 := hc.symm.trans T.n_NotLet; cases e2; exact ⟨T.E_NotLet, T.i_NotLet_KeyError⟩
  rw [if_neg h] at e
  by_cases h : r = "NoCall"
  · rw [if_pos h] at e; cases e; subst h; have e2 := hc.symm.trans T.n_NoCall; cases e2; exact ⟨T.E_NoCall, T.i_NoCall_KeyError⟩
  rw [if_neg h] at e
  by_cases h : r = "NoName"
  · rw [if_pos h] at e; cases e; subst h; have e2 := hc.symm.trans T.n_NoName; cases e2; exact ⟨T.E_NoName, T.i_NoName_KeyError⟩
  rw [if_neg h] at e
  by_cases h : r = "NoShelf"
  · rw [if_pos h] at e; cases e; subst h; have e2 := hc.symm.trans T.n_NoShelf; cases e2; exact ⟨T.E_NoShelf, T.i_NoShelf_KeyError⟩
  rw [if_neg h] at e
  cases e
theorem isK_ok_LookupError (T : Txt K mg Ad0) : ∀ r b C, isK_LookupError r = some b → ClsK K r C → ExcC K C ∧ PySem.W.kitOne K (.ref C) (.type "LookupError") = some b := by
  intro r b C e hc
  unfold isK_LookupError at e
  by_cases h : r = "NoWord"
  · rw [if_pos h] at e; cases e; subst h; have e2 := hc.symm.trans T.n_NoWord; cases e2; exact ⟨T.E_NoWord, T.i_NoWord_LookupError⟩
  rw [if_neg h] at e
  by_cases h : r = "NoBit"
  · rw [if_pos h] at e; cases e; subst h; have e2 := hc.symm.trans T.n_NoBit; cases e2; exact ⟨T.E_NoBit, T.i_NoBit_LookupError⟩
  rw [if_neg h] at e
  by_cases h : r = "NoTable"
  · rw [if_pos h] at e; cases e; subst h; have e2 := hc.symm.trans T.n_NoTable; cases e2; exact ⟨T.E_NoTable, T.i_NoTable_LookupError⟩
  rw [if_neg h] at e
  by_cases h : r = "Bare"
  · rw [if_pos h] at e; cases e; subst h; have e2 := hc.symm.trans T.n_Bare; cases e2; exact ⟨T.E_Bare, T.i_Bare_LookupError⟩
  rw [if_neg h] at e
  by_cases h : r = "Shut"
  · rw [if_pos h] at e; cases e; subst h; have e2 := hc.symm.trans T.n_Shut; cases e2; exact ⟨T.E_Shut, T.i_Shut_LookupError⟩
  rw [if_neg h] at e
  by_cases h : r = "NoRow"
  · rw [if_pos h] at e; cases e; subst h; have e2 := hc.symm.trans T.n_NoRow; cases e2; exact ⟨T.E_NoRow, T.i_NoRow_LookupError⟩
  rw [if_neg h] at e
  by_cases h : r = "NoProgram"
  · rw [if_pos h] at e; cases e; subst h; have e2 := hc.symm.trans T.n_NoProgram; cases e2; exact ⟨T.E_NoProgram, T.i_NoProgram_LookupError⟩
  rw [if_neg h] at e
  by_cases h : r = "NoText"
  · rw [if_pos h] at e; cases e; subst h; have e2 := hc.symm.trans T.n_NoText; cases e2; exact ⟨T.E_NoText, T.i_NoText_LookupError⟩
  rw [if_neg h] at e
  by_cases h : r = "NoContract"
  · rw [if_pos h] at e; cases e; subst h; have e2 := hc.symm.trans T.n_NoContract; cases e2; exact ⟨T.E_NoContract, T.i_NoContract_LookupError⟩
  rw [if_neg h] at e
  by_cases h : r = "NoInput"
  · rw [if_pos h] at e; cases e; subst h; have e2 := hc.symm.trans T.n_NoInput; cases e2; exact ⟨T.E_NoInput, T.i_NoInput_LookupError⟩
  rw [if_neg h] at e
  by_cases h : r = "TooMany"
  · rw [if_pos h] at e; cases e; subst h; have e2 := hc.symm.trans T.n_TooMany; cases e2; exact ⟨T.E_TooMany, T.i_TooMany_LookupError⟩
  rw [if_neg h] at e
  by_cases h : r = "NotLet"
  · rw [if_pos h] at e; cases e; subst h; have e2 := hc.symm.trans T.n_NotLet; cases e2; exact ⟨T.E_NotLet, T.i_NotLet_LookupError⟩
  rw [if_neg h] at e
  by_cases h : r = "NoCall"
  · rw [if_pos h] at e; cases e; subst h; have e2 := hc.symm.trans T.n_NoCall; cases e2; exact ⟨T.E_NoCall, T.i_NoCall_LookupError⟩
  rw [if_neg h] at e
  by_cases h : r = "NoName"
  · rw [if_pos h] at e; cases e; subst h; have e2 := hc.symm.trans T.n_NoName; cases e2; exact ⟨T.E_NoName, T.i_NoName_LookupError⟩
  rw [if_neg h] at e
  by_cases h : r = "NoShelf"
  · rw [if_pos h] at e; cases e; subst h; have e2 := hc.symm.trans T.n_NoShelf; cases e2; exact ⟨T.E_NoShelf, T.i_NoShelf_LookupError⟩
  rw [if_neg h] at e
  cases e
theorem isK_ok_NoBit (T : Txt K mg Ad0) : ∀ r b C, isK_NoBit r = some b → ClsK K r C → ExcC K C ∧ PySem.W.kitOne K (.ref C) (.ref Ad0.x_NoBit) = some b := by
  intro r b C e hc
  unfold isK_NoBit at e
  by_cases h : r = "NoWord"
  · rw [if_pos h] at e; cases e; subst h; have e2 := hc.symm.trans T.n_NoWord; cases e2; exact ⟨T.E_NoWord, T.i_NoWord_NoBit⟩
  rw [if_neg h] at e
  by_cases h : r = "NoBit"
  · rw [if_pos h] at e; cases e; subst h; have e2 := hc.symm.trans T.n_NoBit; cases e2; exact ⟨T.E_NoBit, T.i_NoBit_NoBit⟩
  rw [if_neg h] at e
  by_cases h : r = "NoTable"
  · rw [if_pos h] at e; cases e; subst h; have e2 := hc.symm.trans T.n_NoTable; cases e2; exact ⟨T.E_NoTable, T.i_NoTable_NoBit⟩
  rw [if_neg h] at e
  by_cases h : r = "Bare"
  · rw [if_pos h] at e; cases e; subst h; have e2 := hc.symm.trans T.n_Bare; cases e2; exact ⟨T.E_Bare, T.i_Bare_NoBit⟩
  rw [if_neg h] at e
  by_cases h : r = "Shut"
  · rw [if_pos h] at e; cases e; subst h; have e2 := hc.symm.trans T.n_Shut; cases e2; exact ⟨T.E_Shut, T.i_Shut_NoBit⟩
  rw [if_neg h] at e
  by_cases h : r = "NoRow"
  · rw [if_pos h] at e; cases e; subst h; have e2 := hc.symm.trans T.n_NoRow; cases e2; exact ⟨T.E_NoRow, T.i_NoRow_NoBit⟩
  rw [if_neg h] at e
  by_cases h : r = "NoProgram"
  · rw [if_pos h] at e; cases e; subst h; have e2 := hc.symm.trans T.n_NoProgram; cases e2; exact ⟨T.E_NoProgram, T.i_NoProgram_NoBit⟩
  rw [if_neg h] at e
  by_cases h : r = "NoText"
  · rw [if_pos h] at e; cases e; subst h; have e2 := hc.symm.trans T.n_NoText; cases e2; exact ⟨T.E_NoText, T.i_NoText_NoBit⟩
  rw [if_neg h] at e
  by_cases h : r = "NoContract"
  · rw [if_pos h] at e; cases e; subst h; have e2 := hc.symm.trans T.n_NoContract; cases e2; exact ⟨T.E_NoContract, T.i_NoContract_NoBit⟩
  rw [if_neg h] at e
  by_cases h : r = "NoInput"
  · rw [if_pos h] at e; cases e; subst h; have e2 := hc.symm.trans T.n_NoInput; cases e2; exact ⟨T.E_NoInput, T.i_NoInput_NoBit⟩
  rw [if_neg h] at e
  by_cases h : r = "TooMany"
  · rw [if_pos h] at e; cases e; subst h; have e2 := hc.symm.trans T.n_TooMany; cases e2; exact ⟨T.E_TooMany, T.i_TooMany_NoBit⟩
  rw [if_neg h] at e
  by_cases h : r = "NotLet"
  · rw [if_pos h] at e; cases e; subst h; have e2 := hc.symm.trans T.n_NotLet; cases e2; exact ⟨T.E_NotLet, T.i_NotLet_NoBit⟩
  rw [if_neg h] at e
  by_cases h : r = "NoCall"
  · rw [if_pos h] at e; cases e; subst h; have e2 := hc.symm.trans T.n_NoCall; cases e2; exact ⟨T.E_NoCall, T.i_NoCall_NoBit⟩
  rw [if_neg h] at e
  by_cases h : r = "NoName"
  · rw [if_pos h] at e; cases e; subst h; have e2 := hc.symm.trans T.n_NoName; cases e2; exact ⟨T.E_NoName, T.i_NoName_NoBit⟩
  rw [if_neg h] at e
  by_cases h : r = "NoShelf"
  · rw [if_pos h] at e; cases e; subst h; have e2 := hc.symm.trans T.n_NoShelf; cases e2; exact ⟨T.E_NoShelf, T.i_NoShelf_NoBit⟩
  rw [if_neg h] at e
  cases e
theorem isK_ok_NoCall (T : Txt K mg Ad0) : ∀ r b C, isK_NoCall r = some b → ClsK K r C → ExcC K C ∧ PySem.W.kitOne K (.ref C) (.ref Ad0.x_NoCall) = some b := by
  intro r b C e hc
  unfold isK_NoCall at e
  by_cases h : r = "NoWord"
  · rw [if_pos h] at e; cases e; subst h; have e2 := hc.symm.trans T.n_NoWord; cases e2; exact ⟨T.E_NoWord, T.i_NoWord_NoCall⟩
  rw [if_neg h] at e
  by_cases h : r = "NoBit"
  · rw [if_pos h] at e; cases e; subst h; have e2 := hc.symm.trans T.n_NoBit; cases e2; exact ⟨T.E_NoBit, T.i_NoBit_NoCall⟩
  rw [if_neg h] at e
  by_cases h : r = "NoTable"
  · rw [if_pos h] at e; cases e; subst h; have e2 := hc.symm.trans T.n_NoTable; cases e2; exact ⟨T.E_NoTable, T.i_NoTable_NoCall⟩
  rw [if_neg h] at e
  by_cases h : r = "Bare"
  · rw [if_pos h] at e; cases e; subst h; have e2 := hc.symm.trans T.n_Bare; cases e2; exact ⟨T.E_Bare, T.i_Bare_NoCall⟩
  rw [if_neg h] at e
  by_cases h : r = "Shut"
  · rw [if_pos h] at e; cases e; subst h; have e2 := hc.symm.trans T.n_Shut; cases e2; exact ⟨T.E_Shut, T.i_Shut_NoCall⟩
  rw [if_neg h] at e
  by_cases h : r = "NoRow"
  · rw [if_pos h] at e; cases e; subst h; have e2 := hc.symm.trans T.n_NoRow; cases e2; exact ⟨T.E_NoRow, T.i_NoRow_NoCall⟩
  rw [if_neg h] at e
  by_cases h : r = "NoProgram"
  · rw [if_pos h] at e; cases e; subst h; have e2 := hc.symm.trans T.n_NoProgram; cases e2; exact ⟨T.E_NoProgram, T.i_NoProgram_NoCall⟩
  rw [if_neg h] at e
  by_cases h : r = "NoText"
  · rw [if_pos h] at e; cases e; subst h; have e2 := hc.symm.trans T.n_NoText; cases e2; exact ⟨T.E_NoText, T.i_NoText_NoCall⟩
  rw [if_neg h] at e
  by_cases h : r = "NoContract"
  · rw [if_pos h] at e; cases e; subst h; have e2 := hc.symm.trans T.n_NoContract; cases e2; exact ⟨T.E_NoContract, T.i_NoContract_NoCall⟩
  rw [if_neg h] at e
  by_cases h : r = "NoInput"
  · rw [if_pos h] at e; cases e; subst h; have e2 := hc.symm.trans T.n_NoInput; cases e2; exact ⟨T.E_NoInput, T.i_NoInput_NoCall⟩
  rw [if_neg h] at e
  by_cases h : r = "TooMany"
  · rw [if_pos h] at e; cases e; subst h; have e2 := hc.symm.trans T.n_TooMany; cases e2; exact ⟨T.E_TooMany, T.i_TooMany_NoCall⟩
  rw [if_neg h] at e
  by_cases h : r = "NotLet"
  · rw [if_pos h] at e; cases e; subst h; have e2 := hc.symm.trans T.n_NotLet; cases e2; exact ⟨T.E_NotLet, T.i_NotLet_NoCall⟩
  rw [if_neg h] at e
  by_cases h : r = "NoCall"
  · rw [if_pos h] at e; cases e; subst h; have e2 := hc.symm.trans T.n_NoCall; cases e2; exact ⟨T.E_NoCall, T.i_NoCall_NoCall⟩
  rw [if_neg h] at e
  by_cases h : r = "NoName"
  · rw [if_pos h] at e; cases e; subst h; have e2 := hc.symm.trans T.n_NoName; cases e2; exact ⟨T.E_NoName, T.i_NoName_NoCall⟩
  rw [if_neg h] at e
  by_cases h : r = "NoShelf"
  · rw [if_pos h] at e; cases e; subst h; have e2 := hc.symm.trans T.n_NoShelf; cases e2; exact ⟨T.E_NoShelf, T.i_NoShelf_NoCall⟩
  rw [if_neg h] at e
  cases e
theorem isK_ok_NoContract (T : Txt K mg Ad0) : ∀ r b C, isK_NoContract r = some b → ClsK K r C → ExcC K C ∧ PySem.W.kitOne K (.ref C) (.ref Ad0.x_NoContract) = some b := by
  intro r b C e hc
  unfold isK_NoContract at e
  by_cases h : r = "NoWord"
  · rw [if_pos h] at e; cases e; subst h; have e2 := hc.symm.trans T.n_NoWord; cases e2; exact ⟨T.E_NoWord, T.i_NoWord_NoContract⟩
  rw [if_neg h] at e
  by_cases h : r = "NoBit"
  · rw [if_pos h] at e; cases e; subst h; have e2 := hc.symm.trans T.n_NoBit; cases e2; exact ⟨T.E_NoBit, T.i_NoBit_NoContract⟩
  rw [if_neg h] at e
  by_cases h : r = "NoTable"
  · rw [if_pos h] at e; cases e; subst h; have e2 := hc.symm.trans T.n_NoTable; cases e2; exact ⟨T.E_NoTable, T.i_NoTable_NoContract⟩
  rw [if_neg h] at e
  by_cases h : r = "Bare"
  · rw [if_pos h] at e; cases e; subst h; have e2 := hc.symm.trans T.n_Bare; cases e2; exact ⟨T.E_Bare, T.i_Bare_NoContract⟩
  rw [if_neg h] at e
  by_cases h : r = "Shut"
  · rw [if_pos h] at e; cases e; subst h; have e2 := hc.symm.trans T.n_Shut; cases e2; exact ⟨T.E_Shut, T.i_Shut_NoContract⟩
  rw [if_neg h] at e
  by_cases h : r = "NoRow"
  · rw [if_pos h] at e; cases e; subst h; have e2 := hc.symm.trans T.n_NoRow; cases e2; exact ⟨T.E_NoRow, T.i_NoRow_NoContract⟩
  rw [if_neg h] at e
  by_cases h : r = "NoProgram"
  · rw [if_pos h] at e; cases e; subst h; have e2 := hc.symm.trans T.n_NoProgram; cases e2; exact ⟨T.E_NoProgram, T.i_NoProgram_NoContract⟩
  rw [if_neg h] at e
  by_cases h : r = "NoText"
  · rw [if_pos h] at e; cases e; subst h; have e2 := hc.symm.trans T.n_NoText; cases e2; exact ⟨T.E_NoText, T.i_NoText_NoContract⟩
  rw [if_neg h] at e
  by_cases h : r = "NoContract"
  · rw [if_pos h] at e; cases e; subst h; have e2 := hc.symm.trans T.n_NoContract; cases e2; exact ⟨T.E_NoContract, T.i_NoContract_NoContract⟩
  rw [if_neg h] at e
  by_cases h : r = "NoInput"
  · rw [if_pos h] at e; cases e; subst h; have e2 := hc.symm.trans T.n_NoInput; cases e2; exact ⟨T.E_NoInput, T.i_NoInput_NoContract⟩
  rw [if_neg h] at e
  by_cases h : r = "TooMany"
  · rw [if_pos h] at e; cases e; subst h; have e2 := hc.symm.trans T.n_TooMany; cases e2; exact ⟨T.E_TooMany, T.i_TooMany_NoContract⟩
  rw [if_neg h] at e
  by_cases h : r = "NotLet"
  · rw [if_pos h] at e; cases e; subst h; have e2 := hc.symm.trans T.n_NotLet; cases e2; exact ⟨T.E_NotLet, T.i_NotLet_NoContract⟩
  rw [if_neg h] at e
  by_cases h : r = "NoCall"
  · rw [if_pos h] at e; cases e; subst h; have e2 := hc.symm.trans T.n_NoCall; cases e2; exact ⟨T.E_NoCall, T.i_NoCall_NoContract⟩
  rw [if_neg h] at e
  by_cases h : r = "NoName"
  · rw [if_pos h] at e; cases e; subst h; have e2 := hc.symm.trans T.n_NoName; cases e2; exact ⟨T.E_NoName, T.i_NoName_NoContract⟩
  rw [if_neg h] at e
  by_cases h : r = "NoShelf"
  · rw [if_pos h] at e; cases e; subst h; have e2 := hc.symm.trans T.n_NoShelf; cases e2; exact ⟨T.E_NoShelf, T.i_NoShelf_NoContract⟩
  rw [if_neg h] at e
  cases e
theorem isK_ok_NoInput (T : Txt K mg Ad0) : ∀ r b C, isK_NoInput r = some b → ClsK K r C → ExcC K C ∧ PySem.W.kitOne K (.ref C) (.ref Ad0.x_NoInput) = some b := by
  intro r b C e hc
  unfold isK_NoInput at e
  by_cases h : r = "NoWord"
  · rw [if_pos h] at e; cases e; subst h; have e2 := hc.symm.trans T.n_NoWord; cases e2; exact ⟨T.E_NoWord, T.i_NoWord_NoInput⟩
  rw [if_neg h] at e
  by_cases h : r = "NoBit"
  · rw [if_pos h] at e; cases e; subst h; have e2 := hc.symm.trans T.n_NoBit; cases e2; exact ⟨T.E_NoBit, T.i_NoBit_NoInput⟩
  rw [if_neg h] at e
  by_cases h : r = "NoTable"
  · rw [if_pos h] at e; cases e; subst h; have e2 := hc.symm.trans T.n_NoTable; cases e2; exact ⟨T.E_NoTable, T.i_NoTable_NoInput⟩
  rw [if_neg h] at e
  by_cases h : r = "Bare"
  · rw [if_pos h] at e; cases e; subst h; have e2 := hc.symm.trans T.n_Bare; cases e2; exact ⟨T.E_Bare, T.i_Bare_NoInput⟩
  rw [if_neg h] at e
  by_cases h : r = "Shut"
  · rw [if_pos h] at e; cases e; subst h; have e2 := hc.symm.trans T.n_Shut; cases e2; exact ⟨T.E_Shut, T.i_Shut_NoInput⟩
  rw [if_neg h] at e
  by_cases h : r = "NoRow"
  · rw [if_pos h] at e; cases e; subst h; have e2 := hc.symm.trans T.n_NoRow; cases e2; exact ⟨T.E_NoRow, T.i_NoRow_NoInput⟩
  rw [if_neg h] at e
  by_cases h : r = "NoProgram"
  · rw [if_pos h] at e; cases e; subst h; have e2 := hc.symm.trans T.n_NoProgram; cases e2; exact ⟨T.E_NoProgram, T.i_NoProgram_NoInput⟩
  rw [if_neg h] at e
  by_cases h : r = "NoText"
  · rw [if_pos h] at e; cases e; subst h; have e2 := hc.symm.trans T.n_NoText; cases e2; exact ⟨T.E_NoText, T.i_NoText_NoInput⟩
  rw [if_neg h] at e
  by_cases h : r = "NoContract"
  · rw [if_pos h] at e; cases e; subst h; have e2 := hc.symm.trans T.n_NoContract; cases e2; exact ⟨T.E_NoContract, T.i_NoContract_NoInput⟩
  rw [if_neg h] at e
  by_cases h : r = "NoInput"
  · rw [if_pos h] at e; cases e; subst h; have e2 := hc.symm.trans T.n_NoInput; cases e2; exact ⟨T.E_NoInput, T.i_NoInput_NoInput⟩
  rw [if_neg h] at e
  by_cases h : r = "TooMany"
  · rw [if_pos h] at e; cases e; subst h; have e2 := hc.symm.trans T.n_TooMany; cases e2; exact ⟨T.E_TooMany, T.i_TooMany_NoInput⟩
  rw [if_neg h] at e
  by_cases h : r = "NotLet"
  · rw [if_pos h] at e; cases e; subst h; have e2 := hc.symm.trans T.n_NotLet; cases e2; exact ⟨T.E_NotLet, T.i_NotLet_NoInput⟩
  rw [if_neg h] at e
  by_cases h : r = "NoCall"
  · rw [if_pos h] at e; cases e; subst h; have e2 := hc.symm.trans T.n_NoCall; cases e2; exact ⟨T.E_NoCall, T.i_NoCall_NoInput⟩
  rw [if_neg h] at e
  by_cases h : r = "NoName"
  · rw [if_pos h] at e; cases e; subst h; have e2 := hc.symm.trans T.n_NoName; cases e2; exact ⟨T.E_NoName, T.i_NoName_NoInput⟩
  rw [if_neg h] at e
  by_cases h : r = "NoShelf"
  · rw [if_pos h] at e; cases e; subst h; have e2 := hc.symm.trans T.n_NoShelf; cases e2; exact ⟨T.E_NoShelf, T.i_NoShelf_NoInput⟩
  rw [if_neg h] at e
  cases e
theorem isK_ok_NoName (T : Txt K mg Ad0) : ∀ r b C, isK_NoName r = some b → ClsK K r C → ExcC K C ∧ PySem.W.kitOne K (.ref C) (.ref Ad0.x_NoName) = some b := by
  intro r b C e hc
  unfold isK_NoName at e
  by_cases h : r = "NoWord"
  · rw [if_pos h] at e; cases e; subst h; have e2 := hc.symm.trans T.n_NoWord; cases e2; exact ⟨T.E_NoWord, T.i_NoWord_NoName⟩
  rw [if_neg h] at e
  by_cases h : r = "NoBit"
  · rw [if_pos h] at e; cases e; subst h; have e2 := hc.symm.trans T.n_NoBit; cases e2; exact ⟨T.E_NoBit, T.i_NoBit_NoName⟩
  rw [if_neg h] at e
  by_cases h : r = "NoTable"
  · rw [if_pos h] at e; cases e; subst h; have e2 := hc.symm.trans T.n_NoTable; cases e2; exact ⟨T.E_NoTable, T.i_NoTable_NoName⟩
  rw [if_neg h] at e
  by_cases h : r = "Bare"
  · rw [if_pos h] at e; cases e; subst h; have e2 := hc.symm.trans T.n_Bare; cases e2; exact ⟨T.E_Bare, T.i_Bare_NoName⟩
  rw [if_neg h] at e
  by_cases h : r = "Shut"
  · rw [if_pos h] at e; cases e; subst h; have e2 := hc.symm.trans T.n_Shut; cases e2; exact ⟨T.E_Shut, T.i_Shut_NoName⟩
  rw [if_neg h] at e
  by_cases h : r = "NoRow"
  · rw [if_pos h] at e; cases e; subst h; have e2 := hc.symm.trans T.n_NoRow; cases e2; exact ⟨T.E_NoRow, T.i_NoRow_NoName⟩
  rw [if_neg h] at e
  by_cases h : r = "NoProgram"
  · rw [if_pos h] at e; cases e; subst h; have e2 := hc.symm.trans T.n_NoProgram; cases e2; exact ⟨T.E_NoProgram, T.i_NoProgram_NoName⟩
  rw [if_neg h] at e
  by_cases h : r = "NoText"
  · rw [if_pos h] at e; cases e; subst h; have e2 := hc.symm.trans T.n_NoText; cases e2; exact ⟨T.E_NoText, T.i_NoText_NoName⟩
  rw [if_neg h] at e
  by_cases h : r = "NoContract"
  · rw [if_pos h] at e; cases e; subst h; have e2 := hc.symm.trans T.n_NoContract; cases e2; exact ⟨T.E_NoContract, T.i_NoContract_NoName⟩
  rw [if_neg h] at e
  by_cases h : r = "NoInput"
  · rw [if_pos h] at e; cases e; subst h; have e2 := hc.symm.trans T.n_NoInput; cases e2; exact ⟨T.E_NoInput, T.i_NoInput_NoName⟩
  rw [if_neg h] at e
  by_cases h : r = "TooMany"
  · rw [if_pos h] at e; cases e; subst h; have e2 := hc.symm.trans T.n_TooMany; cases e2; exact ⟨T.E_TooMany, T.i_TooMany_NoName⟩
  rw [if_neg h] at e
  by_cases h : r = "NotLet"
  · rw [if_pos h] at e; cases e; subst h; have e2 := hc.symm.trans T.n_NotLet; cases e2; exact ⟨T.E_NotLet, T.i_NotLet_NoName⟩
  rw [if_neg h] at e
  by_cases h : r = "NoCall"
  · rw [if_pos h] at e; cases e; subst h; have e2 := hc.symm.trans T.n_NoCall; cases e2; exact ⟨T.E_NoCall, T.i_NoCall_NoName⟩
  rw [if_neg h] at e
  by_cases h : r = "NoName"
  · rw [if_pos h] at e; cases e; subst h; have e2 := hc.symm.trans T.n_NoName; cases e2; exact ⟨T.E_NoName, T.i_NoName_NoName⟩
  rw [if_neg h] at e
  by_cases h : r = "NoShelf"
  · rw [if_pos h] at e; cases e; subst h; have e2 := hc.symm.trans T.n_NoShelf; cases e2; exact ⟨T.E_NoShelf, T.i_NoShelf_NoName⟩
  rw [if_neg h] at e
  cases e
theorem isK_ok_NoProgram (T : Txt K mg Ad0) : ∀ r b C, isK_NoProgram r = some b → ClsK K r C → ExcC K C ∧ PySem.W.kitOne K (.ref C) (.ref Ad0.x_NoProgram) = some b := by
  intro r b C e hc
  unfold isK_NoProgram at e
  by_cases h : r = "NoWord"
  · rw [if_pos h] at e; cases e; subst h; have e2 := hc.symm.trans T.n_NoWord; cases e2; exact ⟨T.E_NoWord, T.i_NoWord_NoProgram⟩
  rw [if_neg h] at e
  by_cases h : r = "NoBit"
  · rw [if_pos h] at e; cases e; subst h; have e2 := hc.symm.trans T.n_NoBit; cases e2; exact ⟨T.E_NoBit, T.i_NoBit_NoProgram⟩
  rw [if_neg h] at e
  by_cases h : r = "NoTable"
  · rw [if_pos h] at e; cases e; subst h; have e2 := hc.symm.trans T.n_NoTable; cases e2; exact ⟨T.E_NoTable, T.i_NoTable_NoProgram⟩
  rw [if_neg h] at e
  by_cases h : r = "Bare"
  · rw [if_pos h] at e; cases e; subst h; have e2 := hc.symm.trans T.n_Bare; cases e2; exact ⟨T.E_Bare, T.i_Bare_NoProgram⟩
  rw [if_neg h] at e
  by_cases h : r = "Shut"
  · rw [if_pos h] at e; cases e; subst h; have e2 := hc.symm.trans T.n_Shut; cases e2; exact ⟨T.E_Shut, T.i_Shut_NoProgram⟩
  rw [if_neg h] at e
  by_cases h : r = "NoRow"
  · rw [if_pos h] at e; cases e; subst h; have e2 := hc.symm.trans T.n_NoRow; cases e2; exact ⟨T.E_NoRow, T.i_NoRow_NoProgram⟩
  rw [if_neg h] at e
  by_cases h : r = "NoProgram"
  · rw [if_pos h] at e; cases e; subst h; have e2 := hc.symm.trans T.n_NoProgram; cases e2; exact ⟨T.E_NoProgram, T.i_NoProgram_NoProgram⟩
  rw [if_neg h] at e
  by_cases h : r = "NoText"
  · rw [if_pos h] at e; cases e; subst h; have e2 := hc.symm.trans T.n_NoText; cases e2; exact ⟨T.E_NoText, T.i_NoText_NoProgram⟩
  rw [if_neg h] at e
  by_cases h : r = "NoContract"
  · rw [if_pos h] at e; cases e; subst h; have e2 := hc.symm.trans T.n_NoContract; cases e2; exact ⟨T.E_NoContract, T.i_NoContract_NoProgram⟩
  rw [if_neg h] at e
  by_cases h : r = "NoInput"
  · rw [if_pos h] at e; cases e; subst h; have e2 := hc.symm.trans T.n_NoInput; cases e2; exact ⟨T.E_NoInput, T.i_NoInput_NoProgram⟩
  rw [if_neg h] at e
  by_cases h : r = "TooMany"
  · rw [if_pos h] at e; cases e; subst h; have e2 := hc.symm.trans T.n_TooMany; cases e2; exact ⟨T.E_TooMany, T.i_TooMany_NoProgram⟩
  rw [if_neg h] at e
  by_cases h : r = "NotLet"
  · rw [if_pos h] at e; cases e; subst h; have e2 := hc.symm.trans T.n_NotLet; cases e2; exact ⟨T.E_NotLet, T.i_NotLet_NoProgram⟩
  rw [if_neg h] at e
  by_cases h : r = "NoCall"
  · rw [if_pos h] at e; cases e; subst h; have e2 := hc.symm.trans T.n_NoCall; cases e2; exact ⟨T.E_NoCall, T.i_NoCall_NoProgram⟩
  rw [if_neg h] at e
  by_cases h : r = "NoName"
  · rw [if_pos h] at e; cases e; subst h; have e2 := hc.symm.trans T.n_NoName; cases e2; exact ⟨T.E_NoName, T.i_NoName_NoProgram⟩
  rw [if_neg h] at e
  by_cases h : r = "NoShelf"
  · rw [if_pos h] at e; cases e; subst h; have e2 := hc.symm.trans T.n_NoShelf; cases e2; exact ⟨T.E_NoShelf, T.i_NoShelf_NoProgram⟩
  rw [if_neg h] at e
  cases e
theorem isK_ok_NoRow (T : Txt K mg Ad0) : ∀ r b C, isK_NoRow r = some b → ClsK K r C → ExcC K C ∧ PySem.W.kitOne K (.ref C) (.ref Ad0.x_NoRow) = some b := by
  intro r b C e hc
  unfold isK_NoRow at e
  by_cases h : r = "NoWord"
  · rw [if_pos h] at e; cases e; subst h; have e2 := hc.symm.trans T.n_NoWord; cases e2; exact ⟨T.E_NoWord, T.i_NoWord_NoRow⟩
  rw [if_neg h] at e
  by_cases h : r = "NoBit"
  · rw [if_pos h] at e; cases e; subst h; have e2 := hc.symm.trans T.n_NoBit; cases e2; exact ⟨T.E_NoBit, T.i_NoBit_NoRow⟩
  rw [if_neg h] at e
  by_cases h : r = "NoTable"
  · rw [if_pos h] at e; cases e; subst h; have e2 := hc.symm.trans T.n_NoTable; cases e2; exact ⟨T.E_NoTable, T.i_NoTable_NoRow⟩
  rw [if_neg h] at e
  by_cases h : r = "Bare"
  · rw [if_pos h] at e; cases e; subst h; have e2 := hc.symm.trans T.n_Bare; cases e2; exact ⟨T.E_Bare, T.i_Bare_NoRow⟩
  rw [if_neg h] at e
  by_cases h : r = "Shut"
  · rw [if_pos h] at e; cases e; subst h; have e2 := hc.symm.trans T.n_Shut; cases e2; exact ⟨T.E_Shut, T.i_Shut_NoRow⟩
  rw [if_neg h] at e
  by_cases h : r = "NoRow"
  · rw [if_pos h] at e; cases e; subst h; have e2 := hc.symm.trans T.n_NoRow; cases e2; exact ⟨T.E_NoRow, T.i_NoRow_NoRow⟩
  rw [if_neg h] at e
  by_cases h : r = "NoProgram"
  · rw [if_pos h] at e; cases e; subst h; have e2 := hc.symm.trans T.n_NoProgram; cases e2; exact ⟨T.E_NoProgram, T.i_NoProgram_NoRow⟩
  rw [if_neg h] at e
  by_cases h : r = "NoText"
  · rw [if_pos h] at e; cases e; subst h; have e2 := hc.symm.trans T.n_NoText; cases e2; exact ⟨T.E_NoText, T.i_NoText_NoRow⟩
  rw [if_neg h] at e
  by_cases h : r = "NoContract"
  · rw [if_pos h] at e; cases e; subst h; have e2 := hc.symm.trans T.n_NoContract; cases e2; exact ⟨T.E_NoContract, T.i_NoContract_NoRow⟩
  rw [if_neg h] at e
  by_cases h : r = "NoInput"
  · rw [if_pos h] at e; cases e; subst h; have e2 := hc.symm.trans T.n_NoInput; cases e2; exact ⟨T.E_NoInput, T.i_NoInput_NoRow⟩
  rw [if_neg h] at e
  by_cases h : r = "TooMany"
  · rw [if_pos h] at e; cases e; subst h; have e2 := hc.symm.trans T.n_TooMany; cases e2; exact ⟨T.E_TooMany, T.i_TooMany_NoRow⟩
  rw [if_neg h] at e
  by_cases h : r = "NotLet"
  · rw [if_pos h] at e; cases e; subst h; have e2 := hc.symm.trans T.n_NotLet; cases e2; exact ⟨T.E_NotLet, T.i_NotLet_NoRow⟩
  rw [if_neg h] at e
  by_cases h : r = "NoCall"
  · rw [if_pos h] at e; cases e; subst h; have e2 := hc.symm.trans T.n_NoCall; cases e2; exact ⟨T.E_NoCall, T.i_NoCall_NoRow⟩
  rw [if_neg h] at e
  by_cases h : r = "NoName"
  · rw [if_pos h] at e; cases e; subst h; have e2 := hc.symm.trans T.n_NoName; cases e2; exact ⟨T.E_NoName, T.i_NoName_NoRow⟩
  rw [if_neg h] at e
  by_cases h : r = "NoShelf"
  · rw [if_pos h] at e; cases e; subst h; have e2 := hc.symm.trans T.n_NoShelf; cases e2; exact ⟨T.E_NoShelf, T.i_NoShelf_NoRow⟩
  rw [if_neg h] at e
  cases e
theorem isK_ok_NoShelf (T : Txt K mg Ad0) : ∀ r b C, isK_NoShelf r = some b → ClsK K r C → ExcC K C ∧ PySem.W.kitOne K (.ref C) (.ref Ad0.x_NoShelf) = some b := by
  intro r b C e hc
  unfold isK_NoShelf at e
  by_cases h : r = "NoWord"
  · rw [if_pos h] at e; cases e; subst h; have e2 := hc.symm.trans T.n_NoWord; cases e2; exact ⟨T.E_NoWord, T.i_NoWord_NoShelf⟩
  rw [if_neg h] at e
  by_cases h : r = "NoBit"
  · rw [if_pos h] at e; cases e; subst h; have e2 := hc.symm.trans T.n_NoBit; cases e2; exact ⟨T.E_NoBit, T.i_NoBit_NoShelf⟩
  rw [if_neg h] at e
  by_cases h : r = "NoTable"
  · rw [if_pos h] at e; cases e; subst h; have e2 := hc.symm.trans T.n_NoTable; cases e2; exact ⟨T.E_NoTable, T.i_NoTable_NoShelf⟩
  rw [if_neg h] at e
  by_cases h : r = "Bare"
  · rw [if_pos h] at e; cases e; subst h; have e2 := hc.symm.trans T.n_Bare; cases e2; exact ⟨T.E_Bare, T.i_Bare_NoShelf⟩
  rw [if_neg h] at e
  by_cases h : r = "Shut"
  · rw [if_pos h] at e; cases e; subst h; have e2 := hc.symm.trans T.n_Shut; cases e2; exact ⟨T.E_Shut, T.i_Shut_NoShelf⟩
  rw [if_neg h] at e
  by_cases h : r = "NoRow"
  · rw [if_pos h] at e; cases e; subst h; have e2 := hc.symm.trans T.n_NoRow; cases e2; exact ⟨T.E_NoRow, T.i_NoRow_NoShelf⟩
  rw [if_neg h] at e
  by_cases h : r = "NoProgram"
  · rw [if_pos h] at e; cases e; subst h; have e2 := hc.symm.trans T.n_NoProgram; cases e2; exact ⟨T.E_NoProgram, T.i_NoProgram_NoShelf⟩
  rw [if_neg h] at e
  by_cases h : r = "NoText"
  · rw [if_pos h] at e; cases e; subst h; have e2 := hc.symm.trans T.n_NoText; cases e2; exact ⟨T.E_NoText, T.i_NoText_NoShelf⟩
  rw [if_neg h] at e
  by_cases h : r = "NoContract"
  · rw [if_pos h] at e; cases e; subst h; have e2 := hc.symm.trans T.n_NoContract; cases e2; exact ⟨T.E_NoContract, T.i_NoContract_NoShelf⟩
  rw [if_neg h] at e
  by_cases h : r = "NoInput"
  · rw [if_pos h] at e; cases e; subst h; have e2 := hc.symm.trans T.n_NoInput; cases e2; exact ⟨T.E_NoInput, T.i_NoInput_NoShelf⟩
  rw [if_neg h] at e
  by_cases h : r = "TooMany"
  · rw [if_pos h] at e; cases e; subst h; have e2 := hc.symm.trans T.n_TooMany; cases e2; exact ⟨T.E_TooMany, T.i_TooMany_NoShelf⟩
  rw [if_neg h] at e
  by_cases h : r = "NotLet"
  · rw [if_pos h] at e; cases e; subst h; have e2 := hc.symm.trans T.n_NotLet; cases e2; exact ⟨T.E_NotLet, T.i_NotLet_NoShelf⟩
  rw [if_neg h] at e
  by_cases h : r = "NoCall"
  · rw [if_pos h] at e; cases e; subst h; have e2 := hc.symm.trans T.n_NoCall; cases e2; exact ⟨T.E_NoCall, T.i_NoCall_NoShelf⟩
  rw [if_neg h] at e
  by_cases h : r = "NoName"
  · rw [if_pos h] at e; cases e; subst h; have e2 := hc.symm.trans T.n_NoName; cases e2; exact ⟨T.E_NoName, T.i_NoName_NoShelf⟩
  rw [if_neg h] at e
  by_cases h : r = "NoShelf"
  · rw [if_pos h] at e; cases e; subst h; have e2 := hc.symm.trans T.n_NoShelf; cases e2; exact ⟨T.E_NoShelf, T.i_NoShelf_NoShelf⟩
  rw [if_neg h] at e
  cases e
theorem isK_ok_NoTable (T : Txt K mg Ad0) : ∀ r b C, isK_NoTable r = some b → ClsK K r C → ExcC K C ∧ PySem.W.kitOne K (.ref C) (.ref Ad0.x_NoTable) = some b := by
  intro r b C e hc
  unfold isK_NoTable at e
  by_cases h : r = "NoWord"
  · rw [if_pos h] at e; cases e; subst h; have e2 := hc.symm.trans T.n_NoWord; cases e2; exact ⟨T.E_NoWord, T.i_NoWord_NoTable⟩
  rw [if_neg h] at e
  by_cases h : r = "NoBit"
  · rw [if_pos h] at e; cases e; subst h; have e2 := hc.symm.trans T.n_NoBit; cases e2; exact ⟨T.E_NoBit, T.i_NoBit_NoTable⟩
  rw [if_neg h] at e
  by_cases h : r = "NoTable"
  · rw [if_pos h] at e; cases e; subst h; have e2 := hc.symm.trans T.n_NoTable; cases e2; exact ⟨T.E_NoTable, T.i_NoTable_NoTable⟩
  rw [if_neg h] at e
  by_cases h : r = "Bare"
  · rw [if_pos h] at e; cases e; subst h; have e2 := hc.symm.trans T.n_Bare; cases e2; exact ⟨T.E_Bare, T.i_Bare_NoTable⟩
  rw [if_neg h] at e
  by_cases h : r = "Shut"
  · rw [if_pos h] at e; cases e; subst h; have e2 := hc.symm.trans T.n_Shut; cases e2; exact ⟨T.E_Shut, T.i_Shut_NoTable⟩
  rw [if_neg h] at e
  by_cases h : r = "NoRow"
  · rw [if_pos h] at e; cases e; subst h; have e2 := hc.symm.trans T.n_NoRow; cases e2; exact ⟨T.E_NoRow, T.i_NoRow_NoTable⟩
  rw [if_neg h] at e
  by_cases h : r = "NoProgram"
  · rw [if_pos h] at e; cases e; subst h; have e2 := hc.symm.trans T.n_NoProgram; cases e2; exact ⟨T.E_NoProgram, T.i_NoProgram_NoTable⟩
  rw [if_neg h] at e
  by_cases h : r = "NoText"
  · rw [if_pos h] at e; cases e; subst h; have e2 := hc.symm.trans T.n_NoText; cases e2; exact ⟨T.E_NoText, T.i_NoText_NoTable⟩
  rw [if_neg h] at e
  by_cases h : r = "NoContract"
  · rw [if_pos h] at e; cases e; subst h; have e2 := hc.symm.trans T.n_NoContract; cases e2; exact ⟨T.E_NoContract, T.i_NoContract_NoTable⟩
  rw [if_neg h] at e
  by_cases h : r = "NoInput"
  · rw [if_pos h] at e; cases e; subst h; have e2 := hc.symm.trans T.n_NoInput; cases e2; exact ⟨T.E_NoInput, T.i_NoInput_NoTable⟩
  rw [if_neg h] at e
  by_cases h : r = "TooMany"
  · rw [if_pos h] at e; cases e; subst h; have e2 := hc.symm.trans T.n_TooMany; cases e2; exact ⟨T.E_TooMany, T.i_TooMany_NoTable⟩
  rw [if_neg h] at e
  by_cases h : r = "NotLet"
  · rw [if_pos h] at e; cases e; subst h; have e2 := hc.symm.trans T.n_NotLet; cases e2; exact ⟨T.E_NotLet, T.i_NotLet_NoTable⟩
  rw [if_neg h] at e
  by_cases h : r = "NoCall"
  · rw [if_pos h] at e; cases e; subst h; have e2 := hc.symm.trans T.n_NoCall; cases e2; exact ⟨T.E_NoCall, T.i_NoCall_NoTable⟩
  rw [if_neg h] at e
  by_cases h : r = "NoName"
  · rw [if_pos h] at e; cases e; subst h; have e2 := hc.symm.trans T.n_NoName; cases e2; exact ⟨T.E_NoName, T.i_NoName_NoTable⟩
  rw [if_neg h] at e
  by_cases h : r = "NoShelf"
  · rw [if_pos h] at e; cases e; subst h; have e2 := hc.symm.trans T.n_NoShelf; cases e2; exact ⟨T.E_NoShelf, T.i_NoShelf_NoTable⟩
  rw [if_neg h] at e
  cases e
theorem isK_ok_NoText (T : Txt K mg Ad0) : ∀ r b C, isK_NoText r = some b → ClsK K r C → ExcC K C ∧ PySem.W.kitOne K (.ref C) (.ref Ad0.x_NoText) = some b := by
  intro r b C e hc
  unfold isK_NoText at e
  by_cases h : r = "NoWord"
  · rw [if_pos h] at e; cases e; subst h; have e2 := hc.symm.trans T.n_NoWord; cases e2; exact ⟨T.E_NoWord, T.i_NoWord_NoText⟩
  rw [if_neg h] at e
  by_cases h : r = "NoBit"
  · rw [if_pos h] at e; cases e; subst h; have e2 := hc.symm.trans T.n_NoBit; cases e2; exact ⟨T.E_NoBit, T.i_NoBit_NoText⟩
  rw [if_neg h] at e
  by_cases h : r = "NoTable"
  · rw [if_pos h] at e; cases e; subst h; have e2 := hc.symm.trans T.n_NoTable; cases e2; exact ⟨T.E_NoTable, T.i_NoTable_NoText⟩
  rw [if_neg h] at e
  by_cases h : r = "Bare"
  · rw [if_pos h] at e; cases e; subst h; have e2 := hc.symm.trans T.n_Bare; cases e2; exact ⟨T.E_Bare, T.i_Bare_NoText⟩
  rw [if_neg h] at e
  by_cases h : r = "Shut"
  · rw [if_pos h] at e; cases e; subst h; have e2 := hc.symm.trans T.n_Shut; cases e2; exact ⟨T.E_Shut, T.i_Shut_NoText⟩
  rw [if_neg h] at e
  by_cases h : r = "NoRow"
  · rw [if_pos h] at e; cases e; subst h; have e2 := hc.symm.trans T.n_NoRow; cases e2; exact ⟨T.E_NoRow, T.i_NoRow_NoText⟩
  rw [if_neg h] at e
  by_cases h : r = "NoProgram"
  · rw [if_pos h] at e; cases e; subst h; have e2 := hc.symm.trans T.n_NoProgram; cases e2; exact ⟨T.E_NoProgram, T.i_NoProgram_NoText⟩
  rw [if_neg h] at e
  by_cases h : r = "NoText"
  · rw [if_pos h] at e; cases e; subst h; have e2 := hc.symm.trans T.n_NoText; cases e2; exact ⟨T.E_NoText, T.i_NoText_NoText⟩
  rw [if_neg h] at e
  by_cases h : r = "NoContract"
  · rw [if_pos h] at e; cases e; subst h; have e2 := hc.symm.trans T.n_NoContract; cases e2; exact ⟨T.E_NoContract, T.i_NoContract_NoText⟩
  rw [if_neg h] at e
  by_cases h : r = "NoInput"
  · rw [if_pos h] at e; cases e; subst h; have e2 := hc.symm.trans T.n_NoInput; cases e2; exact ⟨T.E_NoInput, T.i_NoInput_NoText⟩
  rw [if_neg h] at e
  by_cases h : r = "TooMany"
  · rw [if_pos h] at e; cases e; subst h; have e2 := hc.symm.trans T.n_TooMany; cases e2; exact ⟨T.E_TooMany, T.i_TooMany_NoText⟩
  rw [if_neg h] at e
  by_cases h : r = "NotLet"
  · rw [if_pos h] at e; cases e; subst h; have e2 := hc.symm.trans T.n_NotLet; cases e2; exact ⟨T.E_NotLet, T.i_NotLet_NoText⟩
  rw [if_neg h] at e
  by_cases h : r = "NoCall"
  · rw [if_pos h] at e; cases e; subst h; have e2 := hc.symm.trans T.n_NoCall; cases e2; exact ⟨T.E_NoCall, T.i_NoCall_NoText⟩
  rw [if_neg h] at e
  by_cases h : r = "NoName"
  · rw [if_pos h] at e; cases e; subst h; have e2 := hc.symm.trans T.n_NoName; cases e2; exact ⟨T.E_NoName, T.i_NoName_NoText⟩
  rw [if_neg h] at e
  by_cases h : r = "NoShelf"
  · rw [if_pos h] at e; cases e; subst h; have e2 := hc.symm.trans T.n_NoShelf; cases e2; exact ⟨T.E_NoShelf, T.i_NoShelf_NoText⟩
  rw [if_neg h] at e
  cases e
theorem isK_ok_NoWord (T : Txt K mg Ad0) : ∀ r b C, isK_NoWord r = some b → ClsK K r C → ExcC K C ∧ PySem.W.kitOne K (.ref C) (.ref Ad0.x_NoWord) = some b := by
  intro r b C e hc
  unfold isK_NoWord at e
  by_cases h : r = "NoWord"
  · rw [if_pos h] at e; cases e; subst h; have e2 := hc.symm.trans T.n_NoWord; cases e2; exact ⟨T.E_NoWord, T.i_NoWord_NoWord⟩
  rw [if_neg h] at e
  by_cases h : r = "NoBit"
  · rw [if_pos h] at e; cases e; subst h; have e2 := hc.symm.trans T.n_NoBit; cases e2; exact ⟨T.E_NoBit, T.i_NoBit_NoWord⟩
  rw [if_neg h] at e
  by_cases h : r = "NoTable"
  · rw [if_pos h] at e; cases e; subst h; have e2 := hc.symm.trans T.n_NoTable; cases e2; exact ⟨T.E_NoTable, T.i_NoTable_NoWord⟩
  rw [if_neg h] at e
  by_cases h : r = "Bare"
  · rw [if_pos h] at e; cases e; subst h; have e2 := hc.symm.trans T.n_Bare; cases e2; exact ⟨T.E_Bare, T.i_Bare_NoWord⟩
  rw [if_neg h] at e
  by_cases h : r = "Shut"
  · rw [if_pos h] at e; cases e; subst h; have e2 := hc.symm.trans T.n_Shut; cases e2; exact ⟨T.E_Shut, T.i_Shut_NoWord⟩
  rw [if_neg h] at e
  by_cases h : r = "NoRow"
  · rw [if_pos h] at e; cases e; subst h; have e2 := hc.symm.trans T.n_NoRow; cases e2; exact ⟨T.E_NoRow, T.i_NoRow_NoWord⟩
  rw [if_neg h] at e
  by_cases h : r = "NoProgram"
  · rw [if_pos h] at e; cases e; subst h; have e2 := hc.symm.trans T.n_NoProgram; cases e2; exact ⟨T.E_NoProgram, T.i_NoProgram_NoWord⟩
  rw [if_neg h] at e
  by_cases h : r = "NoText"
  · rw [if_pos h] at e; cases e; subst h; have e2 := hc.symm.trans T.n_NoText; cases e2; exact ⟨T.E_NoText, T.i_NoText_NoWord⟩
  rw [if_neg h] at e
  by_cases h : r = "NoContract"
  · rw [if_pos h] at e; cases e; subst h; have e2 := hc.symm.trans T.n_NoContract; cases e2; exact ⟨T.E_NoContract, T.i_NoContract_NoWord⟩
  rw [if_neg h] at e
  by_cases h : r = "NoInput"
  · rw [if_pos h] at e; cases e; subst h; have e2 := hc.symm.trans T.n_NoInput; cases e2; exact ⟨T.E_NoInput, T.i_NoInput_NoWord⟩
  rw [if_neg h] at e
  by_cases h : r = "TooMany"
  · rw [if_pos h] at e; cases e; subst h; have e2 := hc.symm.trans T.n_TooMany; cases e2; exact ⟨T.E_TooMany, T.i_TooMany_NoWord⟩
  rw [if_neg h] at e
  by_cases h : r = "NotLet"
  · rw [if_pos h] at e; cases e; subst h; have e2 := hc.symm.trans T.n_NotLet; cases e2; exact ⟨T.E_NotLet, T.i_NotLet_NoWord⟩
  rw [if_neg h] at e
  by_cases h : r = "NoCall"
  · rw [if_pos h] at e; cases e; subst h; have e2 := hc.symm.trans T.n_NoCall; cases e2; exact ⟨T.E_NoCall, T.i_NoCall_NoWord⟩
  rw [if_neg h] at e
  by_cases h : r = "NoName"
  · rw [if_pos h] at e; cases e; subst h; have e2 := hc.symm.trans T.n_NoName; cases e2; exact ⟨T.E_NoName, T.i_NoName_NoWord⟩
  rw [if_neg h] at e
  by_cases h : r = "NoShelf"
  · rw [if_pos h] at e; cases e; subst h; have e2 := hc.symm.trans T.n_NoShelf; cases e2; exact ⟨T.E_NoShelf, T.i_NoShelf_NoWord⟩
  rw [if_neg h] at e
  cases e
theorem isK_ok_NotLet (T : Txt K mg Ad0) : ∀ r b C, isK_NotLet r = some b → ClsK K r C → ExcC K C ∧ PySem.W.kitOne K (.ref C) (.ref Ad0.x_NotLet) = some b := by
  intro r b C e hc
  unfold isK_NotLet at e
  by_cases h : r = "NoWord"
  · rw [if_pos h] at e; cases e; subst h; have e2 := hc.symm.trans T.n_NoWord; cases e2; exact ⟨T.E_NoWord, T.i_NoWord_NotLet⟩
  rw [if_neg h] at e
  by_cases h : r = "NoBit"
  · rw [if_pos h] at e; cases e; subst h; have e2 := hc.symm.trans T.n_NoBit; cases e2; exact ⟨T.E_NoBit, T.i_NoBit_NotLet⟩
  rw [if_neg h] at e
  by_cases h : r = "NoTable"
  · rw [if_pos h] at e; cases e; subst h; have e2 := hc.symm.trans T.n_NoTable; cases e2; exact ⟨T.E_NoTable, T.i_NoTable_NotLet⟩
  rw [if_neg h] at e
  by_cases h : r = "Bare"
  · rw [if_pos h] at e; cases e; subst h; have e2 := hc.symm.trans T.n_Bare; cases e2; exact ⟨T.E_Bare, T.i_Bare_NotLet⟩
  rw [if_neg h] at e
  by_cases h : r = "Shut"
  · rw [if_pos h] at e; cases e; subst h; have e2 := hc.symm.trans T.n_Shut; cases e2; exact ⟨T.E_Shut, T.i_Shut_NotLet⟩
  rw [if_neg h] at e
  by_cases h : r = "NoRow"
  · rw [if_pos h] at e; cases e; subst h; have e2 := hc.symm.trans T.n_NoRow; cases e2; exact ⟨T.E_NoRow, T.i_NoRow_NotLet⟩
  rw [if_neg h] at e
  by_cases h : r = "NoProgram"
  · rw [if_pos h] at e; cases e; subst h; have e2 := hc.symm.trans T.n_NoProgram; cases e2; exact ⟨T.E_NoProgram, T.i_NoProgram_NotLet⟩
  rw [if_neg h] at e
  by_cases h : r = "NoText"
  · rw [if_pos h] at e; cases e; subst h; have e2 := hc.symm.trans T.n_NoText; cases e2; exact ⟨T.E_NoText, T.i_NoText_NotLet⟩
  rw [if_neg h] at e
  by_cases h : r = "NoContract"
  · rw [if_pos h] at e; cases e; subst h; have e2 := hc.symm.trans T.n_NoContract; cases e2; exact ⟨T.E_NoContract, T.i_NoContract_NotLet⟩
  rw [if_neg h] at e
  by_cases h : r = "NoInput"
  · rw [if_pos h] at e; cases e; subst h; have e2 := hc.symm.trans T.n_NoInput; cases e2; exact ⟨T.E_NoInput, T.i_NoInput_NotLet⟩
  rw [if_neg h] at e
  by_cases h : r = "TooMany"
  · rw [if_pos h] at e; cases e; subst h; have e2 := hc.symm.trans T.n_TooMany; cases e2; exact ⟨T.E_TooMany, T.i_TooMany_NotLet⟩
  rw [if_neg h] at e
  by_cases h : r = "NotLet"
  · rw [if_pos h] at e; cases e; subst h; have e2 := hc.symm.trans T.n_NotLet; cases e2; exact ⟨T.E_NotLet, T.i_NotLet_NotLet⟩
  rw [if_neg h] at e
  by_cases h : r = "NoCall"
  · rw [if_pos h] at e; cases e; subst h; have e2 := hc.symm.trans T.n_NoCall; cases e2; exact ⟨T.E_NoCall, T.i_NoCall_NotLet⟩
  rw [if_neg h] at e
  by_cases h : r = "NoName"
  · rw [if_pos h] at e; cases e; subst h; have e2 := hc.symm.trans T.n_NoName; cases e2; exact ⟨T.E_NoName, T.i_NoName_NotLet⟩
  rw [if_neg h] at e
  by_cases h : r = "NoShelf"
  · rw [if_pos h] at e; cases e; subst h; have e2 := hc.symm.trans T.n_NoShelf; cases e2; exact ⟨T.E_NoShelf, T.i_NoShelf_NotLet⟩
  rw [if_neg h] at e
  cases e
theorem isK_ok_OverflowError (T : Txt K mg Ad0) : ∀ r b C, isK_OverflowError r = some b → ClsK K r C → ExcC K C ∧ PySem.W.kitOne K (.ref C) (.type "OverflowError") = some b := by
  intro r b C e hc
  unfold isK_OverflowError at e
  by_cases h : r = "NoWord"
  · rw [if_pos h] at e; cases e; subst h; have e2 := hc.symm.trans T.n_NoWord; cases e2; exact ⟨T.E_NoWord, T.i_NoWord_OverflowError⟩
  rw [if_neg h] at e
  by_cases h : r = "NoBit"
  · rw [if_pos h] at e; cases e; subst h; have e2 := hc.symm.trans T.n_NoBit; cases e2; exact ⟨T.E_NoBit, T.i_NoBit_OverflowError⟩
  rw [if_neg h] at e
  by_cases h : r = "NoTable"
  · rw [if_pos h] at e; cases e; subst h; have e2 := hc.symm.trans T.n_NoTable; cases e2; exact ⟨T.E_NoTable, T.i_NoTable_OverflowError⟩
  rw [if_neg h] at e
  by_cases h : r = "Bare"
  · rw [if_pos h] at e; cases e; subst h; have e2 := hc.symm.trans T.n_Bare; cases e2; exact ⟨T.E_Bare, T.i_Bare_OverflowError⟩
  rw [if_neg h] at e
  by_cases h : r = "Shut"
  · rw [if_pos h] at e; cases e; subst h; have e2 := hc.symm.trans T.n_Shut; cases e2; exact ⟨T.E_Shut, T.i_Shut_OverflowError⟩
  rw [if_neg h] at e
  by_cases h : r = "NoRow"
  · rw [if_pos h] at e; cases e; subst h; have e2 := hc.symm.trans T.n_NoRow; cases e2; exact ⟨T.E_NoRow, T.i_NoRow_OverflowError⟩
  rw [if_neg h] at e
  by_cases h : r = "NoProgram"
  · rw [if_pos h] at e; cases e; subst h; have e2 := hc.symm.trans T.n_NoProgram; cases e2; exact ⟨T.E_NoProgram, T.i_NoProgram_OverflowError⟩
  rw [if_neg h] at e
  by_cases h : r = "NoText"
  · rw [if_pos h] at e; cases e; subst h; have e2 := hc.symm.trans T.n_NoText; cases e2; exact ⟨T.E_NoText, T.i_NoText_OverflowError⟩
  rw [if_neg h] at e
  by_cases h : r = "NoContract"
  · rw [if_pos h] at e; cases e; subst h; have e2 := hc.symm.trans T.n_NoContract; cases e2; exact ⟨T.E_NoContract, T.i_NoContract_OverflowError⟩
  rw [if_neg h] at e
  by_cases h : r = "NoInput"
  · rw [if_pos h] at e; cases e; subst h; have e2 := hc.symm.trans T.n_NoInput; cases e2; exact ⟨T.E_NoInput, T.i_NoInput_OverflowError⟩
  rw [if_neg h] at e
  by_cases h : r = "TooMany"
  · rw [if_pos h] at e; cases e; subst h; have e2 := hc.symm.trans T.n_TooMany; cases e2; exact ⟨T.E_TooMany, T.i_TooMany_OverflowError⟩
  rw [if_neg h] at e
  by_cases h : r = "NotLet"
  · rw [if_pos h] at e; cases e; subst h; have e2 := hc.symm.trans T.n_NotLet; cases e2; exact ⟨T.E_NotLet, T.i_NotLet_OverflowError⟩
  rw [if_neg h] at e
  by_cases h : r = "NoCall"
  · rw [if_pos h] at e; cases e; subst h; have e2 := hc.symm.trans T.n_NoCall; cases e2; exact ⟨T.E_NoCall, T.i_NoCall_OverflowError⟩
  rw [if_neg h] at e
  by_cases h : r = "NoName"
  · rw [if_pos h] at e; cases e; subst h; have e2 := hc.symm.trans T.n_NoName; cases e2; exact ⟨T.E_NoName, T.i_NoName_OverflowError⟩
  rw [if_neg h] at e
  by_cases h : r = "NoShelf"
  · rw [if_pos h] at e; cases e; subst h; have e2 := hc.symm.trans T.n_NoShelf; cases e2; exact ⟨T.E_NoShelf, T.i_NoShelf_OverflowError⟩
  rw [if_neg h] at e
  cases e
theorem isK_ok_RuntimeError (T : Txt K mg Ad0) : ∀ r b C, isK_RuntimeError r = some b → ClsK K r C → ExcC K C ∧ PySem.W.kitOne K (.ref C) (.type "RuntimeError") = some b := by
  intro r b C e hc
  unfold isK_RuntimeError at e
  by_cases h : r = "NoWord"
  · rw [if_pos h] at e; cases e; subst h; have e2 := hc.symm.trans T.n_NoWord; cases e2; exact ⟨T.E_NoWord, T.i_NoWord_RuntimeError⟩
  rw [if_neg h] at e
  by_cases h : r = "NoBit"
  · rw [if_pos h] at e; cases e; subst h; have e2 := hc.symm.trans T.n_NoBit; cases e2; exact ⟨T.E_NoBit, T.i_NoBit_RuntimeError⟩
  rw [if_neg h] at e
  by_cases h : r = "NoTable"
  · rw [if_pos h] at e; cases e; subst h; have e2 := hc.symm.trans T.n_NoTable; cases e2; exact ⟨T.E_NoTable, T.i_NoTable_RuntimeError⟩
  rw [if_neg h] at e
  by_cases h : r = "Bare"
  · rw [if_pos h] at e; cases e; subst h; have e2 := hc.symm.trans T.n_Bare; cases e2; exact ⟨T.E_Bare, T.i_Bare_RuntimeError⟩
  rw [if_neg h] at e
  by_cases h : r = "Shut"
  · rw [if_pos h] at e; cases e; subst h; have e2 := hc.symm.trans T.n_Shut; cases e2; exact ⟨T.E_Shut, T.i_Shut_RuntimeError⟩
  rw [if_neg h] at e
  by_cases h : r = "NoRow"
  · rw [if_pos h] at e; cases e; subst h; have e2 := hc.symm.trans T.n_NoRow; cases e2; exact ⟨T.E_NoRow, T.i_NoRow_RuntimeError⟩
  rw [if_neg h] at e
  by_cases h : r = "NoProgram"
  · rw [if_pos h] at e; cases e; subst h; have e2 := hc.symm.trans T.n_NoProgram; cases e2; exact ⟨T.E_NoProgram, T.i_NoProgram_RuntimeError⟩
  rw [if_neg h] at e
  by_cases h : r = "NoText"
  · rw [if_pos h] at e; cases e; subst h; have e2 := hc.symm.trans T.n_NoText; cases e2; exact ⟨T.E_NoText, T.i_NoText_RuntimeError⟩
  rw [if_neg h] at e
  by_cases h : r = "NoContract"
  · rw [if_pos h] at e; cases e; subst h; have e2 := hc.symm.trans T.n_NoContract; cases e2; exact ⟨T.E_NoContract, T.i_NoContract_RuntimeError⟩
  rw [if_neg h] at e
  by_cases h : r = "NoInput"
  · rw [if_pos h] at e; cases e; subst h; have e2 := hc.symm.trans T.n_NoInput; cases e2; exact ⟨T.E_NoInput, T.i_NoInput_RuntimeError⟩
  rw [if_neg h] at e
  by_cases h : r = "TooMany"
  · rw [if_pos h] at e; cases e; subst h; have e2 := hc.symm.trans T.n_TooMany; cases e2; exact ⟨T.E_TooMany, T.i_TooMany_RuntimeError⟩
  rw [if_neg h] at e
  by_cases h : r = "NotLet"
  · rw [if_pos h] at e; cases e; subst h; have e2 := hc.symm.trans T.n_NotLet; cases e2; exact ⟨T.E_NotLet, T.i_NotLet_RuntimeError⟩
  rw [if_neg h] at e
  by_cases h : r = "NoCall"
  · rw [if_pos h] at e; cases e; subst h; have e2 := hc.symm.trans T.n_NoCall; cases e2; exact ⟨T.E_NoCall, T.i_NoCall_RuntimeError⟩
  rw [if_neg h] at e
  by_cases h : r = "NoName"
  · rw [if_pos h] at e; cases e; subst h; have e2 := hc.symm.trans T.n_NoName; cases e2; exact ⟨T.E_NoName, T.i_NoName_RuntimeError⟩
  rw [if_neg h] at e
  by_cases h : r = "NoShelf"
  · rw [if_pos h] at e; cases e; subst h; have e2 := hc.symm.trans T.n_NoShelf; cases e2; exact ⟨T.E_NoShelf, T.i_NoShelf_RuntimeError⟩
  rw [if_neg h] at e
  cases e
theorem isK_ok_Shut (T : Txt K mg Ad0) : ∀ r b C, isK_Shut r = some b → ClsK K r C → ExcC K C ∧ PySem.W.kitOne K (.ref C) (.ref Ad0.x_Shut) = some b := by
  intro r b C e hc
  unfold isK_Shut at e
  by_cases h : r = "NoWord"
  · rw [if_pos h] at e; cases e; subst h; have e2 := hc.symm.trans T.n_NoWord; cases e2; exact ⟨T.E_NoWord, T.i_NoWord_Shut⟩
  rw [if_neg h] at e
  by_cases h : r = "NoBit"
  · rw [if_pos h] at e; cases e; subst h; have e2 := hc.symm.trans T.n_NoBit; cases e2; exact ⟨T.E_NoBit, T.i_NoBit_Shut⟩
  rw [if_neg h] at e
  by_cases h : r = "NoTable"
  · rw [if_pos h] at e; cases e; subst h; have e2 := hc.symm.trans T.n_NoTable; cases e2; exact ⟨T.E_NoTable, T.i_NoTable_Shut⟩
  rw [if_neg h] at e
  by_cases h : r = "Bare"
  · rw [if_pos h] at e; cases e; subst h; have e2 := hc.symm.trans T.n_Bare; cases e2; exact ⟨T.E_Bare, T.i_Bare_Shut⟩
  rw [if_neg h] at e
  by_cases h : r = "Shut"
  · rw [if_pos h] at e; cases e; subst h; have e2 := hc.symm.trans T.n_Shut; cases e2; exact ⟨T.E_Shut, T.i_Shut_Shut⟩
  rw [if_neg h] at e
  by_cases h : r = "NoRow"
  · rw [if_pos h] at e; cases e; subst h; have e2 := hc.symm.trans T.n_NoRow; cases e2; exact ⟨T.E_NoRow, T.i_NoRow_Shut⟩
  rw [if_neg h] at e
  by_cases h : r = "NoProgram"
  · rw [if_pos h] at e; cases e; subst h; have e2 := hc.symm.trans T.n_NoProgram; cases e2; exact ⟨T.E_NoProgram, T.i_NoProgram_Shut⟩
  rw [if_neg h] at e
  by_cases h : r = "NoText"
  · rw [if_pos h] at e; cases e; subst h; have e2 := hc.symm.trans T.n_NoText; cases e2; exact ⟨T.E_NoText, T.i_NoText_Shut⟩
  rw [if_neg h] at e
  by_cases h : r = "NoContract"
  · rw [if_pos h] at e; cases e; subst h; have e2 := hc.symm.trans T.n_NoContract; cases e2; exact ⟨T.E_NoContract, T.i_NoContract_Shut⟩
  rw [if_neg h] at e
  by_cases h : r = "NoInput"
  · rw [if_pos h] at e; cases e; subst h; have e2 := hc.symm.trans T.n_NoInput; cases e2; exact ⟨T.E_NoInput, T.i_NoInput_Shut⟩
  rw [if_neg h] at e
  by_cases h : r = "TooMany"
  · rw [if_pos h] at e; cases e; subst h; have e2 := hc.symm.trans T.n_TooMany; cases e2; exact ⟨T.E_TooMany, T.i_TooMany_Shut⟩
  rw [if_neg h] at e
  by_cases h : r = "NotLet"
  · rw [if_pos h] at e; cases e; subst h; have e2 := hc.symm.trans T.n_NotLet; cases e2; exact ⟨T.E_NotLet, T.i_NotLet_Shut⟩
  rw [if_neg h] at e
  by_cases h : r = "NoCall"
  · rw [if_pos h] at e; cases e; subst h; have e2 := hc.symm.trans T.n_NoCall; cases e2; exact ⟨T.E_NoCall, T.i_NoCall_Shut⟩
  rw [if_neg h] at e
  by_cases h : r = "NoName"
  · rw [if_pos h] at e; cases e; subst h; have e2 := hc.symm.trans T.n_NoName; cases e2; exact ⟨T.E_NoName, T.i_NoName_Shut⟩
  rw [if_neg h] at e
  by_cases h : r = "NoShelf"
  · rw [if_pos h] at e; cases e; subst h; have e2 := hc.symm.trans T.n_NoShelf; cases e2; exact ⟨T.E_NoShelf, T.i_NoShelf_Shut⟩
  rw [if_neg h] at e
  cases e
theorem isK_ok_TooMany (T : Txt K mg Ad0) : ∀ r b C, isK_TooMany r = some b → ClsK K r C → ExcC K C ∧ PySem.W.kitOne K (.ref C) (.ref Ad0.x_TooMany) = some b := by
  intro r b C e hc
  unfold isK_TooMany at e
  by_cases h : r = "NoWord"
  · rw [if_pos h] at e; cases e; subst h; have e2 := hc.symm.trans T.n_NoWord; cases e2; exact ⟨T.E_NoWord, T.i_NoWord_TooMany⟩
  rw [if_neg h] at e
  by_cases h : r = "NoBit"
  · rw [if_pos h] at e; cases e; subst h; have e2 := hc.symm.trans T.n_NoBit; cases e2; exact ⟨T.E_NoBit, T.i_NoBit_TooMany⟩
  rw [if_neg h] at e
  by_cases h : r = "NoTable"
  · rw [if_pos h] at e; cases e; subst h; have e2 := hc.symm.trans T.n_NoTable; cases e2; exact ⟨T.E_NoTable, T.i_NoTable_TooMany⟩
  rw [if_neg h] at e
  by_cases h : r = "Bare"
  · rw [if_pos h] at e; cases e; subst h; have e2 := hc.symm.trans T.n_Bare; cases e2; exact ⟨T.E_Bare, T.i_Bare_TooMany⟩
  rw [if_neg h] at e
  by_cases h : r = "Shut"
  · rw [if_pos h] at e; cases e; subst h; have e2 := hc.symm.trans T.n_Shut; cases e2; exact ⟨T.E_Shut, T.i_Shut_TooMany⟩
  rw [if_neg h] at e
  by_cases h : r = "NoRow"
  · rw [if_pos h] at e; cases e; subst h; have e2 := hc.symm.trans T.n_NoRow; cases e2; exact ⟨T.E_NoRow, T.i_NoRow_TooMany⟩
  rw [if_neg h] at e
  by_cases h : r = "NoProgram"
  · rw [if_pos h] at e; cases e; subst h; have e2 := hc.symm.trans T.n_NoProgram; cases e2; exact ⟨T.E_NoProgram, T.i_NoProgram_TooMany⟩
  rw [if_neg h] at e
  by_cases h : r = "NoText"
  · rw [if_pos h] at e; cases e; subst h; have e2 := hc.symm.trans T.n_NoText; cases e2; exact ⟨T.E_NoText, T.i_NoText_TooMany⟩
  rw [if_neg h] at e
  by_cases h : r = "NoContract"
  · rw [if_pos h] at e; cases e; subst h; have e2 := hc.symm.trans T.n_NoContract; cases e2; exact ⟨T.E_NoContract, T.i_NoContract_TooMany⟩
  rw [if_neg h] at e
  by_cases h : r = "NoInput"
  · rw [if_pos h] at e; cases e; subst h; have e2 := hc.symm.trans T.n_NoInput; cases e2; exact ⟨T.E_NoInput, T.i_NoInput_TooMany⟩
  rw [if_neg h] at e
  by_cases h : r = "TooMany"
  · rw [if_pos h] at e; cases e; subst h; have e2 := hc.symm.trans T.n_TooMany; cases e2; exact ⟨T.E_TooMany, T.i_TooMany_TooMany⟩
  rw [if_neg h] at e
  by_cases h : r = "NotLet"
  · rw [if_pos h] at e; cases e; subst h; have e2 := hc.symm.trans T.n_NotLet; cases e2; exact ⟨T.E_NotLet, T.i_NotLet_TooMany⟩
  rw [if_neg h] at e
  by_cases h : r = "NoCall"
  · rw [if_pos h] at e; cases e; subst h; have e2 := hc.symm.trans T.n_NoCall; cases e2; exact ⟨T.E_NoCall, T.i_NoCall_TooMany⟩
  rw [if_neg h] at e
  by_cases h : r = "NoName"
  · rw [if_pos h] at e; cases e; subst h; have e2 := hc.symm.trans T.n_NoName; cases e2; exact ⟨T.E_NoName, T.i_NoName_TooMany⟩
  rw [if_neg h] at e
  by_cases h : r = "NoShelf"
  · rw [if_pos h] at e; cases e; subst h; have e2 := hc.symm.trans T.n_NoShelf; cases e2; exact ⟨T.E_NoShelf, T.i_NoShelf_TooMany⟩
  rw [if_neg h] at e
  cases e
theorem isK_ok_ValueError (T : Txt K mg Ad0) : ∀ r b C, isK_ValueError r = some b → ClsK K r C → ExcC K C ∧ PySem.W.kitOne K (.ref C) (.type "ValueError") = some b := by
  intro r b C e hc
  unfold isK_ValueError at e
  by_cases h : r = "NoWord"
  · rw [if_pos h] at e; cases e; subst h; have e2 := hc.symm.trans T.n_NoWord; cases e2; exact ⟨T.E_NoWord, T.i_NoWord_ValueError⟩
  rw [if_neg h] at e
  by_cases h : r = "NoBit"
  · rw [if_pos h] at e; cases e; subst h; have e2 := hc.symm.trans T.n_NoBit; cases e2; exact ⟨T.E_NoBit, T.i_NoBit_ValueError⟩
  rw [if_neg h] at e
  by_cases h : r = "NoTable"
  · rw [if_pos h] at e; cases e; subst h; have e2 := hc.symm.trans T.n_NoTable; cases e2; exact ⟨T.E_NoTable, T.i_NoTable_ValueError⟩
  rw [if_neg h] at e
  by_cases h : r = "Bare"
  · rw [if_pos h] at e; cases e; subst h; have e2 := hc.symm.trans T.n_Bare; cases e2; exact ⟨T.E_Bare, T.i_Bare_ValueError⟩
  rw [if_neg h] at e
  by_cases h : r = "Shut"
  · rw [if_pos h] at e; cases e; subst h; have e2 := hc.symm.trans T.n_Shut; cases e2; exact ⟨T.E_Shut, T.i_Shut_ValueError⟩
  rw [if_neg h] at e
  by_cases h : r = "NoRow"
  · rw [if_pos h] at e; cases e; subst h; have e2 := hc.symm.trans T.n_NoRow; cases e2; exact ⟨T.E_NoRow, T.i_NoRow_ValueError⟩
  rw [if_neg h] at e
  by_cases h : r = "NoProgram"
  · rw [if_pos h] at e; cases e; subst h; have e2 := hc.symm.trans T.n_NoProgram; cases e2; exact ⟨T.E_NoProgram, T.i_NoProgram_ValueError⟩
  rw [if_neg h] at e
  by_cases h : r = "NoText"
  · rw [if_pos h] at e; cases e; subst h; have e2 := hc.symm.trans T.n_NoText; cases e2; exact ⟨T.E_NoText, T.i_NoText_ValueError⟩
  rw [if_neg h] at e
  by_cases h : r = "NoContract"
  · rw [if_pos h] at e; cases e; subst h; have e2 := hc.symm.trans T.n_NoContract; cases e2; exact ⟨T.E_NoContract, T.i_NoContract_ValueError⟩
  rw [if_neg h] at e
  by_cases h : r = "NoInput"
  · rw [if_pos h] at e; cases e; subst h; have e2 := hc.symm.trans T.n_NoInput; cases e2; exact ⟨T.E_NoInput, T.i_NoInput_ValueError⟩
  rw [if_neg h] at e
  by_cases h : r = "TooMany"
  · rw [if_pos h] at e; cases e; subst h; have e2 := hc.symm.trans T.n_TooMany; cases e2; exact ⟨T.E_TooMany, T.i_TooMany_ValueError⟩
  rw [if_neg h] at e
  by_cases h : r = "NotLet"
  · rw [if_pos h] at e; cases e; subst h; have e2 := hc.symm.trans T.n_NotLet; cases e2; exact ⟨T.E_NotLet, T.i_NotLet_ValueError⟩
  rw [if_neg h] at e
  by_cases h : r = "NoCall"
  · rw [if_pos h] at e; cases e; subst h; have e2 := hc.symm.trans T.n_NoCall; cases e2; exact ⟨T.E_NoCall, T.i_NoCall_ValueError⟩
  rw [if_neg h] at e
  by_cases h : r = "NoName"
  · rw [if_pos h] at e; cases e; subst h; have e2 := hc.symm.trans T.n_NoName; cases e2; exact ⟨T.E_NoName, T.i_NoName_ValueError⟩
  rw [if_neg h] at e
  by_cases h : r = "NoShelf"
  · rw [if_pos h] at e; cases e; subst h; have e2 := hc.symm.trans T.n_NoShelf; cases e2; exact ⟨T.E_NoShelf, T.i_NoShelf_ValueError⟩
  rw [if_neg h] at e
  cases e
theorem fld_ok_name (T : Txt K mg Ad0) : ∀ r C, fldT_name r = true → ClsK K r C → XfC K C ∧ PySem.W.findIn K (.ref C) "name" = some none := by
  intro r C e hc
  unfold fldT_name at e
  by_cases h : r = "NoCall"
  · subst h; have e2 := hc.symm.trans T.n_NoCall; cases e2; exact ⟨T.xf_NoCall, T.no_NoCall_name⟩
  rw [if_neg h] at e
  by_cases h : r = "NoName"
  · subst h; have e2 := hc.symm.trans T.n_NoName; cases e2; exact ⟨T.xf_NoName, T.no_NoName_name⟩
  rw [if_neg h] at e
  by_cases h : r = "NoShelf"
  · subst h; have e2 := hc.symm.trans T.n_NoShelf; cases e2; exact ⟨T.xf_NoShelf, T.no_NoShelf_name⟩
  rw [if_neg h] at e
  cases e
theorem fld_ok_number (T : Txt K mg Ad0) : ∀ r C, fldT_number r = true → ClsK K r C → XfC K C ∧ PySem.W.findIn K (.ref C) "number" = some none := by
  intro r C e hc
  unfold fldT_number at e
  by_cases h : r = "NoProgram"
  · subst h; have e2 := hc.symm.trans T.n_NoProgram; cases e2; exact ⟨T.xf_NoProgram, T.no_NoProgram_number⟩
  rw [if_neg h] at e
  by_cases h : r = "NoText"
  · subst h; have e2 := hc.symm.trans T.n_NoText; cases e2; exact ⟨T.xf_NoText, T.no_NoText_number⟩
  rw [if_neg h] at e
  by_cases h : r = "NoContract"
  · subst h; have e2 := hc.symm.trans T.n_NoContract; cases e2; exact ⟨T.xf_NoContract, T.no_NoContract_number⟩
  rw [if_neg h] at e
  cases e
theorem fld_ok_part (T : Txt K mg Ad0) : ∀ r C, fldT_part r = true → ClsK K r C → XfC K C ∧ PySem.W.findIn K (.ref C) "part" = some none := by
  intro r C e hc
  unfold fldT_part at e
  by_cases h : r = "NoContract"
  · subst h; have e2 := hc.symm.trans T.n_NoContract; cases e2; exact ⟨T.xf_NoContract, T.no_NoContract_part⟩
  rw [if_neg h] at e
  by_cases h : r = "NoInput"
  · subst h; have e2 := hc.symm.trans T.n_NoInput; cases e2; exact ⟨T.xf_NoInput, T.no_NoInput_part⟩
  rw [if_neg h] at e
  cases e
theorem fld_ok_size (T : Txt K mg Ad0) : ∀ r C, fldT_size r = true → ClsK K r C → XfC K C ∧ PySem.W.findIn K (.ref C) "size" = some none := by
  intro r C e hc
  unfold fldT_size at e
  by_cases h : r = "TooMany"
  · subst h; have e2 := hc.symm.trans T.n_TooMany; cases e2; exact ⟨T.xf_TooMany, T.no_TooMany_size⟩
  rw [if_neg h] at e
  cases e
theorem fld_ok_way (T : Txt K mg Ad0) : ∀ r C, fldT_way r = true → ClsK K r C → XfC K C ∧ PySem.W.findIn K (.ref C) "way" = some none := by
  intro r C e hc
  unfold fldT_way at e
  by_cases h : r = "NotLet"
  · subst h; have e2 := hc.symm.trans T.n_NotLet; cases e2; exact ⟨T.xf_NotLet, T.no_NotLet_way⟩
  rw [if_neg h] at e
  cases e
theorem fld_ok_word (T : Txt K mg Ad0) : ∀ r C, fldT_word r = true → ClsK K r C → XfC K C ∧ PySem.W.findIn K (.ref C) "word" = some none := by
  intro r C e hc
  unfold fldT_word at e
  by_cases h : r = "NotLet"
  · subst h; have e2 := hc.symm.trans T.n_NotLet; cases e2; exact ⟨T.xf_NotLet, T.no_NotLet_word⟩
  rw [if_neg h] at e
  cases e
theorem exf_NoProgram (T : Txt K mg Ad0) : ExF P w K mg base "NoProgram" Ad0.x_NoProgram ["number"] :=
  ⟨T.O_NoProgram, T.g_NoProgram, _, _, T.ic_NoProgram, T.it_NoProgram, init1 T.I_NoProgram sci_NoProgram rfl rfl rfl rfl (by decide) (by decide) (by decide) rfl T.g_GateError T.cb_GateError T.O_NoProgram T.no_NoProgram_number, T.I_NoProgram.bindsN fun _ _ _ _ _ _ us hl => match us, hl with | [_, _], _ => rfl⟩
theorem exf_NoText (T : Txt K mg Ad0) : ExF P w K mg base "NoText" Ad0.x_NoText ["number"] :=
  ⟨T.O_NoText, T.g_NoText, _, _, T.ic_NoText, T.it_NoText, init1 T.I_NoText sci_NoText rfl rfl rfl rfl (by decide) (by decide) (by decide) rfl T.g_GateError T.cb_GateError T.O_NoText T.no_NoText_number, T.I_NoText.bindsN fun _ _ _ _ _ _ us hl => match us, hl with | [_, _], _ => rfl⟩
theorem exf_NoContract (T : Txt K mg Ad0) : ExF P w K mg base "NoContract" Ad0.x_NoContract ["part", "number"] :=
  ⟨T.O_NoContract, T.g_NoContract, _, _, T.ic_NoContract, T.it_NoContract, init2 T.I_NoContract sci_NoContract rfl rfl rfl rfl rfl (by decide) (by decide) (by decide) (by decide) (by decide) rfl T.g_GateError T.cb_GateError T.O_NoContract T.no_NoContract_part T.no_NoContract_number, T.I_NoContract.bindsN fun _ _ _ _ _ _ us hl => match us, hl with | [_, _, _], _ => rfl⟩
theorem exf_NoInput (T : Txt K mg Ad0) : ExF P w K mg base "NoInput" Ad0.x_NoInput ["part"] :=
  ⟨T.O_NoInput, T.g_NoInput, _, _, T.ic_NoInput, T.it_NoInput, init1 T.I_NoInput sci_NoInput rfl rfl rfl rfl (by decide) (by decide) (by decide) rfl T.g_GateError T.cb_GateError T.O_NoInput T.no_NoInput_part, T.I_NoInput.bindsN fun _ _ _ _ _ _ us hl => match us, hl with | [_, _], _ => rfl⟩
theorem exf_TooMany (T : Txt K mg Ad0) : ExF P w K mg base "TooMany" Ad0.x_TooMany ["size"] :=
  ⟨T.O_TooMany, T.g_TooMany, _, _, T.ic_TooMany, T.it_TooMany, init1 T.I_TooMany sci_TooMany rfl rfl rfl rfl (by decide) (by decide) (by decide) rfl T.g_GateError T.cb_GateError T.O_TooMany T.no_TooMany_size, T.I_TooMany.bindsN fun _ _ _ _ _ _ us hl => match us, hl with | [_, _], _ => rfl⟩
theorem exf_NotLet (T : Txt K mg Ad0) : ExF P w K mg base "NotLet" Ad0.x_NotLet ["word", "way"] :=
  ⟨T.O_NotLet, T.g_NotLet, _, _, T.ic_NotLet, T.it_NotLet, init2 T.I_NotLet sci_NotLet rfl rfl rfl rfl rfl (by decide) (by decide) (by decide) (by decide) (by decide) rfl T.g_GateError T.cb_GateError T.O_NotLet T.no_NotLet_word T.no_NotLet_way, T.I_NotLet.bindsN fun _ _ _ _ _ _ us hl => match us, hl with | [_, _, _], _ => rfl⟩
theorem exf_NoCall (T : Txt K mg Ad0) : ExK P w K mg base "NoCall" Ad0.x_NoCall ["name"] :=
  ⟨T.O_NoCall, T.g_NoCall, _, _, T.ic_NoCall, T.it_NoCall, initK1 T.I_NoCall sci_NoCall rfl rfl rfl rfl (by decide) (by decide) rfl T.b_KeyError T.cKeyError T.O_NoCall T.no_NoCall_name, T.I_NoCall.bindsN fun _ _ _ _ _ _ us hl => match us, hl with | [_, _], _ => rfl⟩
theorem exf_NoName (T : Txt K mg Ad0) : ExK P w K mg base "NoName" Ad0.x_NoName ["name"] :=
  ⟨T.O_NoName, T.g_NoName, _, _, T.ic_NoName, T.it_NoName, initK1 T.I_NoName sci_NoName rfl rfl rfl rfl (by decide) (by decide) rfl T.b_KeyError T.cKeyError T.O_NoName T.no_NoName_name, T.I_NoName.bindsN fun _ _ _ _ _ _ us hl => match us, hl with | [_, _], _ => rfl⟩
theorem exf_NoShelf (T : Txt K mg Ad0) : ExL P w K mg base "NoShelf" Ad0.x_NoShelf ["name"] :=
  ⟨T.O_NoShelf, T.g_NoShelf, _, _, T.ic_NoShelf, T.it_NoShelf, initL1 T.I_NoShelf sci_NoShelf rfl rfl rfl rfl (by decide) (by decide) rfl T.b_LookupError T.cLookupError T.O_NoShelf T.no_NoShelf_name, T.I_NoShelf.bindsN fun _ _ _ _ _ _ us hl => match us, hl with | [_, _], _ => rfl⟩
theorem bn_l_pool_2 (T : Txt K mg Ad0) : Bnd K Ad0.fd_l_pool ["_law_script", "_law_k"] 2 [] (fun ds _ => ds) :=
  Bnd.all (T.F_l_pool.bindsN fun _ _ _ _ _ _ us hl => match us, hl with | [_, _], _ => rfl)
theorem bn_l_take_2 (T : Txt K mg Ad0) : Bnd K Ad0.fd_l_take ["_law_pool_here", "_law_many"] 2 [] (fun ds _ => ds) :=
  Bnd.all (T.F_l_take.bindsN fun _ _ _ _ _ _ us hl => match us, hl with | [_, _], _ => rfl)
theorem bn_l_made_3 (T : Txt K mg Ad0) : Bnd K Ad0.fd_l_made ["_law_number", "_law_one", "_law_other"] 3 [] (fun ds _ => ds) :=
  Bnd.all (T.F_l_made.bindsN fun _ _ _ _ _ _ us hl => match us, hl with | [_, _, _], _ => rfl)
theorem bn_l_kinds_1 (T : Txt K mg Ad0) : Bnd K Ad0.fd_l_kinds ["_law_e"] 1 [] (fun ds _ => ds) :=
  Bnd.all (T.F_l_kinds.bindsN fun _ _ _ _ _ _ us hl => match us, hl with | [_], _ => rfl)
theorem bn_l_fields_2 (T : Txt K mg Ad0) : Bnd K Ad0.fd_l_fields ["_law_number", "_law_e"] 2 [] (fun ds _ => ds) :=
  Bnd.all (T.F_l_fields.bindsN fun _ _ _ _ _ _ us hl => match us, hl with | [_, _], _ => rfl)
theorem bn_l_bases_1 (T : Txt K mg Ad0) : Bnd K Ad0.fd_l_bases ["_law_e"] 1 [] (fun ds _ => ds) :=
  Bnd.all (T.F_l_bases.bindsN fun _ _ _ _ _ _ us hl => match us, hl with | [_], _ => rfl)
theorem pb_l_pool (T : Txt K mg Ad0) (cdv : Value) (A : Around) (outer : List Env) (s : Shared) (H : Hp) (E : XK) (hgd : A.guards = some []) (hr : Room 0 (A.deeper (PyProof.Rows.envOfC "_law_pool" (defScope st_l_pool) s.heap.objs.size Ad0.a_l_pool cdv))) :
    PDB (cxOf CX0 P w K mg base ["_law_script", "_law_k", "_law_cell", "_law_great", "_law_mixed"] "_law_pool" (defScope st_l_pool) Ad0.a_l_pool cdv A outer s H E).nox (defBody st_l_pool) den_l_pool :=
  (pdb_cons (pds_set (i := 2) sc_l_pool.nd rfl (by first | exact Or.inl rfl | exact Or.inr rfl) (pd_add (pd_mul pd_int (pd_callB (cr_sum rfl) callD_sum (by rfl) T.b_sum (by decide +kernel) (pda_cons (pd_slice (pd_var 0) pdo_none (pdo_some pd_int)) pda_nil))) (pd_var 1)))
    (pdb_cons (pds_if (pdt_cmp op_lt opD_lt (pd_var 1) (pd_callB call_len3 callD_len (by rfl) T.b_len (by decide +kernel) (pda_cons (pd_var 0) pda_nil)) (nomark _)) (pdb_one (pds_set (i := 2) sc_l_pool.nd rfl (by first | exact Or.inl rfl | exact Or.inr rfl) (pd_ix (hu_of hr) (pd_var 0) (pd_var 1) (fun _ _ => rfl)))) pdb_nil)
    (pdb_cons (pds_set (i := 3) sc_l_pool.nd rfl (by first | exact Or.inl rfl | exact Or.inr rfl) (pd_callB call_abs callD_abs (by rfl) T.b_abs (by decide +kernel) (pda_cons (pd_var 2) pda_nil)))
    (pdb_cons (pds_set (i := 4) sc_l_pool.nd rfl (by first | exact Or.inl rfl | exact Or.inr rfl) (pd_mod (pd_mul (pd_add (pd_add (pd_add (pd_mod (pd_var 3) pd_int) (pd_mul (pd_mul pd_int (pd_var 1)) (pd_var 1))) (pd_mul pd_int (pd_var 1))) pd_int) pd_int) pd_int))
    (pdb_one (pds_ret (pd_lstC (pda_cons (pd_mul (pd_var 3) (pd_callTy call_int1 callD_int (by rfl) T.b_int (by decide +kernel) (pda_cons (pd_ge (pd_var 3) (pd_pow pd_int pd_int)) pda_nil))) (pda_cons (pd_mod (pd_mul (pd_var 4) (pd_var 4)) pd_int) pda_nil)))))))))
theorem ok_l_pool (T : Txt K mg Ad0) : FnG P w K mg base CX0 1 Ad0.a_l_pool Ad0.fd_l_pool ["_law_script", "_law_k"] (FnD K sem_l_pool) :=
  fn_body T.F_l_pool sc_l_pool len_l_pool (pb_l_pool T) okd_l_pool
theorem pb_l_take (T : Txt K mg Ad0) (cdv : Value) (A : Around) (outer : List Env) (s : Shared) (H : Hp) (E : XK) (hgd : A.guards = some []) (hr : Room 0 (A.deeper (PyProof.Rows.envOfC "_law_take" (defScope st_l_take) s.heap.objs.size Ad0.a_l_take cdv))) :
    PDB (cxOf CX0 P w K mg base ["_law_pool_here", "_law_many", "_law_found"] "_law_take" (defScope st_l_take) Ad0.a_l_take cdv A outer s H E).nox (defBody st_l_take) den_l_take :=
  (pdb_cons (pds_if (pdt_cmp op_gt opD_gt (pd_ix (hu_of hr) (pd_var 0) pd_int (fun _ _ => rfl)) pd_int (nomark _)) (pdb_cons (pds_set (i := 2) sc_l_take.nd rfl (by first | exact Or.inl rfl | exact Or.inr rfl) (pd_mod (pd_ix (hu_of hr) (pd_var 0) pd_int (fun _ _ => rfl)) (pd_var 1)))
    (pdb_cons (pds_asg (pd_div (pd_ix (hu_of hr) (pd_var 0) pd_int (fun _ _ => rfl)) (pd_var 1)) (pdg_ix (pd_var 0) pd_int))
    (pdb_one (pds_ret (pd_var 2))))) pdb_nil)
    (pdb_cons (pds_asg (pd_mod (pd_add (pd_mul (pd_ix (hu_of hr) (pd_var 0) pd_int (fun _ _ => rfl)) pd_int) pd_int) pd_int) (pdg_ix (pd_var 0) pd_int))
    (pdb_one (pds_ret (pd_mod (pd_div (pd_mod (pd_mul (pd_ix (hu_of hr) (pd_var 0) pd_int (fun _ _ => rfl)) (pd_ix (hu_of hr) (pd_var 0) pd_int (fun _ _ => rfl))) pd_int) pd_int) (pd_var 1))))))
theorem ok_l_take (T : Txt K mg Ad0) : FnG P w K mg base CX0 1 Ad0.a_l_take Ad0.fd_l_take ["_law_pool_here", "_law_many"] (FnD K sem_l_take) :=
  fn_body T.F_l_take sc_l_take len_l_take (pb_l_take T) okd_l_take
theorem pb_l_kinds (T : Txt K mg Ad0) (cdv : Value) (A : Around) (outer : List Env) (s : Shared) (H : Hp) (E : XK) (hgd : A.guards = some []) (hr : Room 0 (A.deeper (PyProof.Rows.envOfC "_law_kinds" (defScope st_l_kinds) s.heap.objs.size Ad0.a_l_kinds cdv))) :
    PDB (cxOf CX0 P w K mg base ["_law_e", "_law_found"] "_law_kinds" (defScope st_l_kinds) Ad0.a_l_kinds cdv A outer s H E).nox (defBody st_l_kinds) den_l_kinds :=
  (pdb_cons (pds_set (i := 1) sc_l_kinds.nd rfl (by first | exact Or.inl rfl | exact Or.inr rfl) (pd_lst (pda_cons (pd_isX (ob := isK_NoWord) (by rfl) T.b_isinstance (pd_var 0) (clsN_own (by rfl) T.g_NoWord) (isK_ok_NoWord T)) (pda_cons (pd_isX (ob := isK_NoBit) (by rfl) T.b_isinstance (pd_var 0) (clsN_own (by rfl) T.g_NoBit) (isK_ok_NoBit T)) (pda_cons (pd_isX (ob := isK_NoTable) (by rfl) T.b_isinstance (pd_var 0) (clsN_own (by rfl) T.g_NoTable) (isK_ok_NoTable T)) (pda_cons (pd_isX (ob := isK_Bare) (by rfl) T.b_isinstance (pd_var 0) (clsN_own (by rfl) T.g_Bare) (isK_ok_Bare T)) pda_nil))))))
    (pdb_cons (pds_set (i := 1) sc_l_kinds.nd rfl (by first | exact Or.inl rfl | exact Or.inr rfl) (pd_add (pd_var 1) (pd_lst (pda_cons (pd_isX (ob := isK_Shut) (by rfl) T.b_isinstance (pd_var 0) (clsN_own (by rfl) T.g_Shut) (isK_ok_Shut T)) (pda_cons (pd_isX (ob := isK_NoRow) (by rfl) T.b_isinstance (pd_var 0) (clsN_own (by rfl) T.g_NoRow) (isK_ok_NoRow T)) (pda_cons (pd_isX (ob := isK_NoProgram) (by rfl) T.b_isinstance (pd_var 0) (clsN_own (by rfl) T.g_NoProgram) (isK_ok_NoProgram T)) (pda_cons (pd_isX (ob := isK_NoText) (by rfl) T.b_isinstance (pd_var 0) (clsN_own (by rfl) T.g_NoText) (isK_ok_NoText T)) pda_nil)))))))
    (pdb_cons (pds_set (i := 1) sc_l_kinds.nd rfl (by first | exact Or.inl rfl | exact Or.inr rfl) (pd_add (pd_var 1) (pd_lst (pda_cons (pd_isX (ob := isK_NoContract) (by rfl) T.b_isinstance (pd_var 0) (clsN_own (by rfl) T.g_NoContract) (isK_ok_NoContract T)) (pda_cons (pd_isX (ob := isK_NoInput) (by rfl) T.b_isinstance (pd_var 0) (clsN_own (by rfl) T.g_NoInput) (isK_ok_NoInput T)) (pda_cons (pd_isX (ob := isK_TooMany) (by rfl) T.b_isinstance (pd_var 0) (clsN_own (by rfl) T.g_TooMany) (isK_ok_TooMany T)) (pda_cons (pd_isX (ob := isK_NotLet) (by rfl) T.b_isinstance (pd_var 0) (clsN_own (by rfl) T.g_NotLet) (isK_ok_NotLet T)) pda_nil)))))))
    (pdb_one (pds_ret (pd_add (pd_var 1) (pd_lst (pda_cons (pd_isX (ob := isK_NoCall) (by rfl) T.b_isinstance (pd_var 0) (clsN_own (by rfl) T.g_NoCall) (isK_ok_NoCall T)) (pda_cons (pd_isX (ob := isK_NoName) (by rfl) T.b_isinstance (pd_var 0) (clsN_own (by rfl) T.g_NoName) (isK_ok_NoName T)) (pda_cons (pd_isX (ob := isK_NoShelf) (by rfl) T.b_isinstance (pd_var 0) (clsN_own (by rfl) T.g_NoShelf) (isK_ok_NoShelf T)) pda_nil))))))))))
theorem ok_l_kinds (T : Txt K mg Ad0) : FnG P w K mg base CX0 1 Ad0.a_l_kinds Ad0.fd_l_kinds ["_law_e"] (FnD K sem_l_kinds) :=
  fn_body T.F_l_kinds sc_l_kinds len_l_kinds (pb_l_kinds T) okd_l_kinds
theorem pb_l_bases (T : Txt K mg Ad0) (cdv : Value) (A : Around) (outer : List Env) (s : Shared) (H : Hp) (E : XK) (hgd : A.guards = some []) (hr : Room 0 (A.deeper (PyProof.Rows.envOfC "_law_bases" (defScope st_l_bases) s.heap.objs.size Ad0.a_l_bases cdv))) :
    PDB (cxOf CX0 P w K mg base ["_law_e", "_law_found"] "_law_bases" (defScope st_l_bases) Ad0.a_l_bases cdv A outer s H E).nox (defBody st_l_bases) den_l_bases :=
  (pdb_cons (pds_set (i := 1) sc_l_bases.nd rfl (by first | exact Or.inl rfl | exact Or.inr rfl) (pd_lst (pda_cons (pd_isX (ob := isK_GateError) (by rfl) T.b_isinstance (pd_var 0) (clsN_own (by rfl) T.g_GateError) (isK_ok_GateError T)) (pda_cons (pd_isX (ob := isK_ValueError) (by rfl) T.b_isinstance (pd_var 0) (clsN_ty (n := "ValueError") (by rfl) T.b_ValueError (by decide +kernel)) (isK_ok_ValueError T)) (pda_cons (pd_isX (ob := isK_KeyError) (by rfl) T.b_isinstance (pd_var 0) (clsN_ty (n := "KeyError") (by rfl) T.b_KeyError (by decide +kernel)) (isK_ok_KeyError T)) (pda_cons (pd_isX (ob := isK_LookupError) (by rfl) T.b_isinstance (pd_var 0) (clsN_ty (n := "LookupError") (by rfl) T.b_LookupError (by decide +kernel)) (isK_ok_LookupError T)) pda_nil))))))
    (pdb_one (pds_ret (pd_add (pd_var 1) (pd_lst (pda_cons (pd_isX (ob := isK_IndexError) (by rfl) T.b_isinstance (pd_var 0) (clsN_ty (n := "IndexError") (by rfl) T.b_IndexError (by decide +kernel)) (isK_ok_IndexError T)) (pda_cons (pd_isX (ob := isK_OverflowError) (by rfl) T.b_isinstance (pd_var 0) (clsN_ty (n := "OverflowError") (by rfl) T.b_OverflowError (by decide +kernel)) (isK_ok_OverflowError T)) (pda_cons (pd_isX (ob := isK_RuntimeError) (by rfl) T.b_isinstance (pd_var 0) (clsN_ty (n := "RuntimeError") (by rfl) T.b_RuntimeError (by decide +kernel)) (isK_ok_RuntimeError T)) pda_nil))))))))
theorem ok_l_bases (T : Txt K mg Ad0) : FnG P w K mg base CX0 1 Ad0.a_l_bases Ad0.fd_l_bases ["_law_e"] (FnD K sem_l_bases) :=
  fn_body T.F_l_bases sc_l_bases len_l_bases (pb_l_bases T) okd_l_bases
theorem pb_l_made (T : Txt K mg Ad0) (cdv : Value) (A : Around) (outer : List Env) (s : Shared) (H : Hp) (E : XK) (hgd : A.guards = some []) (hr : Room 2 (A.deeper (PyProof.Rows.envOfC "_law_made" (defScope st_l_made) s.heap.objs.size Ad0.a_l_made cdv))) :
    PDB (cxOf CX0 P w K mg base ["_law_number", "_law_one", "_law_other", "_law_some"] "_law_made" (defScope st_l_made) Ad0.a_l_made cdv A outer s H E).nox (defBody st_l_made) den_l_made :=
  (pdb_cons (pds_set (i := 3) sc_l_made.nd rfl (by first | exact Or.inl rfl | exact Or.inr rfl) (pd_lst (pda_cons (pd_mkX T.X_NoWord T.n_NoWord (by rfl)) (pda_cons (pd_mkX T.X_NoBit T.n_NoBit (by rfl)) (pda_cons (pd_mkX T.X_NoTable T.n_NoTable (by rfl)) (pda_cons (pd_mkX T.X_Bare T.n_Bare (by rfl)) (pda_cons (pd_mkX T.X_Shut T.n_Shut (by rfl)) (pda_cons (pd_mkX T.X_NoRow T.n_NoRow (by rfl)) (pda_cons (pd_mkXF (exf_NoProgram T) T.n_NoProgram (hr.mono (by decide)) (by rfl) (pda_cons (pd_var 1) pda_nil)) (pda_cons (pd_mkXF (exf_NoText T) T.n_NoText (hr.mono (by decide)) (by rfl) (pda_cons (pd_var 1) pda_nil)) pda_nil))))))))))
    (pdb_cons (pds_set (i := 3) sc_l_made.nd rfl (by first | exact Or.inl rfl | exact Or.inr rfl) (pd_add (pd_var 3) (pd_lst (pda_cons (pd_mkXF (exf_NoContract T) T.n_NoContract (hr.mono (by decide)) (by rfl) (pda_cons (pd_var 1) (pda_cons (pd_var 2) pda_nil))) (pda_cons (pd_mkXF (exf_NoInput T) T.n_NoInput (hr.mono (by decide)) (by rfl) (pda_cons (pd_var 1) pda_nil)) (pda_cons (pd_mkXF (exf_TooMany T) T.n_TooMany (hr.mono (by decide)) (by rfl) (pda_cons (pd_var 1) pda_nil)) (pda_cons (pd_mkXF (exf_NotLet T) T.n_NotLet (hr.mono (by decide)) (by rfl) (pda_cons (pd_var 1) (pda_cons (pd_var 2) pda_nil))) (pda_cons (pd_mkXK (exf_NoCall T) T.n_NoCall (hr.mono (by decide)) (by rfl) (pda_cons (pd_var 1) pda_nil)) (pda_cons (pd_mkXK (exf_NoName T) T.n_NoName (hr.mono (by decide)) (by rfl) (pda_cons (pd_var 1) pda_nil)) pda_nil)))))))))
    (pdb_one (pds_ret (pd_ix (hu_of hr) (pd_add (pd_var 3) (pd_lst (pda_cons (pd_mkXL (exf_NoShelf T) T.n_NoShelf (hr.mono (by decide)) (by rfl) (pda_cons (pd_var 1) pda_nil)) pda_nil))) (pd_var 0) (fun _ _ => rfl))))))
theorem ok_l_made (T : Txt K mg Ad0) : FnG P w K mg base CX0 3 Ad0.a_l_made Ad0.fd_l_made ["_law_number", "_law_one", "_law_other"] (FnD K sem_l_made) :=
  fn_body T.F_l_made sc_l_made len_l_made (pb_l_made T) okd_l_made
theorem pb_l_fields (T : Txt K mg Ad0) (cdv : Value) (A : Around) (outer : List Env) (s : Shared) (H : Hp) (E : XK) (hgd : A.guards = some []) (hr : Room 0 (A.deeper (PyProof.Rows.envOfC "_law_fields" (defScope st_l_fields) s.heap.objs.size Ad0.a_l_fields cdv))) :
    PDB (cxOf CX0 P w K mg base ["_law_number", "_law_e"] "_law_fields" (defScope st_l_fields) Ad0.a_l_fields cdv A outer s H E).nox (defBody st_l_fields) den_l_fields :=
  (pdb_cons (pds_if (pdt_cmp op_in_seq opD_in (pd_var 0) (pd_tup (pda_cons pd_int (pda_cons pd_int pda_nil))) (by with_unfolding_all rfl)) (pdb_one (pds_ret (pd_lst (pda_cons (pd_xF (okx := fldT_number) (pd_var 1) (fld_ok_number T)) pda_nil)))) pdb_nil)
    (pdb_cons (pds_if (pdt_cmp (opR_or op_eq (op_eqD hr.units)) opD_eq (pd_var 0) pd_int (nomark _)) (pdb_one (pds_ret (pd_lst (pda_cons (pd_xF (okx := fldT_part) (pd_var 1) (fld_ok_part T)) (pda_cons (pd_xF (okx := fldT_number) (pd_var 1) (fld_ok_number T)) pda_nil))))) pdb_nil)
    (pdb_cons (pds_if (pdt_cmp (opR_or op_eq (op_eqD hr.units)) opD_eq (pd_var 0) pd_int (nomark _)) (pdb_one (pds_ret (pd_lst (pda_cons (pd_xF (okx := fldT_part) (pd_var 1) (fld_ok_part T)) pda_nil)))) pdb_nil)
    (pdb_cons (pds_if (pdt_cmp (opR_or op_eq (op_eqD hr.units)) opD_eq (pd_var 0) pd_int (nomark _)) (pdb_one (pds_ret (pd_lst (pda_cons (pd_xF (okx := fldT_size) (pd_var 1) (fld_ok_size T)) pda_nil)))) pdb_nil)
    (pdb_cons (pds_if (pdt_cmp (opR_or op_eq (op_eqD hr.units)) opD_eq (pd_var 0) pd_int (nomark _)) (pdb_one (pds_ret (pd_lst (pda_cons (pd_xF (okx := fldT_word) (pd_var 1) (fld_ok_word T)) (pda_cons (pd_xF (okx := fldT_way) (pd_var 1) (fld_ok_way T)) pda_nil))))) pdb_nil)
    (pdb_one (pds_ret (pd_ifE (pdt_cmp op_gt opD_gt (pd_var 0) pd_int (nomark _)) (pd_lst (pda_cons (pd_xF (okx := fldT_name) (pd_var 1) (fld_ok_name T)) pda_nil)) (pd_lst pda_nil)))))))))
theorem ok_l_fields (T : Txt K mg Ad0) : FnG P w K mg base CX0 1 Ad0.a_l_fields Ad0.fd_l_fields ["_law_number", "_law_e"] (FnD K sem_l_fields) :=
  fn_body T.F_l_fields sc_l_fields len_l_fields (pb_l_fields T) okd_l_fields
theorem pb_p_law (T : Txt K mg Ad0) (cdv : Value) (A : Around) (outer : List Env) (s : Shared) (H : Hp) (E : XK) (hgd : A.guards = some []) (hr : Room 3 (A.deeper (PyProof.Rows.envOfC "law" (defScope st_p_law) s.heap.objs.size Ad0.a_p_law cdv))) :
    PDB (cxOf CX0 P w K mg base ["_law_script", "_law_k", "_law_pool_here", "_law_some", "_law_one", "_law_other", "_law_number", "_law_made_here", "_law_second", "_law_kinds_here", "_law_at", "_law_is_so", "_law_due", "_law_values"] "law" (defScope st_p_law) Ad0.a_p_law cdv A outer s H E).nox (defBody st_p_law) den_p_law :=
  (pdb_cons (pds_for PassesOwn.never rfl (pdi_range1 (by rfl) T.b_range (pda_cons (pd_callB (call_max2 rfl) callD_max (by rfl) T.b_max (by decide +kernel) (pda_cons pd_int (pda_cons (pd_callB (call_min2 rfl) callD_min (by rfl) T.b_min (by decide +kernel) (pda_cons (pd_callB call_len3 callD_len (by rfl) T.b_len (by decide +kernel) (pda_cons (pd_var 0) pda_nil)) (pda_cons pd_int pda_nil))) pda_nil))) pda_nil)) (pdg_name (i := 1) sc_p_law.nd rfl (by first | exact Or.inl rfl | exact Or.inr rfl)) (pdb_cons (pds_set (i := 2) sc_p_law.nd rfl (by first | exact Or.inl rfl | exact Or.inr rfl) (pd_fn (ok_l_pool T) hgd (hr.mono (by decide)) (by rfl) T.m_l_pool T.F_l_pool.kp (bn_l_pool_2 T) (pda_cons (pd_var 0) (pda_cons (pd_var 1) pda_nil))))
    (pdb_cons (pds_set (i := 3) sc_p_law.nd rfl (by first | exact Or.inl rfl | exact Or.inr rfl) (pd_lst (pda_cons pd_non (pda_cons pd_int (pda_cons pd_str (pda_cons pd_bl (pda_cons (pd_lst (pda_cons pd_int pda_nil)) (pda_cons (pd_tup (pda_cons pd_int (pda_cons pd_str pda_nil))) (pda_cons pd_dnew (pda_cons pd_int (pda_cons (pd_neg pd_int) (pda_cons pd_str (pda_cons (pd_pow pd_int pd_int) pda_nil)))))))))))))
    (pdb_cons (pds_par (ps_par rfl sc_p_law.nd (i := 4) (j := 5) rfl rfl (by decide) rfl rfl (pda_cons (pd_ix (hu_of hr) (pd_var 3) (pd_fn (ok_l_take T) hgd (hr.mono (by decide)) (by rfl) T.m_l_take T.F_l_take.kp (bn_l_take_2 T) (pda_cons (pd_var 2) (pda_cons pd_int pda_nil))) (fun _ _ => rfl)) (pda_cons (pd_ix (hu_of hr) (pd_var 3) (pd_fn (ok_l_take T) hgd (hr.mono (by decide)) (by rfl) T.m_l_take T.F_l_take.kp (bn_l_take_2 T) (pda_cons (pd_var 2) (pda_cons pd_int pda_nil))) (fun _ _ => rfl)) pda_nil)) (by rfl)))
    (pdb_one (pds_for PassesOwn.never rfl (pdi_range1 (by rfl) T.b_range (pda_cons pd_int pda_nil)) (pdg_name (i := 6) sc_p_law.nd rfl (by first | exact Or.inl rfl | exact Or.inr rfl)) (pdb_cons (pds_par (ps_par rfl sc_p_law.nd (i := 7) (j := 8) rfl rfl (by decide) rfl rfl (pda_cons (pd_fn (ok_l_made T) hgd (hr.mono (by decide)) (by rfl) T.m_l_made T.F_l_made.kp (bn_l_made_3 T) (pda_cons (pd_var 6) (pda_cons (pd_var 4) (pda_cons (pd_var 5) pda_nil)))) (pda_cons (pd_fn (ok_l_made T) hgd (hr.mono (by decide)) (by rfl) T.m_l_made T.F_l_made.kp (bn_l_made_3 T) (pda_cons (pd_var 6) (pda_cons (pd_var 5) (pda_cons (pd_var 4) pda_nil)))) pda_nil)) (by rfl)))
    (pdb_cons (pds_setLc (i := 9) (g := (.tup [10, 11])) rfl sc_p_law.nd rfl rfl (sw_true rfl rfl rfl (by decide +kernel)) (pdi_enum (by rfl) T.b_enumerate (pda_cons (pd_fn (ok_l_kinds T) hgd (hr.mono (by decide)) (by rfl) T.m_l_kinds T.F_l_kinds.kp (bn_l_kinds_1 T) (pda_cons (pd_var 7) pda_nil)) pda_nil)) (blkOk_by (N := ["_law_script", "_law_k", "_law_pool_here", "_law_some", "_law_one", "_law_other", "_law_number", "_law_made_here", "_law_second", "_law_kinds_here", "_law_at", "_law_is_so", "_law_due", "_law_values"]) (sc := defScope st_p_law) (own := [("_law_at", 10), ("_law_is_so", 11)]) (by decide +kernel)) rfl (fun _ _ _ _ _ => (pgn_tup (is := [10, 11]) rfl (pgn_cons (pg_name (i := 10) sc_p_law.nd rfl (by first | exact Or.inl rfl | exact Or.inr rfl)) (pgn_cons (pg_name (i := 11) sc_p_law.nd rfl (by first | exact Or.inl rfl | exact Or.inr rfl)) pgn_nil)))) (fun _ _ _ _ _ => (pts_one (pdt_of (pd_var 11)))) (fun _ _ _ _ _ => (pd_var 10)))
    (pdb_cons (pds_if (pdt_w (pdw_or (pdt_cmp (opR_or op_ne (op_neD hr.units)) opD_ne (pd_var 9) (pd_lst (pda_cons (pd_var 6) pda_nil)) (nomark _)) (pdw_one_or (pdt_cmp (opR_or op_ne (op_neD hr.units)) opD_ne (pd_fn (ok_l_kinds T) hgd (hr.mono (by decide)) (by rfl) T.m_l_kinds T.F_l_kinds.kp (bn_l_kinds_1 T) (pda_cons (pd_var 8) pda_nil)) (pd_fn (ok_l_kinds T) hgd (hr.mono (by decide)) (by rfl) T.m_l_kinds T.F_l_kinds.kp (bn_l_kinds_1 T) (pda_cons (pd_var 7) pda_nil)) (nomark _))))) (pdb_one (pds_ret pd_bl)) pdb_nil)
    (pdb_cons (pds_set (i := 12) sc_p_law.nd rfl (by first | exact Or.inl rfl | exact Or.inr rfl) (pd_lst (pda_cons pd_bl (pda_cons pd_bl (pda_cons pd_bl (pda_cons pd_bl (pda_cons pd_bl (pda_cons pd_bl (pda_cons pd_bl pda_nil)))))))))
    (pdb_cons (pds_if (pdt_cmp op_gt opD_gt (pd_var 6) pd_int (nomark _)) (pdb_one (pds_set (i := 12) sc_p_law.nd rfl (by first | exact Or.inl rfl | exact Or.inr rfl) (pd_lst (pda_cons pd_bl (pda_cons pd_bl (pda_cons (pd_lt (pd_var 6) pd_int) (pda_cons pd_bl (pda_cons pd_bl (pda_cons pd_bl (pda_cons pd_bl pda_nil)))))))))) pdb_nil)
    (pdb_cons (pds_set (i := 13) sc_p_law.nd rfl (by first | exact Or.inl rfl | exact Or.inr rfl) (pd_slice (pd_lst (pda_cons (pd_var 4) (pda_cons (pd_var 5) pda_nil))) pdo_none (pdo_some (pd_callB call_len3 callD_len (by rfl) T.b_len (by decide +kernel) (pda_cons (pd_fn (ok_l_fields T) hgd (hr.mono (by decide)) (by rfl) T.m_l_fields T.F_l_fields.kp (bn_l_fields_2 T) (pda_cons (pd_var 6) (pda_cons (pd_var 7) pda_nil))) pda_nil)))))
    (pdb_cons (pds_if (pdt_w (pdw_or (pdt_cmp (opR_or op_ne (op_neD hr.units)) opD_ne (pd_fn (ok_l_bases T) hgd (hr.mono (by decide)) (by rfl) T.m_l_bases T.F_l_bases.kp (bn_l_bases_1 T) (pda_cons (pd_var 7) pda_nil)) (pd_var 12) (nomark _)) (pdw_one_or (pdt_cmp (opR_or op_ne (op_neD hr.units)) opD_ne (pd_callB (call_reprE hgd hr.units) callD_reprF (by rfl) T.b_repr (by decide +kernel) (pda_cons (pd_fn (ok_l_fields T) hgd (hr.mono (by decide)) (by rfl) T.m_l_fields T.F_l_fields.kp (bn_l_fields_2 T) (pda_cons (pd_var 6) (pda_cons (pd_var 7) pda_nil))) pda_nil)) (pd_callB (call_reprE hgd hr.units) callD_reprF (by rfl) T.b_repr (by decide +kernel) (pda_cons (pd_var 13) pda_nil)) (nomark _))))) (pdb_one (pds_ret pd_bl)) pdb_nil)
    (pdb_one (pds_if (pdt_cmp (opR_or op_ne (op_neD hr.units)) opD_ne (pd_callB (call_reprE hgd hr.units) callD_reprF (by rfl) T.b_repr (by decide +kernel) (pda_cons (pd_fn (ok_l_fields T) hgd (hr.mono (by decide)) (by rfl) T.m_l_fields T.F_l_fields.kp (bn_l_fields_2 T) (pda_cons (pd_var 6) (pda_cons (pd_var 8) pda_nil))) pda_nil)) (pd_callB (call_reprE hgd hr.units) callD_reprF (by rfl) T.b_repr (by decide +kernel) (pda_cons (pd_slice (pd_lst (pda_cons (pd_var 5) (pda_cons (pd_var 4) pda_nil))) pdo_none (pdo_some (pd_callB call_len3 callD_len (by rfl) T.b_len (by decide +kernel) (pda_cons (pd_var 13) pda_nil)))) pda_nil)) (nomark _)) (pdb_one (pds_ret pd_bl)) pdb_nil)))))))))))))))
    (pdb_one (pds_ret pd_bl)))
theorem ok_p_law (T : Txt K mg Ad0) : FnG P w K mg base CX0 4 Ad0.a_p_law Ad0.fd_p_law ["_law_script"] (FnD K sem_p_law) :=
  fn_body T.F_p_law sc_p_law len_p_law (pb_p_law T) okd_p_law
end
theorem all_mk {l : PySem.W.OpenLaw} {w : World} {K : PySem.W.Frag} {h : Heap} {mg : Str → Option Value} {fa : Addr} (X : K.In h) (G : h.Ns mainGlobals mg) (hfa : mg "law" = some (.ref fa))
    {f_l_pool : Addr} {od_l_pool an_l_pool : Option Addr} {sl_l_pool : Array (Option Value)} {oc_l_pool kV_l_pool dc_l_pool pm_l_pool cd_l_pool ct_l_pool : Value}
    {f_l_take : Addr} {od_l_take an_l_take : Option Addr} {sl_l_take : Array (Option Value)} {oc_l_take kV_l_take dc_l_take pm_l_take cd_l_take ct_l_take : Value}
    {f_l_kinds : Addr} {od_l_kinds an_l_kinds : Option Addr} {sl_l_kinds : Array (Option Value)} {oc_l_kinds kV_l_kinds dc_l_kinds pm_l_kinds cd_l_kinds ct_l_kinds : Value}
    {f_l_bases : Addr} {od_l_bases an_l_bases : Option Addr} {sl_l_bases : Array (Option Value)} {oc_l_bases kV_l_bases dc_l_bases pm_l_bases cd_l_bases ct_l_bases : Value}
    {f_l_made : Addr} {od_l_made an_l_made : Option Addr} {sl_l_made : Array (Option Value)} {oc_l_made kV_l_made dc_l_made pm_l_made cd_l_made ct_l_made : Value}
    {f_l_fields : Addr} {od_l_fields an_l_fields : Option Addr} {sl_l_fields : Array (Option Value)} {oc_l_fields kV_l_fields dc_l_fields pm_l_fields cd_l_fields ct_l_fields : Value}
    {f_p_law : Addr} {od_p_law an_p_law : Option Addr} {sl_p_law : Array (Option Value)} {oc_p_law kV_p_law dc_p_law pm_p_law cd_p_law ct_p_law : Value}
    (a_l_pool : PySem.W.nsIn K mainGlobals "_law_pool" = some (some (.ref f_l_pool)))
    (l_l_pool : K.lookup f_l_pool = some ⟨oc_l_pool, od_l_pool, .func (PySem.W.fnOf "_law_pool" "_law_pool" (defArgs st_l_pool) (defBody st_l_pool) (defScope st_l_pool) .none kV_l_pool dc_l_pool pm_l_pool an_l_pool cd_l_pool ct_l_pool), sl_l_pool⟩)
    (c_l_pool : PySem.W.codeIn K cd_l_pool "_law_pool" = true) (k_l_pool : PySem.W.keepIn K (.ref f_l_pool) = true)
    (a_l_take : PySem.W.nsIn K mainGlobals "_law_take" = some (some (.ref f_l_take)))
    (l_l_take : K.lookup f_l_take = some ⟨oc_l_take, od_l_take, .func (PySem.W.fnOf "_law_take" "_law_take" (defArgs st_l_take) (defBody st_l_take) (defScope st_l_take) .none kV_l_take dc_l_take pm_l_take an_l_take cd_l_take ct_l_take), sl_l_take⟩)
    (c_l_take : PySem.W.codeIn K cd_l_take "_law_take" = true) (k_l_take : PySem.W.keepIn K (.ref f_l_take) = true)
    (a_l_kinds : PySem.W.nsIn K mainGlobals "_law_kinds" = some (some (.ref f_l_kinds)))
    (l_l_kinds : K.lookup f_l_kinds = some ⟨oc_l_kinds, od_l_kinds, .func (PySem.W.fnOf "_law_kinds" "_law_kinds" (defArgs st_l_kinds) (defBody st_l_kinds) (defScope st_l_kinds) .none kV_l_kinds dc_l_kinds pm_l_kinds an_l_kinds cd_l_kinds ct_l_kinds), sl_l_kinds⟩)
    (c_l_kinds : PySem.W.codeIn K cd_l_kinds "_law_kinds" = true) (k_l_kinds : PySem.W.keepIn K (.ref f_l_kinds) = true)
    (a_l_bases : PySem.W.nsIn K mainGlobals "_law_bases" = some (some (.ref f_l_bases)))
    (l_l_bases : K.lookup f_l_bases = some ⟨oc_l_bases, od_l_bases, .func (PySem.W.fnOf "_law_bases" "_law_bases" (defArgs st_l_bases) (defBody st_l_bases) (defScope st_l_bases) .none kV_l_bases dc_l_bases pm_l_bases an_l_bases cd_l_bases ct_l_bases), sl_l_bases⟩)
    (c_l_bases : PySem.W.codeIn K cd_l_bases "_law_bases" = true) (k_l_bases : PySem.W.keepIn K (.ref f_l_bases) = true)
    (a_l_made : PySem.W.nsIn K mainGlobals "_law_made" = some (some (.ref f_l_made)))
    (l_l_made : K.lookup f_l_made = some ⟨oc_l_made, od_l_made, .func (PySem.W.fnOf "_law_made" "_law_made" (defArgs st_l_made) (defBody st_l_made) (defScope st_l_made) .none kV_l_made dc_l_made pm_l_made an_l_made cd_l_made ct_l_made), sl_l_made⟩)
    (c_l_made : PySem.W.codeIn K cd_l_made "_law_made" = true) (k_l_made : PySem.W.keepIn K (.ref f_l_made) = true)
    (a_l_fields : PySem.W.nsIn K mainGlobals "_law_fields" = some (some (.ref f_l_fields)))
    (l_l_fields : K.lookup f_l_fields = some ⟨oc_l_fields, od_l_fields, .func (PySem.W.fnOf "_law_fields" "_law_fields" (defArgs st_l_fields) (defBody st_l_fields) (defScope st_l_fields) .none kV_l_fields dc_l_fields pm_l_fields an_l_fields cd_l_fields ct_l_fields), sl_l_fields⟩)
    (c_l_fields : PySem.W.codeIn K cd_l_fields "_law_fields" = true) (k_l_fields : PySem.W.keepIn K (.ref f_l_fields) = true)
    (a_p_law : PySem.W.nsIn K mainGlobals "law" = some (some (.ref f_p_law)))
    (l_p_law : K.lookup f_p_law = some ⟨oc_p_law, od_p_law, .func (PySem.W.fnOf "law" "law" (defArgs st_p_law) (defBody st_p_law) (defScope st_p_law) .none kV_p_law dc_p_law pm_p_law an_p_law cd_p_law ct_p_law), sl_p_law⟩)
    (c_p_law : PySem.W.codeIn K cd_p_law "law" = true) (k_p_law : PySem.W.keepIn K (.ref f_p_law) = true)
    (z_IndexError : PySem.W.nsIn K mainGlobals "IndexError" = some none)
    (z_KeyError : PySem.W.nsIn K mainGlobals "KeyError" = some none)
    (z_LookupError : PySem.W.nsIn K mainGlobals "LookupError" = some none)
    (z_OverflowError : PySem.W.nsIn K mainGlobals "OverflowError" = some none)
    (z_RuntimeError : PySem.W.nsIn K mainGlobals "RuntimeError" = some none)
    (z_ValueError : PySem.W.nsIn K mainGlobals "ValueError" = some none)
    (z_abs : PySem.W.nsIn K mainGlobals "abs" = some none)
    (z_enumerate : PySem.W.nsIn K mainGlobals "enumerate" = some none)
    (z_int : PySem.W.nsIn K mainGlobals "int" = some none)
    (z_isinstance : PySem.W.nsIn K mainGlobals "isinstance" = some none)
    (z_len : PySem.W.nsIn K mainGlobals "len" = some none)
    (z_max : PySem.W.nsIn K mainGlobals "max" = some none)
    (z_min : PySem.W.nsIn K mainGlobals "min" = some none)
    (z_range : PySem.W.nsIn K mainGlobals "range" = some none)
    (z_repr : PySem.W.nsIn K mainGlobals "repr" = some none)
    (z_sum : PySem.W.nsIn K mainGlobals "sum" = some none)
    {x_Bare : Addr} (xg_Bare : PySem.W.nsIn K mainGlobals "Bare" = some (some (.ref x_Bare)))
    {x_GateError : Addr} (xg_GateError : PySem.W.nsIn K mainGlobals "GateError" = some (some (.ref x_GateError)))
    {x_NoBit : Addr} (xg_NoBit : PySem.W.nsIn K mainGlobals "NoBit" = some (some (.ref x_NoBit)))
    {x_NoCall : Addr} (xg_NoCall : PySem.W.nsIn K mainGlobals "NoCall" = some (some (.ref x_NoCall)))
    {x_NoContract : Addr} (xg_NoContract : PySem.W.nsIn K mainGlobals "NoContract" = some (some (.ref x_NoContract)))
    {x_NoInput : Addr} (xg_NoInput : PySem.W.nsIn K mainGlobals "NoInput" = some (some (.ref x_NoInput)))
    {x_NoName : Addr} (xg_NoName : PySem.W.nsIn K mainGlobals "NoName" = some (some (.ref x_NoName)))
    {x_NoProgram : Addr} (xg_NoProgram : PySem.W.nsIn K mainGlobals "NoProgram" = some (some (.ref x_NoProgram)))
    {x_NoRow : Addr} (xg_NoRow : PySem.W.nsIn K mainGlobals "NoRow" = some (some (.ref x_NoRow)))
    {x_NoShelf : Addr} (xg_NoShelf : PySem.W.nsIn K mainGlobals "NoShelf" = some (some (.ref x_NoShelf)))
    {x_NoTable : Addr} (xg_NoTable : PySem.W.nsIn K mainGlobals "NoTable" = some (some (.ref x_NoTable)))
    {x_NoText : Addr} (xg_NoText : PySem.W.nsIn K mainGlobals "NoText" = some (some (.ref x_NoText)))
    {x_NoWord : Addr} (xg_NoWord : PySem.W.nsIn K mainGlobals "NoWord" = some (some (.ref x_NoWord)))
    {x_NotLet : Addr} (xg_NotLet : PySem.W.nsIn K mainGlobals "NotLet" = some (some (.ref x_NotLet)))
    {x_Shut : Addr} (xg_Shut : PySem.W.nsIn K mainGlobals "Shut" = some (some (.ref x_Shut)))
    {x_TooMany : Addr} (xg_TooMany : PySem.W.nsIn K mainGlobals "TooMany" = some (some (.ref x_TooMany)))
    {j_NoProgram : Addr} {jo_NoProgram ja_NoProgram : Option Addr} {js_NoProgram : Array (Option Value)} {jc_NoProgram jk_NoProgram jd_NoProgram jp_NoProgram jv_NoProgram jt_NoProgram : Value}
    (ji_NoProgram : PySem.W.findIn K (.ref x_NoProgram) "__init__" = some (some (.ref j_NoProgram)))
    (jl_NoProgram : K.lookup j_NoProgram = some ⟨jc_NoProgram, jo_NoProgram, .func (PySem.W.fnOf "__init__" "NoProgram.__init__" (defArgs sti_NoProgram) (defBody sti_NoProgram) (defScope sti_NoProgram) .none jk_NoProgram jd_NoProgram jp_NoProgram ja_NoProgram jv_NoProgram jt_NoProgram), js_NoProgram⟩)
    (jq_NoProgram : PySem.W.codeIn K jv_NoProgram "NoProgram.__init__" = true) (jw_NoProgram : PySem.W.keepIn K (.ref j_NoProgram) = true) (jy_NoProgram : PySem.W.typeIn K (.ref j_NoProgram) = some (.type "function"))
    {on_NoProgram oq_NoProgram : Str} {oN_NoProgram : Addr} {ob_NoProgram om_NoProgram : List Value} {os_NoProgram : List Str} {ou_NoProgram : List Value} {oa_NoProgram : Bool} {oc_NoProgram : Option Bool} {od_NoProgram : Option Addr} {o0_NoProgram o1_NoProgram o2_NoProgram o3_NoProgram o5_NoProgram : Option Value}
    (ol_NoProgram : K.lookup x_NoProgram = some (excClassObj on_NoProgram oq_NoProgram x_NoProgram oN_NoProgram ob_NoProgram om_NoProgram true os_NoProgram ou_NoProgram oa_NoProgram oc_NoProgram od_NoProgram o0_NoProgram o1_NoProgram o2_NoProgram o3_NoProgram o5_NoProgram "ValueError.__new__")) (or_NoProgram : PySem.HandSPX.refsVE om_NoProgram = true) (ox_NoProgram : PySem.W.findIn K (.ref x_NoProgram) "__setattr__" = some (some (.builtin "object.__setattr__")))
    (nf_NoProgram_number : PySem.W.findIn K (.ref x_NoProgram) "number" = some none)
    {j_NoText : Addr} {jo_NoText ja_NoText : Option Addr} {js_NoText : Array (Option Value)} {jc_NoText jk_NoText jd_NoText jp_NoText jv_NoText jt_NoText : Value}
    (ji_NoText : PySem.W.findIn K (.ref x_NoText) "__init__" = some (some (.ref j_NoText)))
    (jl_NoText : K.lookup j_NoText = some ⟨jc_NoText, jo_NoText, .func (PySem.W.fnOf "__init__" "NoText.__init__" (defArgs sti_NoText) (defBody sti_NoText) (defScope sti_NoText) .none jk_NoText jd_NoText jp_NoText ja_NoText jv_NoText jt_NoText), js_NoText⟩)
    (jq_NoText : PySem.W.codeIn K jv_NoText "NoText.__init__" = true) (jw_NoText : PySem.W.keepIn K (.ref j_NoText) = true) (jy_NoText : PySem.W.typeIn K (.ref j_NoText) = some (.type "function"))
    {on_NoText oq_NoText : Str} {oN_NoText : Addr} {ob_NoText om_NoText : List Value} {os_NoText : List Str} {ou_NoText : List Value} {oa_NoText : Bool} {oc_NoText : Option Bool} {od_NoText : Option Addr} {o0_NoText o1_NoText o2_NoText o3_NoText o5_NoText : Option Value}
    (ol_NoText : K.lookup x_NoText = some (excClassObj on_NoText oq_NoText x_NoText oN_NoText ob_NoText om_NoText true os_NoText ou_NoText oa_NoText oc_NoText od_NoText o0_NoText o1_NoText o2_NoText o3_NoText o5_NoText "ValueError.__new__")) (or_NoText : PySem.HandSPX.refsVE om_NoText = true) (ox_NoText : PySem.W.findIn K (.ref x_NoText) "__setattr__" = some (some (.builtin "object.__setattr__")))
    (nf_NoText_number : PySem.W.findIn K (.ref x_NoText) "number" = some none)
    {j_NoContract : Addr} {jo_NoContract ja_NoContract : Option Addr} {js_NoContract : Array (Option Value)} {jc_NoContract jk_NoContract jd_NoContract jp_NoContract jv_NoContract jt_NoContract : Value}
    (ji_NoContract : PySem.W.findIn K (.ref x_NoContract) "__init__" = some (some (.ref j_NoContract)))
    (jl_NoContract : K.lookup j_NoContract = some ⟨jc_NoContract, jo_NoContract, .func (PySem.W.fnOf "__init__" "NoContract.__init__" (defArgs sti_NoContract) (defBody sti_NoContract) (defScope sti_NoContract) .none jk_NoContract jd_NoContract jp_NoContract ja_NoContract jv_NoContract jt_NoContract), js_NoContract⟩)
    (jq_NoContract : PySem.W.codeIn K jv_NoContract "NoContract.__init__" = true) (jw_NoContract : PySem.W.keepIn K (.ref j_NoContract) = true) (jy_NoContract : PySem.W.typeIn K (.ref j_NoContract) = some (.type "function"))
    {on_NoContract oq_NoContract : Str} {oN_NoContract : Addr} {ob_NoContract om_NoContract : List Value} {os_NoContract : List Str} {ou_NoContract : List Value} {oa_NoContract : Bool} {oc_NoContract : Option Bool} {od_NoContract : Option Addr} {o0_NoContract o1_NoContract o2_NoContract o3_NoContract o5_NoContract : Option Value}
    (ol_NoContract : K.lookup x_NoContract = some (excClassObj on_NoContract oq_NoContract x_NoContract oN_NoContract ob_NoContract om_NoContract true os_NoContract ou_NoContract oa_NoContract oc_NoContract od_NoContract o0_NoContract o1_NoContract o2_NoContract o3_NoContract o5_NoContract "ValueError.__new__")) (or_NoContract : PySem.HandSPX.refsVE om_NoContract = true) (ox_NoContract : PySem.W.findIn K (.ref x_NoContract) "__setattr__" = some (some (.builtin "object.__setattr__")))
    (nf_NoContract_part : PySem.W.findIn K (.ref x_NoContract) "part" = some none)
    (nf_NoContract_number : PySem.W.findIn K (.ref x_NoContract) "number" = some none)
    {j_NoInput : Addr} {jo_NoInput ja_NoInput : Option Addr} {js_NoInput : Array (Option Value)} {jc_NoInput jk_NoInput jd_NoInput jp_NoInput jv_NoInput jt_NoInput : Value}
    (ji_NoInput : PySem.W.findIn K (.ref x_NoInput) "__init__" = some (some (.ref j_NoInput)))
    (jl_NoInput : K.lookup j_NoInput = some ⟨jc_NoInput, jo_NoInput, .func (PySem.W.fnOf "__init__" "NoInput.__init__" (defArgs sti_NoInput) (defBody sti_NoInput) (defScope sti_NoInput) .none jk_NoInput jd_NoInput jp_NoInput ja_NoInput jv_NoInput jt_NoInput), js_NoInput⟩)
    (jq_NoInput : PySem.W.codeIn K jv_NoInput "NoInput.__init__" = true) (jw_NoInput : PySem.W.keepIn K (.ref j_NoInput) = true) (jy_NoInput : PySem.W.typeIn K (.ref j_NoInput) = some (.type "function"))
    {on_NoInput oq_NoInput : Str} {oN_NoInput : Addr} {ob_NoInput om_NoInput : List Value} {os_NoInput : List Str} {ou_NoInput : List Value} {oa_NoInput : Bool} {oc_NoInput : Option Bool} {od_NoInput : Option Addr} {o0_NoInput o1_NoInput o2_NoInput o3_NoInput o5_NoInput : Option Value}
    (ol_NoInput : K.lookup x_NoInput = some (excClassObj on_NoInput oq_NoInput x_NoInput oN_NoInput ob_NoInput om_NoInput true os_NoInput ou_NoInput oa_NoInput oc_NoInput od_NoInput o0_NoInput o1_NoInput o2_NoInput o3_NoInput o5_NoInput "ValueError.__new__")) (or_NoInput : PySem.HandSPX.refsVE om_NoInput = true) (ox_NoInput : PySem.W.findIn K (.ref x_NoInput) "__setattr__" = some (some (.builtin "object.__setattr__")))
    (nf_NoInput_part : PySem.W.findIn K (.ref x_NoInput) "part" = some none)
    {j_TooMany : Addr} {jo_TooMany ja_TooMany : Option Addr} {js_TooMany : Array (Option Value)} {jc_TooMany jk_TooMany jd_TooMany jp_TooMany jv_TooMany jt_TooMany : Value}
    (ji_TooMany : PySem.W.findIn K (.ref x_TooMany) "__init__" = some (some (.ref j_TooMany)))
    (jl_TooMany : K.lookup j_TooMany = some ⟨jc_TooMany, jo_TooMany, .func (PySem.W.fnOf "__init__" "TooMany.__init__" (defArgs sti_TooMany) (defBody sti_TooMany) (defScope sti_TooMany) .none jk_TooMany jd_TooMany jp_TooMany ja_TooMany jv_TooMany jt_TooMany), js_TooMany⟩)
    (jq_TooMany : PySem.W.codeIn K jv_TooMany "TooMany.__init__" = true) (jw_TooMany : PySem.W.keepIn K (.ref j_TooMany) = true) (jy_TooMany : PySem.W.typeIn K (.ref j_TooMany) = some (.type "function"))
    {on_TooMany oq_TooMany : Str} {oN_TooMany : Addr} {ob_TooMany om_TooMany : List Value} {os_TooMany : List Str} {ou_TooMany : List Value} {oa_TooMany : Bool} {oc_TooMany : Option Bool} {od_TooMany : Option Addr} {o0_TooMany o1_TooMany o2_TooMany o3_TooMany o5_TooMany : Option Value}
    (ol_TooMany : K.lookup x_TooMany = some (excClassObj on_TooMany oq_TooMany x_TooMany oN_TooMany ob_TooMany om_TooMany true os_TooMany ou_TooMany oa_TooMany oc_TooMany od_TooMany o0_TooMany o1_TooMany o2_TooMany o3_TooMany o5_TooMany "ValueError.__new__")) (or_TooMany : PySem.HandSPX.refsVE om_TooMany = true) (ox_TooMany : PySem.W.findIn K (.ref x_TooMany) "__setattr__" = some (some (.builtin "object.__setattr__")))
    (nf_TooMany_size : PySem.W.findIn K (.ref x_TooMany) "size" = some none)
    {j_NotLet : Addr} {jo_NotLet ja_NotLet : Option Addr} {js_NotLet : Array (Option Value)} {jc_NotLet jk_NotLet jd_NotLet jp_NotLet jv_NotLet jt_NotLet : Value}
    (ji_NotLet : PySem.W.findIn K (.ref x_NotLet) "__init__" = some (some (.ref j_NotLet)))
    (jl_NotLet : K.lookup j_NotLet = some ⟨jc_NotLet, jo_NotLet, .func (PySem.W.fnOf "__init__" "NotLet.__init__" (defArgs sti_NotLet) (defBody sti_NotLet) (defScope sti_NotLet) .none jk_NotLet jd_NotLet jp_NotLet ja_NotLet jv_NotLet jt_NotLet), js_NotLet⟩)
    (jq_NotLet : PySem.W.codeIn K jv_NotLet "NotLet.__init__" = true) (jw_NotLet : PySem.W.keepIn K (.ref j_NotLet) = true) (jy_NotLet : PySem.W.typeIn K (.ref j_NotLet) = some (.type "function"))
    {on_NotLet oq_NotLet : Str} {oN_NotLet : Addr} {ob_NotLet om_NotLet : List Value} {os_NotLet : List Str} {ou_NotLet : List Value} {oa_NotLet : Bool} {oc_NotLet : Option Bool} {od_NotLet : Option Addr} {o0_NotLet o1_NotLet o2_NotLet o3_NotLet o5_NotLet : Option Value}
    (ol_NotLet : K.lookup x_NotLet = some (excClassObj on_NotLet oq_NotLet x_NotLet oN_NotLet ob_NotLet om_NotLet true os_NotLet ou_NotLet oa_NotLet oc_NotLet od_NotLet o0_NotLet o1_NotLet o2_NotLet o3_NotLet o5_NotLet "ValueError.__new__")) (or_NotLet : PySem.HandSPX.refsVE om_NotLet = true) (ox_NotLet : PySem.W.findIn K (.ref x_NotLet) "__setattr__" = some (some (.builtin "object.__setattr__")))
    (nf_NotLet_word : PySem.W.findIn K (.ref x_NotLet) "word" = some none)
    (nf_NotLet_way : PySem.W.findIn K (.ref x_NotLet) "way" = some none)
    {j_NoCall : Addr} {jo_NoCall ja_NoCall : Option Addr} {js_NoCall : Array (Option Value)} {jc_NoCall jk_NoCall jd_NoCall jp_NoCall jv_NoCall jt_NoCall : Value}
    (ji_NoCall : PySem.W.findIn K (.ref x_NoCall) "__init__" = some (some (.ref j_NoCall)))
    (jl_NoCall : K.lookup j_NoCall = some ⟨jc_NoCall, jo_NoCall, .func (PySem.W.fnOf "__init__" "NoCall.__init__" (defArgs sti_NoCall) (defBody sti_NoCall) (defScope sti_NoCall) .none jk_NoCall jd_NoCall jp_NoCall ja_NoCall jv_NoCall jt_NoCall), js_NoCall⟩)
    (jq_NoCall : PySem.W.codeIn K jv_NoCall "NoCall.__init__" = true) (jw_NoCall : PySem.W.keepIn K (.ref j_NoCall) = true) (jy_NoCall : PySem.W.typeIn K (.ref j_NoCall) = some (.type "function"))
    {on_NoCall oq_NoCall : Str} {oN_NoCall : Addr} {ob_NoCall : List Value} {os_NoCall : List Str} {ou_NoCall : List Value} {oa_NoCall : Bool} {oc_NoCall : Option Bool} {od_NoCall : Option Addr} {o0_NoCall o1_NoCall o2_NoCall o3_NoCall o5_NoCall : Option Value}
    (ol_NoCall : K.lookup x_NoCall = some (excClassObj on_NoCall oq_NoCall x_NoCall oN_NoCall ob_NoCall keT true os_NoCall ou_NoCall oa_NoCall oc_NoCall od_NoCall o0_NoCall o1_NoCall o2_NoCall o3_NoCall o5_NoCall "LookupError.__new__")) (ox_NoCall : PySem.W.findIn K (.ref x_NoCall) "__setattr__" = some (some (.builtin "object.__setattr__")))
    (nf_NoCall_name : PySem.W.findIn K (.ref x_NoCall) "name" = some none)
    {j_NoName : Addr} {jo_NoName ja_NoName : Option Addr} {js_NoName : Array (Option Value)} {jc_NoName jk_NoName jd_NoName jp_NoName jv_NoName jt_NoName : Value}
    (ji_NoName : PySem.W.findIn K (.ref x_NoName) "__init__" = some (some (.ref j_NoName)))
    (jl_NoName : K.lookup j_NoName = some ⟨jc_NoName, jo_NoName, .func (PySem.W.fnOf "__init__" "NoName.__init__" (defArgs sti_NoName) (defBody sti_NoName) (defScope sti_NoName) .none jk_NoName jd_NoName jp_NoName ja_NoName jv_NoName jt_NoName), js_NoName⟩)
    (jq_NoName : PySem.W.codeIn K jv_NoName "NoName.__init__" = true) (jw_NoName : PySem.W.keepIn K (.ref j_NoName) = true) (jy_NoName : PySem.W.typeIn K (.ref j_NoName) = some (.type "function"))
    {on_NoName oq_NoName : Str} {oN_NoName : Addr} {ob_NoName : List Value} {os_NoName : List Str} {ou_NoName : List Value} {oa_NoName : Bool} {oc_NoName : Option Bool} {od_NoName : Option Addr} {o0_NoName o1_NoName o2_NoName o3_NoName o5_NoName : Option Value}
    (ol_NoName : K.lookup x_NoName = some (excClassObj on_NoName oq_NoName x_NoName oN_NoName ob_NoName keT true os_NoName ou_NoName oa_NoName oc_NoName od_NoName o0_NoName o1_NoName o2_NoName o3_NoName o5_NoName "LookupError.__new__")) (ox_NoName : PySem.W.findIn K (.ref x_NoName) "__setattr__" = some (some (.builtin "object.__setattr__")))
    (nf_NoName_name : PySem.W.findIn K (.ref x_NoName) "name" = some none)
    {j_NoShelf : Addr} {jo_NoShelf ja_NoShelf : Option Addr} {js_NoShelf : Array (Option Value)} {jc_NoShelf jk_NoShelf jd_NoShelf jp_NoShelf jv_NoShelf jt_NoShelf : Value}
    (ji_NoShelf : PySem.W.findIn K (.ref x_NoShelf) "__init__" = some (some (.ref j_NoShelf)))
    (jl_NoShelf : K.lookup j_NoShelf = some ⟨jc_NoShelf, jo_NoShelf, .func (PySem.W.fnOf "__init__" "NoShelf.__init__" (defArgs sti_NoShelf) (defBody sti_NoShelf) (defScope sti_NoShelf) .none jk_NoShelf jd_NoShelf jp_NoShelf ja_NoShelf jv_NoShelf jt_NoShelf), js_NoShelf⟩)
    (jq_NoShelf : PySem.W.codeIn K jv_NoShelf "NoShelf.__init__" = true) (jw_NoShelf : PySem.W.keepIn K (.ref j_NoShelf) = true) (jy_NoShelf : PySem.W.typeIn K (.ref j_NoShelf) = some (.type "function"))
    {on_NoShelf oq_NoShelf : Str} {oN_NoShelf : Addr} {ob_NoShelf : List Value} {os_NoShelf : List Str} {ou_NoShelf : List Value} {oa_NoShelf : Bool} {oc_NoShelf : Option Bool} {od_NoShelf : Option Addr} {o0_NoShelf o1_NoShelf o2_NoShelf o3_NoShelf o5_NoShelf : Option Value}
    (ol_NoShelf : K.lookup x_NoShelf = some (excClassObj on_NoShelf oq_NoShelf x_NoShelf oN_NoShelf ob_NoShelf luT true os_NoShelf ou_NoShelf oa_NoShelf oc_NoShelf od_NoShelf o0_NoShelf o1_NoShelf o2_NoShelf o3_NoShelf o5_NoShelf "LookupError.__new__")) (ox_NoShelf : PySem.W.findIn K (.ref x_NoShelf) "__setattr__" = some (some (.builtin "object.__setattr__")))
    (nf_NoShelf_name : PySem.W.findIn K (.ref x_NoShelf) "name" = some none)
    (cr_GateError : PySem.W.readsIn K x_GateError (.type "type") = true) (cs_GateError : PySem.W.specialIn K (.ref x_GateError) "__getattribute__" = some (some (.builtin "type.__getattribute__"))) (cf_GateError : PySem.W.findCls K (.ref x_GateError) (.type "type") "__init__" = some (.val (.builtin "ValueError.__init__")))
    (cKeyError : PySem.W.findCls K (.type "KeyError") (.type "type") "__init__" = some (.val (.builtin "KeyError.__init__")))
    (cLookupError : PySem.W.findCls K (.type "LookupError") (.type "type") "__init__" = some (.val (.builtin "LookupError.__init__")))
    (xe_NoWord : PySem.W.excIn K x_NoWord [.type "ValueError", .type "Exception", .type "BaseException", .type "object"] "ValueError.__new__" = true)
    (xk_NoWord : PySem.W.keepIn K (.ref x_NoWord) = true) (xb_NoWord : PySem.W.subIn K (.ref x_NoWord) (.type "BaseException") = some true) (xt_NoWord : PySem.W.typeIn K (.ref x_NoWord) = some (.type "type"))
    (ya_NoWord : PySem.W.findIn K (.ref x_NoWord) "__getattribute__" = some (some (.builtin "BaseException.__getattribute__"))) (yb_NoWord : PySem.W.findIn K (.ref x_NoWord) "__getattr__" = some none) (yd_NoWord : PySem.W.hasDictIn K x_NoWord = true) (ye_NoWord : PySem.W.findIn K (.ref x_NoWord) "__class__" = some (some (.builtin "object.__class__"))) (yf_NoWord : PySem.W.specialIn K (.builtin "object.__class__") "__get__" = some (some (.builtin "getset_descriptor.__get__"))) (yg_NoWord : PySem.W.takesIn K (.builtin "object.__class__") = some true) (yh_NoWord : PySem.W.mroIn K x_NoWord (.type "object") = some true)
    (xe_NoBit : PySem.W.excIn K x_NoBit [.type "ValueError", .type "Exception", .type "BaseException", .type "object"] "ValueError.__new__" = true)
    (xk_NoBit : PySem.W.keepIn K (.ref x_NoBit) = true) (xb_NoBit : PySem.W.subIn K (.ref x_NoBit) (.type "BaseException") = some true) (xt_NoBit : PySem.W.typeIn K (.ref x_NoBit) = some (.type "type"))
    (ya_NoBit : PySem.W.findIn K (.ref x_NoBit) "__getattribute__" = some (some (.builtin "BaseException.__getattribute__"))) (yb_NoBit : PySem.W.findIn K (.ref x_NoBit) "__getattr__" = some none) (yd_NoBit : PySem.W.hasDictIn K x_NoBit = true) (ye_NoBit : PySem.W.findIn K (.ref x_NoBit) "__class__" = some (some (.builtin "object.__class__"))) (yf_NoBit : PySem.W.specialIn K (.builtin "object.__class__") "__get__" = some (some (.builtin "getset_descriptor.__get__"))) (yg_NoBit : PySem.W.takesIn K (.builtin "object.__class__") = some true) (yh_NoBit : PySem.W.mroIn K x_NoBit (.type "object") = some true)
    (xe_NoTable : PySem.W.excIn K x_NoTable [.type "ValueError", .type "Exception", .type "BaseException", .type "object"] "ValueError.__new__" = true)
    (xk_NoTable : PySem.W.keepIn K (.ref x_NoTable) = true) (xb_NoTable : PySem.W.subIn K (.ref x_NoTable) (.type "BaseException") = some true) (xt_NoTable : PySem.W.typeIn K (.ref x_NoTable) = some (.type "type"))
    (ya_NoTable : PySem.W.findIn K (.ref x_NoTable) "__getattribute__" = some (some (.builtin "BaseException.__getattribute__"))) (yb_NoTable : PySem.W.findIn K (.ref x_NoTable) "__getattr__" = some none) (yd_NoTable : PySem.W.hasDictIn K x_NoTable = true) (ye_NoTable : PySem.W.findIn K (.ref x_NoTable) "__class__" = some (some (.builtin "object.__class__"))) (yf_NoTable : PySem.W.specialIn K (.builtin "object.__class__") "__get__" = some (some (.builtin "getset_descriptor.__get__"))) (yg_NoTable : PySem.W.takesIn K (.builtin "object.__class__") = some true) (yh_NoTable : PySem.W.mroIn K x_NoTable (.type "object") = some true)
    (xe_Bare : PySem.W.excIn K x_Bare [.type "ValueError", .type "Exception", .type "BaseException", .type "object"] "ValueError.__new__" = true)
    (xk_Bare : PySem.W.keepIn K (.ref x_Bare) = true) (xb_Bare : PySem.W.subIn K (.ref x_Bare) (.type "BaseException") = some true) (xt_Bare : PySem.W.typeIn K (.ref x_Bare) = some (.type "type"))
    (ya_Bare : PySem.W.findIn K (.ref x_Bare) "__getattribute__" = some (some (.builtin "BaseException.__getattribute__"))) (yb_Bare : PySem.W.findIn K (.ref x_Bare) "__getattr__" = some none) (yd_Bare : PySem.W.hasDictIn K x_Bare = true) (ye_Bare : PySem.W.findIn K (.ref x_Bare) "__class__" = some (some (.builtin "object.__class__"))) (yf_Bare : PySem.W.specialIn K (.builtin "object.__class__") "__get__" = some (some (.builtin "getset_descriptor.__get__"))) (yg_Bare : PySem.W.takesIn K (.builtin "object.__class__") = some true) (yh_Bare : PySem.W.mroIn K x_Bare (.type "object") = some true)
    (xe_Shut : PySem.W.excIn K x_Shut [.type "ValueError", .type "Exception", .type "BaseException", .type "object"] "ValueError.__new__" = true)
    (xk_Shut : PySem.W.keepIn K (.ref x_Shut) = true) (xb_Shut : PySem.W.subIn K (.ref x_Shut) (.type "BaseException") = some true) (xt_Shut : PySem.W.typeIn K (.ref x_Shut) = some (.type "type"))
    (ya_Shut : PySem.W.findIn K (.ref x_Shut) "__getattribute__" = some (some (.builtin "BaseException.__getattribute__"))) (yb_Shut : PySem.W.findIn K (.ref x_Shut) "__getattr__" = some none) (yd_Shut : PySem.W.hasDictIn K x_Shut = true) (ye_Shut : PySem.W.findIn K (.ref x_Shut) "__class__" = some (some (.builtin "object.__class__"))) (yf_Shut : PySem.W.specialIn K (.builtin "object.__class__") "__get__" = some (some (.builtin "getset_descriptor.__get__"))) (yg_Shut : PySem.W.takesIn K (.builtin "object.__class__") = some true) (yh_Shut : PySem.W.mroIn K x_Shut (.type "object") = some true)
    (xe_NoRow : PySem.W.excIn K x_NoRow [.type "ValueError", .type "Exception", .type "BaseException", .type "object"] "ValueError.__new__" = true)
    (xk_NoRow : PySem.W.keepIn K (.ref x_NoRow) = true) (xb_NoRow : PySem.W.subIn K (.ref x_NoRow) (.type "BaseException") = some true) (xt_NoRow : PySem.W.typeIn K (.ref x_NoRow) = some (.type "type"))
    (ya_NoRow : PySem.W.findIn K (.ref x_NoRow) "__getattribute__" = some (some (.builtin "BaseException.__getattribute__"))) (yb_NoRow : PySem.W.findIn K (.ref x_NoRow) "__getattr__" = some none) (yd_NoRow : PySem.W.hasDictIn K x_NoRow = true) (ye_NoRow : PySem.W.findIn K (.ref x_NoRow) "__class__" = some (some (.builtin "object.__class__"))) (yf_NoRow : PySem.W.specialIn K (.builtin "object.__class__") "__get__" = some (some (.builtin "getset_descriptor.__get__"))) (yg_NoRow : PySem.W.takesIn K (.builtin "object.__class__") = some true) (yh_NoRow : PySem.W.mroIn K x_NoRow (.type "object") = some true)
    (xk_NoProgram : PySem.W.keepIn K (.ref x_NoProgram) = true) (xb_NoProgram : PySem.W.subIn K (.ref x_NoProgram) (.type "BaseException") = some true) (xt_NoProgram : PySem.W.typeIn K (.ref x_NoProgram) = some (.type "type"))
    (ya_NoProgram : PySem.W.findIn K (.ref x_NoProgram) "__getattribute__" = some (some (.builtin "BaseException.__getattribute__"))) (yb_NoProgram : PySem.W.findIn K (.ref x_NoProgram) "__getattr__" = some none) (yd_NoProgram : PySem.W.hasDictIn K x_NoProgram = true) (ye_NoProgram : PySem.W.findIn K (.ref x_NoProgram) "__class__" = some (some (.builtin "object.__class__"))) (yf_NoProgram : PySem.W.specialIn K (.builtin "object.__class__") "__get__" = some (some (.builtin "getset_descriptor.__get__"))) (yg_NoProgram : PySem.W.takesIn K (.builtin "object.__class__") = some true) (yh_NoProgram : PySem.W.mroIn K x_NoProgram (.type "object") = some true)
    (xk_NoText : PySem.W.keepIn K (.ref x_NoText) = true) (xb_NoText : PySem.W.subIn K (.ref x_NoText) (.type "BaseException") = some true) (xt_NoText : PySem.W.typeIn K (.ref x_NoText) = some (.type "type"))
    (ya_NoText : PySem.W.findIn K (.ref x_NoText) "__getattribute__" = some (some (.builtin "BaseException.__getattribute__"))) (yb_NoText : PySem.W.findIn K (.ref x_NoText) "__getattr__" = some none) (yd_NoText : PySem.W.hasDictIn K x_NoText = true) (ye_NoText : PySem.W.findIn K (.ref x_NoText) "__class__" = some (some (.builtin "object.__class__"))) (yf_NoText : PySem.W.specialIn K (.builtin "object.__class__") "__get__" = some (some (.builtin "getset_descriptor.__get__"))) (yg_NoText : PySem.W.takesIn K (.builtin "object.__class__") = some true) (yh_NoText : PySem.W.mroIn K x_NoText (.type "object") = some true)
    (xk_NoContract : PySem.W.keepIn K (.ref x_NoContract) = true) (xb_NoContract : PySem.W.subIn K (.ref x_NoContract) (.type "BaseException") = some true) (xt_NoContract : PySem.W.typeIn K (.ref x_NoContract) = some (.type "type"))
    (ya_NoContract : PySem.W.findIn K (.ref x_NoContract) "__getattribute__" = some (some (.builtin "BaseException.__getattribute__"))) (yb_NoContract : PySem.W.findIn K (.ref x_NoContract) "__getattr__" = some none) (yd_NoContract : PySem.W.hasDictIn K x_NoContract = true) (ye_NoContract : PySem.W.findIn K (.ref x_NoContract) "__class__" = some (some (.builtin "object.__class__"))) (yf_NoContract : PySem.W.specialIn K (.builtin "object.__class__") "__get__" = some (some (.builtin "getset_descriptor.__get__"))) (yg_NoContract : PySem.W.takesIn K (.builtin "object.__class__") = some true) (yh_NoContract : PySem.W.mroIn K x_NoContract (.type "object") = some true)
    (xk_NoInput : PySem.W.keepIn K (.ref x_NoInput) = true) (xb_NoInput : PySem.W.subIn K (.ref x_NoInput) (.type "BaseException") = some true) (xt_NoInput : PySem.W.typeIn K (.ref x_NoInput) = some (.type "type"))
    (ya_NoInput : PySem.W.findIn K (.ref x_NoInput) "__getattribute__" = some (some (.builtin "BaseException.__getattribute__"))) (yb_NoInput : PySem.W.findIn K (.ref x_NoInput) "__getattr__" = some none) (yd_NoInput : PySem.W.hasDictIn K x_NoInput = true) (ye_NoInput : PySem.W.findIn K (.ref x_NoInput) "__class__" = some (some (.builtin "object.__class__"))) (yf_NoInput : PySem.W.specialIn K (.builtin "object.__class__") "__get__" = some (some (.builtin "getset_descriptor.__get__"))) (yg_NoInput : PySem.W.takesIn K (.builtin "object.__class__") = some true) (yh_NoInput : PySem.W.mroIn K x_NoInput (.type "object") = some true)
    (xk_TooMany : PySem.W.keepIn K (.ref x_TooMany) = true) (xb_TooMany : PySem.W.subIn K (.ref x_TooMany) (.type "BaseException") = some true) (xt_TooMany : PySem.W.typeIn K (.ref x_TooMany) = some (.type "type"))
    (ya_TooMany : PySem.W.findIn K (.ref x_TooMany) "__getattribute__" = some (some (.builtin "BaseException.__getattribute__"))) (yb_TooMany : PySem.W.findIn K (.ref x_TooMany) "__getattr__" = some none) (yd_TooMany : PySem.W.hasDictIn K x_TooMany = true) (ye_TooMany : PySem.W.findIn K (.ref x_TooMany) "__class__" = some (some (.builtin "object.__class__"))) (yf_TooMany : PySem.W.specialIn K (.builtin "object.__class__") "__get__" = some (some (.builtin "getset_descriptor.__get__"))) (yg_TooMany : PySem.W.takesIn K (.builtin "object.__class__") = some true) (yh_TooMany : PySem.W.mroIn K x_TooMany (.type "object") = some true)
    (xk_NotLet : PySem.W.keepIn K (.ref x_NotLet) = true) (xb_NotLet : PySem.W.subIn K (.ref x_NotLet) (.type "BaseException") = some true) (xt_NotLet : PySem.W.typeIn K (.ref x_NotLet) = some (.type "type"))
    (ya_NotLet : PySem.W.findIn K (.ref x_NotLet) "__getattribute__" = some (some (.builtin "BaseException.__getattribute__"))) (yb_NotLet : PySem.W.findIn K (.ref x_NotLet) "__getattr__" = some none) (yd_NotLet : PySem.W.hasDictIn K x_NotLet = true) (ye_NotLet : PySem.W.findIn K (.ref x_NotLet) "__class__" = some (some (.builtin "object.__class__"))) (yf_NotLet : PySem.W.specialIn K (.builtin "object.__class__") "__get__" = some (some (.builtin "getset_descriptor.__get__"))) (yg_NotLet : PySem.W.takesIn K (.builtin "object.__class__") = some true) (yh_NotLet : PySem.W.mroIn K x_NotLet (.type "object") = some true)
    (xk_NoCall : PySem.W.keepIn K (.ref x_NoCall) = true) (xb_NoCall : PySem.W.subIn K (.ref x_NoCall) (.type "BaseException") = some true) (xt_NoCall : PySem.W.typeIn K (.ref x_NoCall) = some (.type "type"))
    (ya_NoCall : PySem.W.findIn K (.ref x_NoCall) "__getattribute__" = some (some (.builtin "BaseException.__getattribute__"))) (yb_NoCall : PySem.W.findIn K (.ref x_NoCall) "__getattr__" = some none) (yd_NoCall : PySem.W.hasDictIn K x_NoCall = true) (ye_NoCall : PySem.W.findIn K (.ref x_NoCall) "__class__" = some (some (.builtin "object.__class__"))) (yf_NoCall : PySem.W.specialIn K (.builtin "object.__class__") "__get__" = some (some (.builtin "getset_descriptor.__get__"))) (yg_NoCall : PySem.W.takesIn K (.builtin "object.__class__") = some true) (yh_NoCall : PySem.W.mroIn K x_NoCall (.type "object") = some true)
    (xk_NoName : PySem.W.keepIn K (.ref x_NoName) = true) (xb_NoName : PySem.W.subIn K (.ref x_NoName) (.type "BaseException") = some true) (xt_NoName : PySem.W.typeIn K (.ref x_NoName) = some (.type "type"))
    (ya_NoName : PySem.W.findIn K (.ref x_NoName) "__getattribute__" = some (some (.builtin "BaseException.__getattribute__"))) (yb_NoName : PySem.W.findIn K (.ref x_NoName) "__getattr__" = some none) (yd_NoName : PySem.W.hasDictIn K x_NoName = true) (ye_NoName : PySem.W.findIn K (.ref x_NoName) "__class__" = some (some (.builtin "object.__class__"))) (yf_NoName : PySem.W.specialIn K (.builtin "object.__class__") "__get__" = some (some (.builtin "getset_descriptor.__get__"))) (yg_NoName : PySem.W.takesIn K (.builtin "object.__class__") = some true) (yh_NoName : PySem.W.mroIn K x_NoName (.type "object") = some true)
    (xk_NoShelf : PySem.W.keepIn K (.ref x_NoShelf) = true) (xb_NoShelf : PySem.W.subIn K (.ref x_NoShelf) (.type "BaseException") = some true) (xt_NoShelf : PySem.W.typeIn K (.ref x_NoShelf) = some (.type "type"))
    (ya_NoShelf : PySem.W.findIn K (.ref x_NoShelf) "__getattribute__" = some (some (.builtin "BaseException.__getattribute__"))) (yb_NoShelf : PySem.W.findIn K (.ref x_NoShelf) "__getattr__" = some none) (yd_NoShelf : PySem.W.hasDictIn K x_NoShelf = true) (ye_NoShelf : PySem.W.findIn K (.ref x_NoShelf) "__class__" = some (some (.builtin "object.__class__"))) (yf_NoShelf : PySem.W.specialIn K (.builtin "object.__class__") "__get__" = some (some (.builtin "getset_descriptor.__get__"))) (yg_NoShelf : PySem.W.takesIn K (.builtin "object.__class__") = some true) (yh_NoShelf : PySem.W.mroIn K x_NoShelf (.type "object") = some true)
    (i_NoWord_Bare : PySem.W.kitOne K (.ref x_NoWord) (.ref x_Bare) = some false)
    (i_NoBit_Bare : PySem.W.kitOne K (.ref x_NoBit) (.ref x_Bare) = some false)
    (i_NoTable_Bare : PySem.W.kitOne K (.ref x_NoTable) (.ref x_Bare) = some false)
    (i_Bare_Bare : PySem.W.kitOne K (.ref x_Bare) (.ref x_Bare) = some true)
    (i_Shut_Bare : PySem.W.kitOne K (.ref x_Shut) (.ref x_Bare) = some false)
    (i_NoRow_Bare : PySem.W.kitOne K (.ref x_NoRow) (.ref x_Bare) = some false)
    (i_NoProgram_Bare : PySem.W.kitOne K (.ref x_NoProgram) (.ref x_Bare) = some false)
    (i_NoText_Bare : PySem.W.kitOne K (.ref x_NoText) (.ref x_Bare) = some false)
    (i_NoContract_Bare : PySem.W.kitOne K (.ref x_NoContract) (.ref x_Bare) = some false)
    (i_NoInput_Bare : PySem.W.kitOne K (.ref x_NoInput) (.ref x_Bare) = some false)
    (i_TooMany_Bare : PySem.W.kitOne K (.ref x_TooMany) (.ref x_Bare) = some false)
    (i_NotLet_Bare : PySem.W.kitOne K (.ref x_NotLet) (.ref x_Bare) = some false)
    (i_NoCall_Bare : PySem.W.kitOne K (.ref x_NoCall) (.ref x_Bare) = some false)
    (i_NoName_Bare : PySem.W.kitOne K (.ref x_NoName) (.ref x_Bare) = some false)
    (i_NoShelf_Bare : PySem.W.kitOne K (.ref x_NoShelf) (.ref x_Bare) = some false)
    (i_NoWord_GateError : PySem.W.kitOne K (.ref x_NoWord) (.ref x_GateError) = some true)
    (i_NoBit_GateError : PySem.W.kitOne K (.ref x_NoBit) (.ref x_GateError) = some true)
    (i_NoTable_GateError : PySem.W.kitOne K (.ref x_NoTable) (.ref x_GateError) = some true)
    (i_Bare_GateError : PySem.W.kitOne K (.ref x_Bare) (.ref x_GateError) = some true)
    (i_Shut_GateError : PySem.W.kitOne K (.ref x_Shut) (.ref x_GateError) = some true)
    (i_NoRow_GateError : PySem.W.kitOne K (.ref x_NoRow) (.ref x_GateError) = some true)
    (i_NoProgram_GateError : PySem.W.kitOne K (.ref x_NoProgram) (.ref x_GateError) = some true)
    (i_NoText_GateError : PySem.W.kitOne K (.ref x_NoText) (.ref x_GateError) = some true)
    (i_NoContract_GateError : PySem.W.kitOne K (.ref x_NoContract) (.ref x_GateError) = some true)
    (i_NoInput_GateError : PySem.W.kitOne K (.ref x_NoInput) (.ref x_GateError) = some true)
    (i_TooMany_GateError : PySem.W.kitOne K (.ref x_TooMany) (.ref x_GateError) = some true)
    (i_NotLet_GateError : PySem.W.kitOne K (.ref x_NotLet) (.ref x_GateError) = some true)
    (i_NoCall_GateError : PySem.W.kitOne K (.ref x_NoCall) (.ref x_GateError) = some false)
    (i_NoName_GateError : PySem.W.kitOne K (.ref x_NoName) (.ref x_GateError) = some false)
    (i_NoShelf_GateError : PySem.W.kitOne K (.ref x_NoShelf) (.ref x_GateError) = some false)
    (i_NoWord_IndexError : PySem.W.kitOne K (.ref x_NoWord) (.type "IndexError") = some false)
    (i_NoBit_IndexError : PySem.W.kitOne K (.ref x_NoBit) (.type "IndexError") = some false)
    (i_NoTable_IndexError : PySem.W.kitOne K (.ref x_NoTable) (.type "IndexError") = some false)
    (i_Bare_IndexError : PySem.W.kitOne K (.ref x_Bare) (.type "IndexError") = some false)
    (i_Shut_IndexError : PySem.W.kitOne K (.ref x_Shut) (.type "IndexError") = some false)
    (i_NoRow_IndexError : PySem.W.kitOne K (.ref x_NoRow) (.type "IndexError") = some false)
    (i_NoProgram_IndexError : PySem.W.kitOne K (.ref x_NoProgram) (.type "IndexError") = some false)
    (i_NoText_IndexError : PySem.W.kitOne K (.ref x_NoText) (.type "IndexError") = some false)
    (i_NoContract_IndexError : PySem.W.kitOne K (.ref x_NoContract) (.type "IndexError") = some false)
    (i_NoInput_IndexError : PySem.W.kitOne K (.ref x_NoInput) (.type "IndexError") = some false)
    (i_TooMany_IndexError : PySem.W.kitOne K (.ref x_TooMany) (.type "IndexError") = some false)
    (i_NotLet_IndexError : PySem.W.kitOne K (.ref x_NotLet) (.type "IndexError") = some false)
    (i_NoCall_IndexError : PySem.W.kitOne K (.ref x_NoCall) (.type "IndexError") = some false)
    (i_NoName_IndexError : PySem.W.kitOne K (.ref x_NoName) (.type "IndexError") = some false)
    (i_NoShelf_IndexError : PySem.W.kitOne K (.ref x_NoShelf) (.type "IndexError") = some false)
    (i_NoWord_KeyError : PySem.W.kitOne K (.ref x_NoWord) (.type "KeyError") = some false)
    (i_NoBit_KeyError : PySem.W.kitOne K (.ref x_NoBit) (.type "KeyError") = some false)
    (i_NoTable_KeyError : PySem.W.kitOne K (.ref x_NoTable) (.type "KeyError") = some false)
    (i_Bare_KeyError : PySem.W.kitOne K (.ref x_Bare) (.type "KeyError") = some false)
    (i_Shut_KeyError : PySem.W.kitOne K (.ref x_Shut) (.type "KeyError") = some false)
    (i_NoRow_KeyError : PySem.W.kitOne K (.ref x_NoRow) (.type "KeyError") = some false)
    (i_NoProgram_KeyError : PySem.W.kitOne K (.ref x_NoProgram) (.type "KeyError") = some false)
    (i_NoText_KeyError : PySem.W.kitOne K (.ref x_NoText) (.type "KeyError") = some false)
    (i_NoContract_KeyError : PySem.W.kitOne K (.ref x_NoContract) (.type "KeyError") = some false)
    (i_NoInput_KeyError : PySem.W.kitOne K (.ref x_NoInput) (.type "KeyError") = some false)
    (i_TooMany_KeyError : PySem.W.kitOne K (.ref x_TooMany) (.type "KeyError") = some false)
    (i_NotLet_KeyError : PySem.W.kitOne K (.ref x_NotLet) (.type "KeyError") = some false)
    (i_NoCall_KeyError : PySem.W.kitOne K (.ref x_NoCall) (.type "KeyError") = some true)
    (i_NoName_KeyError : PySem.W.kitOne K (.ref x_NoName) (.type "KeyError") = some true)
    (i_NoShelf_KeyError : PySem.W.kitOne K (.ref x_NoShelf) (.type "KeyError") = some false)
    (i_NoWord_LookupError : PySem.W.kitOne K (.ref x_NoWord) (.type "LookupError") = some false)
    (i_NoBit_LookupError : PySem.W.kitOne K (.ref x_NoBit) (.type "LookupError") = some false)
    (i_NoTable_LookupError : PySem.W.kitOne K (.ref x_NoTable) (.type "LookupError") = some false)
    (i_Bare_LookupError : PySem.W.kitOne K (.ref x_Bare) (.type "LookupError") = some false)
    (i_Shut_LookupError : PySem.W.kitOne K (.ref x_Shut) (.type "LookupError") = some false)
    (i_NoRow_LookupError : PySem.W.kitOne K (.ref x_NoRow) (.type "LookupError") = some false)
    (i_NoProgram_LookupError : PySem.W.kitOne K (.ref x_NoProgram) (.type "LookupError") = some false)
    (i_NoText_LookupError : PySem.W.kitOne K (.ref x_NoText) (.type "LookupError") = some false)
    (i_NoContract_LookupError : PySem.W.kitOne K (.ref x_NoContract) (.type "LookupError") = some false)
    (i_NoInput_LookupError : PySem.W.kitOne K (.ref x_NoInput) (.type "LookupError") = some false)
    (i_TooMany_LookupError : PySem.W.kitOne K (.ref x_TooMany) (.type "LookupError") = some false)
    (i_NotLet_LookupError : PySem.W.kitOne K (.ref x_NotLet) (.type "LookupError") = some false)
    (i_NoCall_LookupError : PySem.W.kitOne K (.ref x_NoCall) (.type "LookupError") = some true)
    (i_NoName_LookupError : PySem.W.kitOne K (.ref x_NoName) (.type "LookupError") = some true)
    (i_NoShelf_LookupError : PySem.W.kitOne K (.ref x_NoShelf) (.type "LookupError") = some true)
    (i_NoWord_NoBit : PySem.W.kitOne K (.ref x_NoWord) (.ref x_NoBit) = some false)
    (i_NoBit_NoBit : PySem.W.kitOne K (.ref x_NoBit) (.ref x_NoBit) = some true)
    (i_NoTable_NoBit : PySem.W.kitOne K (.ref x_NoTable) (.ref x_NoBit) = some false)
    (i_Bare_NoBit : PySem.W.kitOne K (.ref x_Bare) (.ref x_NoBit) = some false)
    (i_Shut_NoBit : PySem.W.kitOne K (.ref x_Shut) (.ref x_NoBit) = some false)
    (i_NoRow_NoBit : PySem.W.kitOne K (.ref x_NoRow) (.ref x_NoBit) = some false)
    (i_NoProgram_NoBit : PySem.W.kitOne K (.ref x_NoProgram) (.ref x_NoBit) = some false)
    (i_NoText_NoBit : PySem.W.kitOne K (.ref x_NoText) (.ref x_NoBit) = some false)
    (i_NoContract_NoBit : PySem.W.kitOne K (.ref x_NoContract) (.ref x_NoBit) = some false)
    (i_NoInput_NoBit : PySem.W.kitOne K (.ref x_NoInput) (.ref x_NoBit) = some false)
    (i_TooMany_NoBit : PySem.W.kitOne K (.ref x_TooMany) (.ref x_NoBit) = some false)
    (i_NotLet_NoBit : PySem.W.kitOne K (.ref x_NotLet) (.ref x_NoBit) = some false)
    (i_NoCall_NoBit : PySem.W.kitOne K (.ref x_NoCall) (.ref x_NoBit) = some false)
    (i_NoName_NoBit : PySem.W.kitOne K (.ref x_NoName) (.ref x_NoBit) = some false)
    (i_NoShelf_NoBit : PySem.W.kitOne K (.ref x_NoShelf) (.ref x_NoBit) = some false)
    (i_NoWord_NoCall : PySem.W.kitOne K (.ref x_NoWord) (.ref x_NoCall) = some false)
    (i_NoBit_NoCall : PySem.W.kitOne K (.ref x_NoBit) (.ref x_NoCall) = some false)
    (i_NoTable_NoCall : PySem.W.kitOne K (.ref x_NoTable) (.ref x_NoCall) = some false)
    (i_Bare_NoCall : PySem.W.kitOne K (.ref x_Bare) (.ref x_NoCall) = some false)
    (i_Shut_NoCall : PySem.W.kitOne K (.ref x_Shut) (.ref x_NoCall) = some false)
    (i_NoRow_NoCall : PySem.W.kitOne K (.ref x_NoRow) (.ref x_NoCall) = some false)
    (i_NoProgram_NoCall : PySem.W.kitOne K (.ref x_NoProgram) (.ref x_NoCall) = some false)
    (i_NoText_NoCall : PySem.W.kitOne K (.ref x_NoText) (.ref x_NoCall) = some false)
    (i_NoContract_NoCall : PySem.W.kitOne K (.ref x_NoContract) (.ref x_NoCall) = some false)
    (i_NoInput_NoCall : PySem.W.kitOne K (.ref x_NoInput) (.ref x_NoCall) = some false)
    (i_TooMany_NoCall : PySem.W.kitOne K (.ref x_TooMany) (.ref x_NoCall) = some false)
    (i_NotLet_NoCall : PySem.W.kitOne K (.ref x_NotLet) (.ref x_NoCall) = some false)
    (i_NoCall_NoCall : PySem.W.kitOne K (.ref x_NoCall) (.ref x_NoCall) = some true)
    (i_NoName_NoCall : PySem.W.kitOne K (.ref x_NoName) (.ref x_NoCall) = some false)
    (i_NoShelf_NoCall : PySem.W.kitOne K (.ref x_NoShelf) (.ref x_NoCall) = some false)
    (i_NoWord_NoContract : PySem.W.kitOne K (.ref x_NoWord) (.ref x_NoContract) = some false)
    (i_NoBit_NoContract : PySem.W.kitOne K (.ref x_NoBit) (.ref x_NoContract) = some false)
    (i_NoTable_NoContract : PySem.W.kitOne K (.ref x_NoTable) (.ref x_NoContract) = some false)
    (i_Bare_NoContract : PySem.W.kitOne K (.ref x_Bare) (.ref x_NoContract) = some false)
    (i_Shut_NoContract : PySem.W.kitOne K (.ref x_Shut) (.ref x_NoContract) = some false)
    (i_NoRow_NoContract : PySem.W.kitOne K (.ref x_NoRow) (.ref x_NoContract) = some false)
    (i_NoProgram_NoContract : PySem.W.kitOne K (.ref x_NoProgram) (.ref x_NoContract) = some false)
    (i_NoText_NoContract : PySem.W.kitOne K (.ref x_NoText) (.ref x_NoContract) = some false)
    (i_NoContract_NoContract : PySem.W.kitOne K (.ref x_NoContract) (.ref x_NoContract) = some true)
    (i_NoInput_NoContract : PySem.W.kitOne K (.ref x_NoInput) (.ref x_NoContract) = some false)
    (i_TooMany_NoContract : PySem.W.kitOne K (.ref x_TooMany) (.ref x_NoContract) = some false)
    (i_NotLet_NoContract : PySem.W.kitOne K (.ref x_NotLet) (.ref x_NoContract) = some false)
    (i_NoCall_NoContract : PySem.W.kitOne K (.ref x_NoCall) (.ref x_NoContract) = some false)
    (i_NoName_NoContract : PySem.W.kitOne K (.ref x_NoName) (.ref x_NoContract) = some false)
    (i_NoShelf_NoContract : PySem.W.kitOne K (.ref x_NoShelf) (.ref x_NoContract) = some false)
    (i_NoWord_NoInput : PySem.W.kitOne K (.ref x_NoWord) (.ref x_NoInput) = some false)
    (i_NoBit_NoInput : PySem.W.kitOne K (.ref x_NoBit) (.ref x_NoInput) = some false)
    (i_NoTable_NoInput : PySem.W.kitOne K (.ref x_NoTable) (.ref x_NoInput) = some false)
    (i_Bare_NoInput : PySem.W.kitOne K (.ref x_Bare) (.ref x_NoInput) = some false)
    (i_Shut_NoInput : PySem.W.kitOne K (.ref x_Shut) (.ref x_NoInput) = some false)
    (i_NoRow_NoInput : PySem.W.kitOne K (.ref x_NoRow) (.ref x_NoInput) = some false)
    (i_NoProgram_NoInput : PySem.W.kitOne K (.ref x_NoProgram) (.ref x_NoInput) = some false)
    (i_NoText_NoInput : PySem.W.kitOne K (.ref x_NoText) (.ref x_NoInput) = some false)
    (i_NoContract_NoInput : PySem.W.kitOne K (.ref x_NoContract) (.ref x_NoInput) = some false)
    (i_NoInput_NoInput : PySem.W.kitOne K (.ref x_NoInput) (.ref x_NoInput) = some true)
    (i_TooMany_NoInput : PySem.W.kitOne K (.ref x_TooMany) (.ref x_NoInput) = some false)
    (i_NotLet_NoInput : PySem.W.kitOne K (.ref x_NotLet) (.ref x_NoInput) = some false)
    (i_NoCall_NoInput : PySem.W.kitOne K (.ref x_NoCall) (.ref x_NoInput) = some false)
    (i_NoName_NoInput : PySem.W.kitOne K (.ref x_NoName) (.ref x_NoInput) = some false)
    (i_NoShelf_NoInput : PySem.W.kitOne K (.ref x_NoShelf) (.ref x_NoInput) = some false)
    (i_NoWord_NoName : PySem.W.kitOne K (.ref x_NoWord) (.ref x_NoName) = some false)
    (i_NoBit_NoName : PySem.W.kitOne K (.ref x_NoBit) (.ref x_NoName) = some false)
    (i_NoTable_NoName : PySem.W.kitOne K (.ref x_NoTable) (.ref x_NoName) = some false)
    (i_Bare_NoName : PySem.W.kitOne K (.ref x_Bare) (.ref x_NoName) = some false)
    (i_Shut_NoName : PySem.W.kitOne K (.ref x_Shut) (.ref x_NoName) = some false)
    (i_NoRow_NoName : PySem.W.kitOne K (.ref x_NoRow) (.ref x_NoName) = some false)
    (i_NoProgram_NoName : PySem.W.kitOne K (.ref x_NoProgram) (.ref x_NoName) = some false)
    (i_NoText_NoName : PySem.W.kitOne K (.ref x_NoText) (.ref x_NoName) = some false)
    (i_NoContract_NoName : PySem.W.kitOne K (.ref x_NoContract) (.ref x_NoName) = some false)
    (i_NoInput_NoName : PySem.W.kitOne K (.ref x_NoInput) (.ref x_NoName) = some false)
    (i_TooMany_NoName : PySem.W.kitOne K (.ref x_TooMany) (.ref x_NoName) = some false)
    (i_NotLet_NoName : PySem.W.kitOne K (.ref x_NotLet) (.ref x_NoName) = some false)
    (i_NoCall_NoName : PySem.W.kitOne K (.ref x_NoCall) (.ref x_NoName) = some false)
    (i_NoName_NoName : PySem.W.kitOne K (.ref x_NoName) (.ref x_NoName) = some true)
    (i_NoShelf_NoName : PySem.W.kitOne K (.ref x_NoShelf) (.ref x_NoName) = some false)
    (i_NoWord_NoProgram : PySem.W.kitOne K (.ref x_NoWord) (.ref x_NoProgram) = some false)
    (i_NoBit_NoProgram : PySem.W.kitOne K (.ref x_NoBit) (.ref x_NoProgram) = some false)
    (i_NoTable_NoProgram : PySem.W.kitOne K (.ref x_NoTable) (.ref x_NoProgram) = some false)
    (i_Bare_NoProgram : PySem.W.kitOne K (.ref x_Bare) (.ref x_NoProgram) = some false)
    (i_Shut_NoProgram : PySem.W.kitOne K (.ref x_Shut) (.ref x_NoProgram) = some false)
    (i_NoRow_NoProgram : PySem.W.kitOne K (.ref x_NoRow) (.ref x_NoProgram) = some false)
    (i_NoProgram_NoProgram : PySem.W.kitOne K (.ref x_NoProgram) (.ref x_NoProgram) = some true)
    (i_NoText_NoProgram : PySem.W.kitOne K (.ref x_NoText) (.ref x_NoProgram) = some false)
    (i_NoContract_NoProgram : PySem.W.kitOne K (.ref x_NoContract) (.ref x_NoProgram) = some false)
    (i_NoInput_NoProgram : PySem.W.kitOne K (.ref x_NoInput) (.ref x_NoProgram) = some false)
    (i_TooMany_NoProgram : PySem.W.kitOne K (.ref x_TooMany) (.ref x_NoProgram) = some false)
    (i_NotLet_NoProgram : PySem.W.kitOne K (.ref x_NotLet) (.ref x_NoProgram) = some false)
    (i_NoCall_NoProgram : PySem.W.kitOne K (.ref x_NoCall) (.ref x_NoProgram) = some false)
    (i_NoName_NoProgram : PySem.W.kitOne K (.ref x_NoName) (.ref x_NoProgram) = some false)
    (i_NoShelf_NoProgram : PySem.W.kitOne K (.ref x_NoShelf) (.ref x_NoProgram) = some false)
    (i_NoWord_NoRow : PySem.W.kitOne K (.ref x_NoWord) (.ref x_NoRow) = some false)
    (i_NoBit_NoRow : PySem.W.kitOne K (.ref x_NoBit) (.ref x_NoRow) = some false)
    (i_NoTable_NoRow : PySem.W.kitOne K (.ref x_NoTable) (.ref x_NoRow) = some false)
    (i_Bare_NoRow : PySem.W.kitOne K (.ref x_Bare) (.ref x_NoRow) = some false)
    (i_Shut_NoRow : PySem.W.kitOne K (.ref x_Shut) (.ref x_NoRow) = some false)
    (i_NoRow_NoRow : PySem.W.kitOne K (.ref x_NoRow) (.ref x_NoRow) = some true)
    (i_NoProgram_NoRow : PySem.W.kitOne K (.ref x_NoProgram) (.ref x_NoRow) = some false)
    (i_NoText_NoRow : PySem.W.kitOne K (.ref x_NoText) (.ref x_NoRow) = some false)
    (i_NoContract_NoRow : PySem.W.kitOne K (.ref x_NoContract) (.ref x_NoRow) = some false)
    (i_NoInput_NoRow : PySem.W.kitOne K (.ref x_NoInput) (.ref x_NoRow) = some false)
    (i_TooMany_NoRow : PySem.W.kitOne K (.ref x_TooMany) (.ref x_NoRow) = some false)
    (i_NotLet_NoRow : PySem.W.kitOne K (.ref x_NotLet) (.ref x_NoRow) = some false)
    (i_NoCall_NoRow : PySem.W.kitOne K (.ref x_NoCall) (.ref x_NoRow) = some false)
    (i_NoName_NoRow : PySem.W.kitOne K (.ref x_NoName) (.ref x_NoRow) = some false)
    (i_NoShelf_NoRow : PySem.W.kitOne K (.ref x_NoShelf) (.ref x_NoRow) = some false)
    (i_NoWord_NoShelf : PySem.W.kitOne K (.ref x_NoWord) (.ref x_NoShelf) = some false)
    (i_NoBit_NoShelf : PySem.W.kitOne K (.ref x_NoBit) (.ref x_NoShelf) = some false)
    (i_NoTable_NoShelf : PySem.W.kitOne K (.ref x_NoTable) (.ref x_NoShelf) = some false)
    (i_Bare_NoShelf : PySem.W.kitOne K (.ref x_Bare) (.ref x_NoShelf) = some false)
    (i_Shut_NoShelf : PySem.W.kitOne K (.ref x_Shut) (.ref x_NoShelf) = some false)
    (i_NoRow_NoShelf : PySem.W.kitOne K (.ref x_NoRow) (.ref x_NoShelf) = some false)
    (i_NoProgram_NoShelf : PySem.W.kitOne K (.ref x_NoProgram) (.ref x_NoShelf) = some false)
    (i_NoText_NoShelf : PySem.W.kitOne K (.ref x_NoText) (.ref x_NoShelf) = some false)
    (i_NoContract_NoShelf : PySem.W.kitOne K (.ref x_NoContract) (.ref x_NoShelf) = some false)
    (i_NoInput_NoShelf : PySem.W.kitOne K (.ref x_NoInput) (.ref x_NoShelf) = some false)
    (i_TooMany_NoShelf : PySem.W.kitOne K (.ref x_TooMany) (.ref x_NoShelf) = some false)
    (i_NotLet_NoShelf : PySem.W.kitOne K (.ref x_NotLet) (.ref x_NoShelf) = some false)
    (i_NoCall_NoShelf : PySem.W.kitOne K (.ref x_NoCall) (.ref x_NoShelf) = some false)
    (i_NoName_NoShelf : PySem.W.kitOne K (.ref x_NoName) (.ref x_NoShelf) = some false)
    (i_NoShelf_NoShelf : PySem.W.kitOne K (.ref x_NoShelf) (.ref x_NoShelf) = some true)
    (i_NoWord_NoTable : PySem.W.kitOne K (.ref x_NoWord) (.ref x_NoTable) = some false)
    (i_NoBit_NoTable : PySem.W.kitOne K (.ref x_NoBit) (.ref x_NoTable) = some false)
    (i_NoTable_NoTable : PySem.W.kitOne K (.ref x_NoTable) (.ref x_NoTable) = some true)
    (i_Bare_NoTable : PySem.W.kitOne K (.ref x_Bare) (.ref x_NoTable) = some false)
    (i_Shut_NoTable : PySem.W.kitOne K (.ref x_Shut) (.ref x_NoTable) = some false)
    (i_NoRow_NoTable : PySem.W.kitOne K (.ref x_NoRow) (.ref x_NoTable) = some false)
    (i_NoProgram_NoTable : PySem.W.kitOne K (.ref x_NoProgram) (.ref x_NoTable) = some false)
    (i_NoText_NoTable : PySem.W.kitOne K (.ref x_NoText) (.ref x_NoTable) = some false)
    (i_NoContract_NoTable : PySem.W.kitOne K (.ref x_NoContract) (.ref x_NoTable) = some false)
    (i_NoInput_NoTable : PySem.W.kitOne K (.ref x_NoInput) (.ref x_NoTable) = some false)
    (i_TooMany_NoTable : PySem.W.kitOne K (.ref x_TooMany) (.ref x_NoTable) = some false)
    (i_NotLet_NoTable : PySem.W.kitOne K (.ref x_NotLet) (.ref x_NoTable) = some false)
    (i_NoCall_NoTable : PySem.W.kitOne K (.ref x_NoCall) (.ref x_NoTable) = some false)
    (i_NoName_NoTable : PySem.W.kitOne K (.ref x_NoName) (.ref x_NoTable) = some false)
    (i_NoShelf_NoTable : PySem.W.kitOne K (.ref x_NoShelf) (.ref x_NoTable) = some false)
    (i_NoWord_NoText : PySem.W.kitOne K (.ref x_NoWord) (.ref x_NoText) = some false)
    (i_NoBit_NoText : PySem.W.kitOne K (.ref x_NoBit) (.ref x_NoText) = some false)
    (i_NoTable_NoText : PySem.W.kitOne K (.ref x_NoTable) (.ref x_NoText) = some false)
    (i_Bare_NoText : PySem.W.kitOne K (.ref x_Bare) (.ref x_NoText) = some false)
    (i_Shut_NoText : PySem.W.kitOne K (.ref x_Shut) (.ref x_NoText) = some false)
    (i_NoRow_NoText : PySem.W.kitOne K (.ref x_NoRow) (.ref x_NoText) = some false)
    (i_NoProgram_NoText : PySem.W.kitOne K (.ref x_NoProgram) (.ref x_NoText) = some false)
    (i_NoText_NoText : PySem.W.kitOne K (.ref x_NoText) (.ref x_NoText) = some true)
    (i_NoContract_NoText : PySem.W.kitOne K (.ref x_NoContract) (.ref x_NoText) = some false)
    (i_NoInput_NoText : PySem.W.kitOne K (.ref x_NoInput) (.ref x_NoText) = some false)
    (i_TooMany_NoText : PySem.W.kitOne K (.ref x_TooMany) (.ref x_NoText) = some false)
    (i_NotLet_NoText : PySem.W.kitOne K (.ref x_NotLet) (.ref x_NoText) = some false)
    (i_NoCall_NoText : PySem.W.kitOne K (.ref x_NoCall) (.ref x_NoText) = some false)
    (i_NoName_NoText : PySem.W.kitOne K (.ref x_NoName) (.ref x_NoText) = some false)
    (i_NoShelf_NoText : PySem.W.kitOne K (.ref x_NoShelf) (.ref x_NoText) = some false)
    (i_NoWord_NoWord : PySem.W.kitOne K (.ref x_NoWord) (.ref x_NoWord) = some true)
    (i_NoBit_NoWord : PySem.W.kitOne K (.ref x_NoBit) (.ref x_NoWord) = some false)
    (i_NoTable_NoWord : PySem.W.kitOne K (.ref x_NoTable) (.ref x_NoWord) = some false)
    (i_Bare_NoWord : PySem.W.kitOne K (.ref x_Bare) (.ref x_NoWord) = some false)
    (i_Shut_NoWord : PySem.W.kitOne K (.ref x_Shut) (.ref x_NoWord) = some false)
    (i_NoRow_NoWord : PySem.W.kitOne K (.ref x_NoRow) (.ref x_NoWord) = some false)
    (i_NoProgram_NoWord : PySem.W.kitOne K (.ref x_NoProgram) (.ref x_NoWord) = some false)
    (i_NoText_NoWord : PySem.W.kitOne K (.ref x_NoText) (.ref x_NoWord) = some false)
    (i_NoContract_NoWord : PySem.W.kitOne K (.ref x_NoContract) (.ref x_NoWord) = some false)
    (i_NoInput_NoWord : PySem.W.kitOne K (.ref x_NoInput) (.ref x_NoWord) = some false)
    (i_TooMany_NoWord : PySem.W.kitOne K (.ref x_TooMany) (.ref x_NoWord) = some false)
    (i_NotLet_NoWord : PySem.W.kitOne K (.ref x_NotLet) (.ref x_NoWord) = some false)
    (i_NoCall_NoWord : PySem.W.kitOne K (.ref x_NoCall) (.ref x_NoWord) = some false)
    (i_NoName_NoWord : PySem.W.kitOne K (.ref x_NoName) (.ref x_NoWord) = some false)
    (i_NoShelf_NoWord : PySem.W.kitOne K (.ref x_NoShelf) (.ref x_NoWord) = some false)
    (i_NoWord_NotLet : PySem.W.kitOne K (.ref x_NoWord) (.ref x_NotLet) = some false)
    (i_NoBit_NotLet : PySem.W.kitOne K (.ref x_NoBit) (.ref x_NotLet) = some false)
    (i_NoTable_NotLet : PySem.W.kitOne K (.ref x_NoTable) (.ref x_NotLet) = some false)
    (i_Bare_NotLet : PySem.W.kitOne K (.ref x_Bare) (.ref x_NotLet) = some false)
    (i_Shut_NotLet : PySem.W.kitOne K (.ref x_Shut) (.ref x_NotLet) = some false)
    (i_NoRow_NotLet : PySem.W.kitOne K (.ref x_NoRow) (.ref x_NotLet) = some false)
    (i_NoProgram_NotLet : PySem.W.kitOne K (.ref x_NoProgram) (.ref x_NotLet) = some false)
    (i_NoText_NotLet : PySem.W.kitOne K (.ref x_NoText) (.ref x_NotLet) = some false)
    (i_NoContract_NotLet : PySem.W.kitOne K (.ref x_NoContract) (.ref x_NotLet) = some false)
    (i_NoInput_NotLet : PySem.W.kitOne K (.ref x_NoInput) (.ref x_NotLet) = some false)
    (i_TooMany_NotLet : PySem.W.kitOne K (.ref x_TooMany) (.ref x_NotLet) = some false)
    (i_NotLet_NotLet : PySem.W.kitOne K (.ref x_NotLet) (.ref x_NotLet) = some true)
    (i_NoCall_NotLet : PySem.W.kitOne K (.ref x_NoCall) (.ref x_NotLet) = some false)
    (i_NoName_NotLet : PySem.W.kitOne K (.ref x_NoName) (.ref x_NotLet) = some false)
    (i_NoShelf_NotLet : PySem.W.kitOne K (.ref x_NoShelf) (.ref x_NotLet) = some false)
    (i_NoWord_OverflowError : PySem.W.kitOne K (.ref x_NoWord) (.type "OverflowError") = some false)
    (i_NoBit_OverflowError : PySem.W.kitOne K (.ref x_NoBit) (.type "OverflowError") = some false)
    (i_NoTable_OverflowError : PySem.W.kitOne K (.ref x_NoTable) (.type "OverflowError") = some false)
    (i_Bare_OverflowError : PySem.W.kitOne K (.ref x_Bare) (.type "OverflowError") = some false)
    (i_Shut_OverflowError : PySem.W.kitOne K (.ref x_Shut) (.type "OverflowError") = some false)
    (i_NoRow_OverflowError : PySem.W.kitOne K (.ref x_NoRow) (.type "OverflowError") = some false)
    (i_NoProgram_OverflowError : PySem.W.kitOne K (.ref x_NoProgram) (.type "OverflowError") = some false)
    (i_NoText_OverflowError : PySem.W.kitOne K (.ref x_NoText) (.type "OverflowError") = some false)
    (i_NoContract_OverflowError : PySem.W.kitOne K (.ref x_NoContract) (.type "OverflowError") = some false)
    (i_NoInput_OverflowError : PySem.W.kitOne K (.ref x_NoInput) (.type "OverflowError") = some false)
    (i_TooMany_OverflowError : PySem.W.kitOne K (.ref x_TooMany) (.type "OverflowError") = some false)
    (i_NotLet_OverflowError : PySem.W.kitOne K (.ref x_NotLet) (.type "OverflowError") = some false)
    (i_NoCall_OverflowError : PySem.W.kitOne K (.ref x_NoCall) (.type "OverflowError") = some false)
    (i_NoName_OverflowError : PySem.W.kitOne K (.ref x_NoName) (.type "OverflowError") = some false)
    (i_NoShelf_OverflowError : PySem.W.kitOne K (.ref x_NoShelf) (.type "OverflowError") = some false)
    (i_NoWord_RuntimeError : PySem.W.kitOne K (.ref x_NoWord) (.type "RuntimeError") = some false)
    (i_NoBit_RuntimeError : PySem.W.kitOne K (.ref x_NoBit) (.type "RuntimeError") = some false)
    (i_NoTable_RuntimeError : PySem.W.kitOne K (.ref x_NoTable) (.type "RuntimeError") = some false)
    (i_Bare_RuntimeError : PySem.W.kitOne K (.ref x_Bare) (.type "RuntimeError") = some false)
    (i_Shut_RuntimeError : PySem.W.kitOne K (.ref x_Shut) (.type "RuntimeError") = some false)
    (i_NoRow_RuntimeError : PySem.W.kitOne K (.ref x_NoRow) (.type "RuntimeError") = some false)
    (i_NoProgram_RuntimeError : PySem.W.kitOne K (.ref x_NoProgram) (.type "RuntimeError") = some false)
    (i_NoText_RuntimeError : PySem.W.kitOne K (.ref x_NoText) (.type "RuntimeError") = some false)
    (i_NoContract_RuntimeError : PySem.W.kitOne K (.ref x_NoContract) (.type "RuntimeError") = some false)
    (i_NoInput_RuntimeError : PySem.W.kitOne K (.ref x_NoInput) (.type "RuntimeError") = some false)
    (i_TooMany_RuntimeError : PySem.W.kitOne K (.ref x_TooMany) (.type "RuntimeError") = some false)
    (i_NotLet_RuntimeError : PySem.W.kitOne K (.ref x_NotLet) (.type "RuntimeError") = some false)
    (i_NoCall_RuntimeError : PySem.W.kitOne K (.ref x_NoCall) (.type "RuntimeError") = some false)
    (i_NoName_RuntimeError : PySem.W.kitOne K (.ref x_NoName) (.type "RuntimeError") = some false)
    (i_NoShelf_RuntimeError : PySem.W.kitOne K (.ref x_NoShelf) (.type "RuntimeError") = some false)
    (i_NoWord_Shut : PySem.W.kitOne K (.ref x_NoWord) (.ref x_Shut) = some false)
    (i_NoBit_Shut : PySem.W.kitOne K (.ref x_NoBit) (.ref x_Shut) = some false)
    (i_NoTable_Shut : PySem.W.kitOne K (.ref x_NoTable) (.ref x_Shut) = some false)
    (i_Bare_Shut : PySem.W.kitOne K (.ref x_Bare) (.ref x_Shut) = some false)
    (i_Shut_Shut : PySem.W.kitOne K (.ref x_Shut) (.ref x_Shut) = some true)
    (i_NoRow_Shut : PySem.W.kitOne K (.ref x_NoRow) (.ref x_Shut) = some false)
    (i_NoProgram_Shut : PySem.W.kitOne K (.ref x_NoProgram) (.ref x_Shut) = some false)
    (i_NoText_Shut : PySem.W.kitOne K (.ref x_NoText) (.ref x_Shut) = some false)
    (i_NoContract_Shut : PySem.W.kitOne K (.ref x_NoContract) (.ref x_Shut) = some false)
    (i_NoInput_Shut : PySem.W.kitOne K (.ref x_NoInput) (.ref x_Shut) = some false)
    (i_TooMany_Shut : PySem.W.kitOne K (.ref x_TooMany) (.ref x_Shut) = some false)
    (i_NotLet_Shut : PySem.W.kitOne K (.ref x_NotLet) (.ref x_Shut) = some false)
    (i_NoCall_Shut : PySem.W.kitOne K (.ref x_NoCall) (.ref x_Shut) = some false)
    (i_NoName_Shut : PySem.W.kitOne K (.ref x_NoName) (.ref x_Shut) = some false)
    (i_NoShelf_Shut : PySem.W.kitOne K (.ref x_NoShelf) (.ref x_Shut) = some false)
    (i_NoWord_TooMany : PySem.W.kitOne K (.ref x_NoWord) (.ref x_TooMany) = some false)
    (i_NoBit_TooMany : PySem.W.kitOne K (.ref x_NoBit) (.ref x_TooMany) = some false)
    (i_NoTable_TooMany : PySem.W.kitOne K (.ref x_NoTable) (.ref x_TooMany) = some false)
    (i_Bare_TooMany : PySem.W.kitOne K (.ref x_Bare) (.ref x_TooMany) = some false)
    (i_Shut_TooMany : PySem.W.kitOne K (.ref x_Shut) (.ref x_TooMany) = some false)
    (i_NoRow_TooMany : PySem.W.kitOne K (.ref x_NoRow) (.ref x_TooMany) = some false)
    (i_NoProgram_TooMany : PySem.W.kitOne K (.ref x_NoProgram) (.ref x_TooMany) = some false)
    (i_NoText_TooMany : PySem.W.kitOne K (.ref x_NoText) (.ref x_TooMany) = some false)
    (i_NoContract_TooMany : PySem.W.kitOne K (.ref x_NoContract) (.ref x_TooMany) = some false)
    (i_NoInput_TooMany : PySem.W.kitOne K (.ref x_NoInput) (.ref x_TooMany) = some false)
    (i_TooMany_TooMany : PySem.W.kitOne K (.ref x_TooMany) (.ref x_TooMany) = some true)
    (i_NotLet_TooMany : PySem.W.kitOne K (.ref x_NotLet) (.ref x_TooMany) = some false)
    (i_NoCall_TooMany : PySem.W.kitOne K (.ref x_NoCall) (.ref x_TooMany) = some false)
    (i_NoName_TooMany : PySem.W.kitOne K (.ref x_NoName) (.ref x_TooMany) = some false)
    (i_NoShelf_TooMany : PySem.W.kitOne K (.ref x_NoShelf) (.ref x_TooMany) = some false)
    (i_NoWord_ValueError : PySem.W.kitOne K (.ref x_NoWord) (.type "ValueError") = some true)
    (i_NoBit_ValueError : PySem.W.kitOne K (.ref x_NoBit) (.type "ValueError") = some true)
    (i_NoTable_ValueError : PySem.W.kitOne K (.ref x_NoTable) (.type "ValueError") = some true)
    (i_Bare_ValueError : PySem.W.kitOne K (.ref x_Bare) (.type "ValueError") = some true)
    (i_Shut_ValueError : PySem.W.kitOne K (.ref x_Shut) (.type "ValueError") = some true)
    (i_NoRow_ValueError : PySem.W.kitOne K (.ref x_NoRow) (.type "ValueError") = some true)
    (i_NoProgram_ValueError : PySem.W.kitOne K (.ref x_NoProgram) (.type "ValueError") = some true)
    (i_NoText_ValueError : PySem.W.kitOne K (.ref x_NoText) (.type "ValueError") = some true)
    (i_NoContract_ValueError : PySem.W.kitOne K (.ref x_NoContract) (.type "ValueError") = some true)
    (i_NoInput_ValueError : PySem.W.kitOne K (.ref x_NoInput) (.type "ValueError") = some true)
    (i_TooMany_ValueError : PySem.W.kitOne K (.ref x_TooMany) (.type "ValueError") = some true)
    (i_NotLet_ValueError : PySem.W.kitOne K (.ref x_NotLet) (.type "ValueError") = some true)
    (i_NoCall_ValueError : PySem.W.kitOne K (.ref x_NoCall) (.type "ValueError") = some false)
    (i_NoName_ValueError : PySem.W.kitOne K (.ref x_NoName) (.type "ValueError") = some false)
    (i_NoShelf_ValueError : PySem.W.kitOne K (.ref x_NoShelf) (.type "ValueError") = some false) :
    ∃ fd : FuncData, (∀ (s : Shared) (v : Value), BindsTo s fd ⟨[v], []⟩ [("_law_script", v)]) ∧ ∀ base : Heap, K.In base → base.Ns mainGlobals mg → FnG l.prog w K mg base CX0 4 fa fd ["_law_script"] (FnD K sem_p_law) := by
  have e := hfa.symm.trans (PySem.W.mg_of X G a_p_law)
  cases e
  have T : Txt K mg ⟨f_l_pool, _, f_l_take, _, f_l_kinds, _, f_l_bases, _, f_l_made, _, f_l_fields, _, fa, _, x_Bare, x_GateError, x_NoBit, x_NoCall, x_NoContract, x_NoInput, x_NoName, x_NoProgram, x_NoRow, x_NoShelf, x_NoTable, x_NoText, x_NoWord, x_NotLet, x_Shut, x_TooMany, j_NoProgram, _, j_NoText, _, j_NoContract, _, j_NoInput, _, j_TooMany, _, j_NotLet, _, j_NoCall, _, j_NoName, _, j_NoShelf, _⟩ :=
    ⟨⟨⟨oc_l_pool, od_l_pool, _, _, dc_l_pool, pm_l_pool, an_l_pool, cd_l_pool, ct_l_pool, sl_l_pool, rfl, l_l_pool, c_l_pool, .inl ⟨rfl, rfl⟩, .inl rfl⟩, k_l_pool⟩,
     PySem.W.mg_of X G a_l_pool,
     ⟨⟨oc_l_take, od_l_take, _, _, dc_l_take, pm_l_take, an_l_take, cd_l_take, ct_l_take, sl_l_take, rfl, l_l_take, c_l_take, .inl ⟨rfl, rfl⟩, .inl rfl⟩, k_l_take⟩,
     PySem.W.mg_of X G a_l_take,
     ⟨⟨oc_l_kinds, od_l_kinds, _, _, dc_l_kinds, pm_l_kinds, an_l_kinds, cd_l_kinds, ct_l_kinds, sl_l_kinds, rfl, l_l_kinds, c_l_kinds, .inl ⟨rfl, rfl⟩, .inl rfl⟩, k_l_kinds⟩,
     PySem.W.mg_of X G a_l_kinds,
     ⟨⟨oc_l_bases, od_l_bases, _, _, dc_l_bases, pm_l_bases, an_l_bases, cd_l_bases, ct_l_bases, sl_l_bases, rfl, l_l_bases, c_l_bases, .inl ⟨rfl, rfl⟩, .inl rfl⟩, k_l_bases⟩,
     PySem.W.mg_of X G a_l_bases,
     ⟨⟨oc_l_made, od_l_made, _, _, dc_l_made, pm_l_made, an_l_made, cd_l_made, ct_l_made, sl_l_made, rfl, l_l_made, c_l_made, .inl ⟨rfl, rfl⟩, .inl rfl⟩, k_l_made⟩,
     PySem.W.mg_of X G a_l_made,
     ⟨⟨oc_l_fields, od_l_fields, _, _, dc_l_fields, pm_l_fields, an_l_fields, cd_l_fields, ct_l_fields, sl_l_fields, rfl, l_l_fields, c_l_fields, .inl ⟨rfl, rfl⟩, .inl rfl⟩, k_l_fields⟩,
     PySem.W.mg_of X G a_l_fields,
     ⟨⟨oc_p_law, od_p_law, _, _, dc_p_law, pm_p_law, an_p_law, cd_p_law, ct_p_law, sl_p_law, rfl, l_p_law, c_p_law, .inl ⟨rfl, rfl⟩, .inl rfl⟩, k_p_law⟩,
     PySem.W.mg_of X G a_p_law,
     PySem.W.mg_none_of X G z_IndexError,
     PySem.W.mg_none_of X G z_KeyError,
     PySem.W.mg_none_of X G z_LookupError,
     PySem.W.mg_none_of X G z_OverflowError,
     PySem.W.mg_none_of X G z_RuntimeError,
     PySem.W.mg_none_of X G z_ValueError,
     PySem.W.mg_none_of X G z_abs,
     PySem.W.mg_none_of X G z_enumerate,
     PySem.W.mg_none_of X G z_int,
     PySem.W.mg_none_of X G z_isinstance,
     PySem.W.mg_none_of X G z_len,
     PySem.W.mg_none_of X G z_max,
     PySem.W.mg_none_of X G z_min,
     PySem.W.mg_none_of X G z_range,
     PySem.W.mg_none_of X G z_repr,
     PySem.W.mg_none_of X G z_sum,
     PySem.W.mg_of X G xg_Bare,
     xg_Bare,
     PySem.W.mg_of X G xg_GateError,
     xg_GateError,
     PySem.W.mg_of X G xg_NoBit,
     xg_NoBit,
     PySem.W.mg_of X G xg_NoCall,
     xg_NoCall,
     PySem.W.mg_of X G xg_NoContract,
     xg_NoContract,
     PySem.W.mg_of X G xg_NoInput,
     xg_NoInput,
     PySem.W.mg_of X G xg_NoName,
     xg_NoName,
     PySem.W.mg_of X G xg_NoProgram,
     xg_NoProgram,
     PySem.W.mg_of X G xg_NoRow,
     xg_NoRow,
     PySem.W.mg_of X G xg_NoShelf,
     xg_NoShelf,
     PySem.W.mg_of X G xg_NoTable,
     xg_NoTable,
     PySem.W.mg_of X G xg_NoText,
     xg_NoText,
     PySem.W.mg_of X G xg_NoWord,
     xg_NoWord,
     PySem.W.mg_of X G xg_NotLet,
     xg_NotLet,
     PySem.W.mg_of X G xg_Shut,
     xg_Shut,
     PySem.W.mg_of X G xg_TooMany,
     xg_TooMany,
     ⟨xe_NoWord, PySem.W.mg_of X G xg_NoWord, xk_NoWord, xb_NoWord, xt_NoWord⟩,
     ⟨xe_NoBit, PySem.W.mg_of X G xg_NoBit, xk_NoBit, xb_NoBit, xt_NoBit⟩,
     ⟨xe_NoTable, PySem.W.mg_of X G xg_NoTable, xk_NoTable, xb_NoTable, xt_NoTable⟩,
     ⟨xe_Bare, PySem.W.mg_of X G xg_Bare, xk_Bare, xb_Bare, xt_Bare⟩,
     ⟨xe_Shut, PySem.W.mg_of X G xg_Shut, xk_Shut, xb_Shut, xt_Shut⟩,
     ⟨xe_NoRow, PySem.W.mg_of X G xg_NoRow, xk_NoRow, xb_NoRow, xt_NoRow⟩,
     ⟨ya_NoWord, yb_NoWord, xb_NoWord, yd_NoWord, ye_NoWord, yf_NoWord, yg_NoWord, yh_NoWord⟩,
     ⟨ya_NoBit, yb_NoBit, xb_NoBit, yd_NoBit, ye_NoBit, yf_NoBit, yg_NoBit, yh_NoBit⟩,
     ⟨ya_NoTable, yb_NoTable, xb_NoTable, yd_NoTable, ye_NoTable, yf_NoTable, yg_NoTable, yh_NoTable⟩,
     ⟨ya_Bare, yb_Bare, xb_Bare, yd_Bare, ye_Bare, yf_Bare, yg_Bare, yh_Bare⟩,
     ⟨ya_Shut, yb_Shut, xb_Shut, yd_Shut, ye_Shut, yf_Shut, yg_Shut, yh_Shut⟩,
     ⟨ya_NoRow, yb_NoRow, xb_NoRow, yd_NoRow, ye_NoRow, yf_NoRow, yg_NoRow, yh_NoRow⟩,
     ⟨ya_NoProgram, yb_NoProgram, xb_NoProgram, yd_NoProgram, ye_NoProgram, yf_NoProgram, yg_NoProgram, yh_NoProgram⟩,
     ⟨ya_NoText, yb_NoText, xb_NoText, yd_NoText, ye_NoText, yf_NoText, yg_NoText, yh_NoText⟩,
     ⟨ya_NoContract, yb_NoContract, xb_NoContract, yd_NoContract, ye_NoContract, yf_NoContract, yg_NoContract, yh_NoContract⟩,
     ⟨ya_NoInput, yb_NoInput, xb_NoInput, yd_NoInput, ye_NoInput, yf_NoInput, yg_NoInput, yh_NoInput⟩,
     ⟨ya_TooMany, yb_TooMany, xb_TooMany, yd_TooMany, ye_TooMany, yf_TooMany, yg_TooMany, yh_TooMany⟩,
     ⟨ya_NotLet, yb_NotLet, xb_NotLet, yd_NotLet, ye_NotLet, yf_NotLet, yg_NotLet, yh_NotLet⟩,
     ⟨ya_NoCall, yb_NoCall, xb_NoCall, yd_NoCall, ye_NoCall, yf_NoCall, yg_NoCall, yh_NoCall⟩,
     ⟨ya_NoName, yb_NoName, xb_NoName, yd_NoName, ye_NoName, yf_NoName, yg_NoName, yh_NoName⟩,
     ⟨ya_NoShelf, yb_NoShelf, xb_NoShelf, yd_NoShelf, ye_NoShelf, yf_NoShelf, yg_NoShelf, yh_NoShelf⟩,
     ⟨⟨jc_NoProgram, jo_NoProgram, _, _, jd_NoProgram, jp_NoProgram, ja_NoProgram, jv_NoProgram, jt_NoProgram, js_NoProgram, rfl, jl_NoProgram, jq_NoProgram, .inl ⟨rfl, rfl⟩, .inl rfl⟩, jw_NoProgram⟩,
     ji_NoProgram,
     jy_NoProgram,
     ⟨⟨_, _, _, _, _, _, _, _, _, _, _, _, _, _, _, ol_NoProgram, or_NoProgram⟩, ox_NoProgram, xb_NoProgram, xt_NoProgram, xk_NoProgram⟩,
     nf_NoProgram_number,
     ⟨ya_NoProgram, yb_NoProgram, xb_NoProgram, yd_NoProgram⟩,
     ⟨⟨jc_NoText, jo_NoText, _, _, jd_NoText, jp_NoText, ja_NoText, jv_NoText, jt_NoText, js_NoText, rfl, jl_NoText, jq_NoText, .inl ⟨rfl, rfl⟩, .inl rfl⟩, jw_NoText⟩,
     ji_NoText,
     jy_NoText,
     ⟨⟨_, _, _, _, _, _, _, _, _, _, _, _, _, _, _, ol_NoText, or_NoText⟩, ox_NoText, xb_NoText, xt_NoText, xk_NoText⟩,
     nf_NoText_number,
     ⟨ya_NoText, yb_NoText, xb_NoText, yd_NoText⟩,
     ⟨⟨jc_NoContract, jo_NoContract, _, _, jd_NoContract, jp_NoContract, ja_NoContract, jv_NoContract, jt_NoContract, js_NoContract, rfl, jl_NoContract, jq_NoContract, .inl ⟨rfl, rfl⟩, .inl rfl⟩, jw_NoContract⟩,
     ji_NoContract,
     jy_NoContract,
     ⟨⟨_, _, _, _, _, _, _, _, _, _, _, _, _, _, _, ol_NoContract, or_NoContract⟩, ox_NoContract, xb_NoContract, xt_NoContract, xk_NoContract⟩,
     nf_NoContract_part,
     nf_NoContract_number,
     ⟨ya_NoContract, yb_NoContract, xb_NoContract, yd_NoContract⟩,
     ⟨⟨jc_NoInput, jo_NoInput, _, _, jd_NoInput, jp_NoInput, ja_NoInput, jv_NoInput, jt_NoInput, js_NoInput, rfl, jl_NoInput, jq_NoInput, .inl ⟨rfl, rfl⟩, .inl rfl⟩, jw_NoInput⟩,
     ji_NoInput,
     jy_NoInput,
     ⟨⟨_, _, _, _, _, _, _, _, _, _, _, _, _, _, _, ol_NoInput, or_NoInput⟩, ox_NoInput, xb_NoInput, xt_NoInput, xk_NoInput⟩,
     nf_NoInput_part,
     ⟨ya_NoInput, yb_NoInput, xb_NoInput, yd_NoInput⟩,
     ⟨⟨jc_TooMany, jo_TooMany, _, _, jd_TooMany, jp_TooMany, ja_TooMany, jv_TooMany, jt_TooMany, js_TooMany, rfl, jl_TooMany, jq_TooMany, .inl ⟨rfl, rfl⟩, .inl rfl⟩, jw_TooMany⟩,
     ji_TooMany,
     jy_TooMany,
     ⟨⟨_, _, _, _, _, _, _, _, _, _, _, _, _, _, _, ol_TooMany, or_TooMany⟩, ox_TooMany, xb_TooMany, xt_TooMany, xk_TooMany⟩,
     nf_TooMany_size,
     ⟨ya_TooMany, yb_TooMany, xb_TooMany, yd_TooMany⟩,
     ⟨⟨jc_NotLet, jo_NotLet, _, _, jd_NotLet, jp_NotLet, ja_NotLet, jv_NotLet, jt_NotLet, js_NotLet, rfl, jl_NotLet, jq_NotLet, .inl ⟨rfl, rfl⟩, .inl rfl⟩, jw_NotLet⟩,
     ji_NotLet,
     jy_NotLet,
     ⟨⟨_, _, _, _, _, _, _, _, _, _, _, _, _, _, _, ol_NotLet, or_NotLet⟩, ox_NotLet, xb_NotLet, xt_NotLet, xk_NotLet⟩,
     nf_NotLet_word,
     nf_NotLet_way,
     ⟨ya_NotLet, yb_NotLet, xb_NotLet, yd_NotLet⟩,
     ⟨⟨jc_NoCall, jo_NoCall, _, _, jd_NoCall, jp_NoCall, ja_NoCall, jv_NoCall, jt_NoCall, js_NoCall, rfl, jl_NoCall, jq_NoCall, .inl ⟨rfl, rfl⟩, .inl rfl⟩, jw_NoCall⟩,
     ji_NoCall,
     jy_NoCall,
     ⟨⟨_, _, _, _, _, _, _, _, _, _, _, _, _, _, ol_NoCall⟩, ox_NoCall, xb_NoCall, xt_NoCall, xk_NoCall⟩,
     nf_NoCall_name,
     ⟨ya_NoCall, yb_NoCall, xb_NoCall, yd_NoCall⟩,
     ⟨⟨jc_NoName, jo_NoName, _, _, jd_NoName, jp_NoName, ja_NoName, jv_NoName, jt_NoName, js_NoName, rfl, jl_NoName, jq_NoName, .inl ⟨rfl, rfl⟩, .inl rfl⟩, jw_NoName⟩,
     ji_NoName,
     jy_NoName,
     ⟨⟨_, _, _, _, _, _, _, _, _, _, _, _, _, _, ol_NoName⟩, ox_NoName, xb_NoName, xt_NoName, xk_NoName⟩,
     nf_NoName_name,
     ⟨ya_NoName, yb_NoName, xb_NoName, yd_NoName⟩,
     ⟨⟨jc_NoShelf, jo_NoShelf, _, _, jd_NoShelf, jp_NoShelf, ja_NoShelf, jv_NoShelf, jt_NoShelf, js_NoShelf, rfl, jl_NoShelf, jq_NoShelf, .inl ⟨rfl, rfl⟩, .inl rfl⟩, jw_NoShelf⟩,
     ji_NoShelf,
     jy_NoShelf,
     ⟨⟨_, _, _, _, _, _, _, _, _, _, _, _, _, _, ol_NoShelf⟩, ox_NoShelf, xb_NoShelf, xt_NoShelf, xk_NoShelf⟩,
     nf_NoShelf_name,
     ⟨ya_NoShelf, yb_NoShelf, xb_NoShelf, yd_NoShelf⟩,
     ⟨cr_GateError, cs_GateError, cf_GateError⟩,
     cKeyError,
     cLookupError,
     i_NoWord_Bare,
     i_NoBit_Bare,
     i_NoTable_Bare,
     i_Bare_Bare,
     i_Shut_Bare,
     i_NoRow_Bare,
     i_NoProgram_Bare,
     i_NoText_Bare,
     i_NoContract_Bare,
     i_NoInput_Bare,
     i_TooMany_Bare,
     i_NotLet_Bare,
     i_NoCall_Bare,
     i_NoName_Bare,
     i_NoShelf_Bare,
     i_NoWord_GateError,
     i_NoBit_GateError,
     i_NoTable_GateError,
     i_Bare_GateError,
     i_Shut_GateError,
     i_NoRow_GateError,
     i_NoProgram_GateError,
     i_NoText_GateError,
     i_NoContract_GateError,
     i_NoInput_GateError,
     i_TooMany_GateError,
     i_NotLet_GateError,
     i_NoCall_GateError,
     i_NoName_GateError,
     i_NoShelf_GateError,
     i_NoWord_IndexError,
     i_NoBit_IndexError,
     i_NoTable_IndexError,
     i_Bare_IndexError,
     i_Shut_IndexError,
     i_NoRow_IndexError,
     i_NoProgram_IndexError,
     i_NoText_IndexError,
     i_NoContract_IndexError,
     i_NoInput_IndexError,
     i_TooMany_IndexError,
     i_NotLet_IndexError,
     i_NoCall_IndexError,
     i_NoName_IndexError,
     i_NoShelf_IndexError,
     i_NoWord_KeyError,
     i_NoBit_KeyError,
     i_NoTable_KeyError,
     i_Bare_KeyError,
     i_Shut_KeyError,
     i_NoRow_KeyError,
     i_NoProgram_KeyError,
     i_NoText_KeyError,
     i_NoContract_KeyError,
     i_NoInput_KeyError,
     i_TooMany_KeyError,
     i_NotLet_KeyError,
     i_NoCall_KeyError,
     i_NoName_KeyError,
     i_NoShelf_KeyError,
     i_NoWord_LookupError,
     i_NoBit_LookupError,
     i_NoTable_LookupError,
     i_Bare_LookupError,
     i_Shut_LookupError,
     i_NoRow_LookupError,
     i_NoProgram_LookupError,
     i_NoText_LookupError,
     i_NoContract_LookupError,
     i_NoInput_LookupError,
     i_TooMany_LookupError,
     i_NotLet_LookupError,
     i_NoCall_LookupError,
     i_NoName_LookupError,
     i_NoShelf_LookupError,
     i_NoWord_NoBit,
     i_NoBit_NoBit,
     i_NoTable_NoBit,
     i_Bare_NoBit,
     i_Shut_NoBit,
     i_NoRow_NoBit,
     i_NoProgram_NoBit,
     i_NoText_NoBit,
     i_NoContract_NoBit,
     i_NoInput_NoBit,
     i_TooMany_NoBit,
     i_NotLet_NoBit,
     i_NoCall_NoBit,
     i_NoName_NoBit,
     i_NoShelf_NoBit,
     i_NoWord_NoCall,
     i_NoBit_NoCall,
     i_NoTable_NoCall,
     i_Bare_NoCall,
     i_Shut_NoCall,
     i_NoRow_NoCall,
     i_NoProgram_NoCall,
     i_NoText_NoCall,
     i_NoContract_NoCall,
     i_NoInput_NoCall,
     i_TooMany_NoCall,
     i_NotLet_NoCall,
     i_NoCall_NoCall,
     i_NoName_NoCall,
     i_NoShelf_NoCall,
     i_NoWord_NoContract,
     i_NoBit_NoContract,
     i_NoTable_NoContract,
     i_Bare_NoContract,
     i_Shut_NoContract,
     i_NoRow_NoContract,
     i_NoProgram_NoContract,
     i_NoText_NoContract,
     i_NoContract_NoContract,
     i_NoInput_NoContract,
     i_TooMany_NoContract,
     i_NotLet_NoContract,
     i_NoCall_NoContract,
     i_NoName_NoContract,
     i_NoShelf_NoContract,
     i_NoWord_NoInput,
     i_NoBit_NoInput,
     i_NoTable_NoInput,
     i_Bare_NoInput,
     i_Shut_NoInput,
     i_NoRow_NoInput,
     i_NoProgram_NoInput,
     i_NoText_NoInput,
     i_NoContract_NoInput,
     i_NoInput_NoInput,
     i_TooMany_NoInput,
     i_NotLet_NoInput,
     i_NoCall_NoInput,
     i_NoName_NoInput,
     i_NoShelf_NoInput,
     i_NoWord_NoName,
     i_NoBit_NoName,
     i_NoTable_NoName,
     i_Bare_NoName,
     i_Shut_NoName,
     i_NoRow_NoName,
     i_NoProgram_NoName,
     i_NoText_NoName,
     i_NoContract_NoName,
     i_NoInput_NoName,
     i_TooMany_NoName,
     i_NotLet_NoName,
     i_NoCall_NoName,
     i_NoName_NoName,
     i_NoShelf_NoName,
     i_NoWord_NoProgram,
     i_NoBit_NoProgram,
     i_NoTable_NoProgram,
     i_Bare_NoProgram,
     i_Shut_NoProgram,
     i_NoRow_NoProgram,
     i_NoProgram_NoProgram,
     i_NoText_NoProgram,
     i_NoContract_NoProgram,
     i_NoInput_NoProgram,
     i_TooMany_NoProgram,
     i_NotLet_NoProgram,
     i_NoCall_NoProgram,
     i_NoName_NoProgram,
     i_NoShelf_NoProgram,
     i_NoWord_NoRow,
     i_NoBit_NoRow,
     i_NoTable_NoRow,
     i_Bare_NoRow,
     i_Shut_NoRow,
     i_NoRow_NoRow,
     i_NoProgram_NoRow,
     i_NoText_NoRow,
     i_NoContract_NoRow,
     i_NoInput_NoRow,
     i_TooMany_NoRow,
     i_NotLet_NoRow,
     i_NoCall_NoRow,
     i_NoName_NoRow,
     i_NoShelf_NoRow,
     i_NoWord_NoShelf,
     i_NoBit_NoShelf,
     i_NoTable_NoShelf,
     i_Bare_NoShelf,
     i_Shut_NoShelf,
     i_NoRow_NoShelf,
     i_NoProgram_NoShelf,
     i_NoText_NoShelf,
     i_NoContract_NoShelf,
     i_NoInput_NoShelf,
     i_TooMany_NoShelf,
     i_NotLet_NoShelf,
     i_NoCall_NoShelf,
     i_NoName_NoShelf,
     i_NoShelf_NoShelf,
     i_NoWord_NoTable,
     i_NoBit_NoTable,
     i_NoTable_NoTable,
     i_Bare_NoTable,
     i_Shut_NoTable,
     i_NoRow_NoTable,
     i_NoProgram_NoTable,
     i_NoText_NoTable,
     i_NoContract_NoTable,
     i_NoInput_NoTable,
     i_TooMany_NoTable,
     i_NotLet_NoTable,
     i_NoCall_NoTable,
     i_NoName_NoTable,
     i_NoShelf_NoTable,
     i_NoWord_NoText,
     i_NoBit_NoText,
     i_NoTable_NoText,
     i_Bare_NoText,
     i_Shut_NoText,
     i_NoRow_NoText,
     i_NoProgram_NoText,
     i_NoText_NoText,
     i_NoContract_NoText,
     i_NoInput_NoText,
     i_TooMany_NoText,
     i_NotLet_NoText,
     i_NoCall_NoText,
     i_NoName_NoText,
     i_NoShelf_NoText,
     i_NoWord_NoWord,
     i_NoBit_NoWord,
     i_NoTable_NoWord,
     i_Bare_NoWord,
     i_Shut_NoWord,
     i_NoRow_NoWord,
     i_NoProgram_NoWord,
     i_NoText_NoWord,
     i_NoContract_NoWord,
     i_NoInput_NoWord,
     i_TooMany_NoWord,
     i_NotLet_NoWord,
     i_NoCall_NoWord,
     i_NoName_NoWord,
     i_NoShelf_NoWord,
     i_NoWord_NotLet,
     i_NoBit_NotLet,
     i_NoTable_NotLet,
     i_Bare_NotLet,
     i_Shut_NotLet,
     i_NoRow_NotLet,
     i_NoProgram_NotLet,
     i_NoText_NotLet,
     i_NoContract_NotLet,
     i_NoInput_NotLet,
     i_TooMany_NotLet,
     i_NotLet_NotLet,
     i_NoCall_NotLet,
     i_NoName_NotLet,
     i_NoShelf_NotLet,
     i_NoWord_OverflowError,
     i_NoBit_OverflowError,
     i_NoTable_OverflowError,
     i_Bare_OverflowError,
     i_Shut_OverflowError,
     i_NoRow_OverflowError,
     i_NoProgram_OverflowError,
     i_NoText_OverflowError,
     i_NoContract_OverflowError,
     i_NoInput_OverflowError,
     i_TooMany_OverflowError,
     i_NotLet_OverflowError,
     i_NoCall_OverflowError,
     i_NoName_OverflowError,
     i_NoShelf_OverflowError,
     i_NoWord_RuntimeError,
     i_NoBit_RuntimeError,
     i_NoTable_RuntimeError,
     i_Bare_RuntimeError,
     i_Shut_RuntimeError,
     i_NoRow_RuntimeError,
     i_NoProgram_RuntimeError,
     i_NoText_RuntimeError,
     i_NoContract_RuntimeError,
     i_NoInput_RuntimeError,
     i_TooMany_RuntimeError,
     i_NotLet_RuntimeError,
     i_NoCall_RuntimeError,
     i_NoName_RuntimeError,
     i_NoShelf_RuntimeError,
     i_NoWord_Shut,
     i_NoBit_Shut,
     i_NoTable_Shut,
     i_Bare_Shut,
     i_Shut_Shut,
     i_NoRow_Shut,
     i_NoProgram_Shut,
     i_NoText_Shut,
     i_NoContract_Shut,
     i_NoInput_Shut,
     i_TooMany_Shut,
     i_NotLet_Shut,
     i_NoCall_Shut,
     i_NoName_Shut,
     i_NoShelf_Shut,
     i_NoWord_TooMany,
     i_NoBit_TooMany,
     i_NoTable_TooMany,
     i_Bare_TooMany,
     i_Shut_TooMany,
     i_NoRow_TooMany,
     i_NoProgram_TooMany,
     i_NoText_TooMany,
     i_NoContract_TooMany,
     i_NoInput_TooMany,
     i_TooMany_TooMany,
     i_NotLet_TooMany,
     i_NoCall_TooMany,
     i_NoName_TooMany,
     i_NoShelf_TooMany,
     i_NoWord_ValueError,
     i_NoBit_ValueError,
     i_NoTable_ValueError,
     i_Bare_ValueError,
     i_Shut_ValueError,
     i_NoRow_ValueError,
     i_NoProgram_ValueError,
     i_NoText_ValueError,
     i_NoContract_ValueError,
     i_NoInput_ValueError,
     i_TooMany_ValueError,
     i_NotLet_ValueError,
     i_NoCall_ValueError,
     i_NoName_ValueError,
     i_NoShelf_ValueError⟩
  exact ⟨_, fun s v => .of_eq rfl, fun base _ _ => ok_p_law T⟩
end My
set_option maxRecDepth 100000 in
set_option maxHeartbeats 0 in
theorem PySem.Challenge.cw_boundgate_k05_refusals_apart_holds : PySem.Challenge.rw_boundgate_k05_refusals_apart.Holds := by
  w_on; o_law; k_head; (case hw => w_witness2)
  k_fill
  refine DL.walk_end (l := PySem.Challenge.rw_boundgate_k05_refusals_apart) (k := 4) (x := "_law_script") (sem := My.sem_p_law) rfl rfl ⟨rfl, by decide, by decide⟩ (fun w h Y => PySem.W.kIn_of Y) ?F My.end_law
  case F =>
    intro w mg fa h KX G hmg
    refine' My.all_mk KX G hmg ?a_l_pool ?l_l_pool ?c_l_pool ?k_l_pool ?a_l_take ?l_l_take ?c_l_take ?k_l_take ?a_l_kinds ?l_l_kinds ?c_l_kinds ?k_l_kinds ?a_l_bases ?l_l_bases ?c_l_bases ?k_l_bases ?a_l_made ?l_l_made ?c_l_made ?k_l_made ?a_l_fields ?l_l_fields ?c_l_fields ?k_l_fields ?a_p_law ?l_p_law ?c_p_law ?k_p_law ?z_IndexError ?z_KeyError ?z_LookupError ?z_OverflowError ?z_RuntimeError ?z_ValueError ?z_abs ?z_enumerate ?z_int ?z_isinstance ?z_len ?z_max ?z_min ?z_range ?z_repr ?z_sum ?xg_Bare ?xg_GateError ?xg_NoBit ?xg_NoCall ?xg_NoContract ?xg_NoInput ?xg_NoName ?xg_NoProgram ?xg_NoRow ?xg_NoShelf ?xg_NoTable ?xg_NoText ?xg_NoWord ?xg_NotLet ?xg_Shut ?xg_TooMany ?ji_NoProgram ?jl_NoProgram ?jq_NoProgram ?jw_NoProgram ?jy_NoProgram ?ol_NoProgram ?or_NoProgram ?ox_NoProgram ?nf_NoProgram_number ?ji_NoText ?jl_NoText ?jq_NoText ?jw_NoText ?jy_NoText ?ol_NoText ?or_NoText ?ox_NoText ?nf_NoText_number ?ji_NoContract ?jl_NoContract ?jq_NoContract ?jw_NoContract ?jy_NoContract ?ol_NoContract ?or_NoContract ?ox_NoContract ?nf_NoContract_part ?nf_NoContract_number ?ji_NoInput ?jl_NoInput ?jq_NoInput ?jw_NoInput ?jy_NoInput ?ol_NoInput ?or_NoInput ?ox_NoInput ?nf_NoInput_part ?ji_TooMany ?jl_TooMany ?jq_TooMany ?jw_TooMany ?jy_TooMany ?ol_TooMany ?or_TooMany ?ox_TooMany ?nf_TooMany_size ?ji_NotLet ?jl_NotLet ?jq_NotLet ?jw_NotLet ?jy_NotLet ?ol_NotLet ?or_NotLet ?ox_NotLet ?nf_NotLet_word ?nf_NotLet_way ?ji_NoCall ?jl_NoCall ?jq_NoCall ?jw_NoCall ?jy_NoCall ?ol_NoCall ?ox_NoCall ?nf_NoCall_name ?ji_NoName ?jl_NoName ?jq_NoName ?jw_NoName ?jy_NoName ?ol_NoName ?ox_NoName ?nf_NoName_name ?ji_NoShelf ?jl_NoShelf ?jq_NoShelf ?jw_NoShelf ?jy_NoShelf ?ol_NoShelf ?ox_NoShelf ?nf_NoShelf_name ?cr_GateError ?cs_GateError ?cf_GateError ?cKeyError ?cLookupError ?xe_NoWord ?xk_NoWord ?xb_NoWord ?xt_NoWord ?ya_NoWord ?yb_NoWord ?yd_NoWord ?ye_NoWord ?yf_NoWord ?yg_NoWord ?yh_NoWord ?xe_NoBit ?xk_NoBit ?xb_NoBit ?xt_NoBit ?ya_NoBit ?yb_NoBit ?yd_NoBit ?ye_NoBit ?yf_NoBit ?yg_NoBit ?yh_NoBit ?xe_NoTable ?xk_NoTable ?xb_NoTable ?xt_NoTable ?ya_NoTable ?yb_NoTable ?yd_NoTable ?ye_NoTable ?yf_NoTable ?yg_NoTable ?yh_NoTable ?xe_Bare ?xk_Bare ?xb_Bare ?xt_Bare ?ya_Bare ?yb_Bare ?yd_Bare ?ye_Bare ?yf_Bare ?yg_Bare ?yh_Bare ?xe_Shut ?xk_Shut ?xb_Shut ?xt_Shut ?ya_Shut ?yb_Shut ?yd_Shut ?ye_Shut ?yf_Shut ?yg_Shut ?yh_Shut ?xe_NoRow ?xk_NoRow ?xb_NoRow ?xt_NoRow ?ya_NoRow ?yb_NoRow ?yd_NoRow ?ye_NoRow ?yf_NoRow ?yg_NoRow ?yh_NoRow ?xk_NoProgram ?xb_NoProgram ?xt_NoProgram ?ya_NoProgram ?yb_NoProgram ?yd_NoProgram ?ye_NoProgram ?yf_NoProgram ?yg_NoProgram ?yh_NoProgram ?xk_NoText ?xb_NoText ?xt_NoText ?ya_NoText ?yb_NoText ?yd_NoText ?ye_NoText ?yf_NoText ?yg_NoText ?yh_NoText ?xk_NoContract ?xb_NoContract ?xt_NoContract ?ya_NoContract ?yb_NoContract ?yd_NoContract ?ye_NoContract ?yf_NoContract ?yg_NoContract ?yh_NoContract ?xk_NoInput ?xb_NoInput ?xt_NoInput ?ya_NoInput ?yb_NoInput ?yd_NoInput ?ye_NoInput ?yf_NoInput ?yg_NoInput ?yh_NoInput ?xk_TooMany ?xb_TooMany ?xt_TooMany ?ya_TooMany ?yb_TooMany ?yd_TooMany ?ye_TooMany ?yf_TooMany ?yg_TooMany ?yh_TooMany ?xk_NotLet ?xb_NotLet ?xt_NotLet ?ya_NotLet ?yb_NotLet ?yd_NotLet ?ye_NotLet ?yf_NotLet ?yg_NotLet ?yh_NotLet ?xk_NoCall ?xb_NoCall ?xt_NoCall ?ya_NoCall ?yb_NoCall ?yd_NoCall ?ye_NoCall ?yf_NoCall ?yg_NoCall ?yh_NoCall ?xk_NoName ?xb_NoName ?xt_NoName ?ya_NoName ?yb_NoName ?yd_NoName ?ye_NoName ?yf_NoName ?yg_NoName ?yh_NoName ?xk_NoShelf ?xb_NoShelf ?xt_NoShelf ?ya_NoShelf ?yb_NoShelf ?yd_NoShelf ?ye_NoShelf ?yf_NoShelf ?yg_NoShelf ?yh_NoShelf ?i_NoWord_Bare ?i_NoBit_Bare ?i_NoTable_Bare ?i_Bare_Bare ?i_Shut_Bare ?i_NoRow_Bare ?i_NoProgram_Bare ?i_NoText_Bare ?i_NoContract_Bare ?i_NoInput_Bare ?i_TooMany_Bare ?i_NotLet_Bare ?i_NoCall_Bare ?i_NoName_Bare ?i_NoShelf_Bare ?i_NoWord_GateError ?i_NoBit_GateError ?i_NoTable_GateError ?i_Bare_GateError ?i_Shut_GateError ?i_NoRow_GateError ?i_NoProgram_GateError ?i_NoText_GateError ?i_NoContract_GateError ?i_NoInput_GateError ?i_TooMany_GateError ?i_NotLet_GateError ?i_NoCall_GateError ?i_NoName_GateError ?i_NoShelf_GateError ?i_NoWord_IndexError ?i_NoBit_IndexError ?i_NoTable_IndexError ?i_Bare_IndexError ?i_Shut_IndexError ?i_NoRow_IndexError ?i_NoProgram_IndexError ?i_NoText_IndexError ?i_NoContract_IndexError ?i_NoInput_IndexError ?i_TooMany_IndexError ?i_NotLet_IndexError ?i_NoCall_IndexError ?i_NoName_IndexError ?i_NoShelf_IndexError ?i_NoWord_KeyError ?i_NoBit_KeyError ?i_NoTable_KeyError ?i_Bare_KeyError ?i_Shut_KeyError ?i_NoRow_KeyError ?i_NoProgram_KeyError ?i_NoText_KeyError ?i_NoContract_KeyError ?i_NoInput_KeyError ?i_TooMany_KeyError ?i_NotLet_KeyError ?i_NoCall_KeyError ?i_NoName_KeyError ?i_NoShelf_KeyError ?i_NoWord_LookupError ?i_NoBit_LookupError ?i_NoTable_LookupError ?i_Bare_LookupError ?i_Shut_LookupError ?i_NoRow_LookupError ?i_NoProgram_LookupError ?i_NoText_LookupError ?i_NoContract_LookupError ?i_NoInput_LookupError ?i_TooMany_LookupError ?i_NotLet_LookupError ?i_NoCall_LookupError ?i_NoName_LookupError ?i_NoShelf_LookupError ?i_NoWord_NoBit ?i_NoBit_NoBit ?i_NoTable_NoBit ?i_Bare_NoBit ?i_Shut_NoBit ?i_NoRow_NoBit ?i_NoProgram_NoBit ?i_NoText_NoBit ?i_NoContract_NoBit ?i_NoInput_NoBit ?i_TooMany_NoBit ?i_NotLet_NoBit ?i_NoCall_NoBit ?i_NoName_NoBit ?i_NoShelf_NoBit ?i_NoWord_NoCall ?i_NoBit_NoCall ?i_NoTable_NoCall ?i_Bare_NoCall ?i_Shut_NoCall ?i_NoRow_NoCall ?i_NoProgram_NoCall ?i_NoText_NoCall ?i_NoContract_NoCall ?i_NoInput_NoCall ?i_TooMany_NoCall ?i_NotLet_NoCall ?i_NoCall_NoCall ?i_NoName_NoCall ?i_NoShelf_NoCall ?i_NoWord_NoContract ?i_NoBit_NoContract ?i_NoTable_NoContract ?i_Bare_NoContract ?i_Shut_NoContract ?i_NoRow_NoContract ?i_NoProgram_NoContract ?i_NoText_NoContract ?i_NoContract_NoContract ?i_NoInput_NoContract ?i_TooMany_NoContract ?i_NotLet_NoContract ?i_NoCall_NoContract ?i_NoName_NoContract ?i_NoShelf_NoContract ?i_NoWord_NoInput ?i_NoBit_NoInput ?i_NoTable_NoInput ?i_Bare_NoInput ?i_Shut_NoInput ?i_NoRow_NoInput ?i_NoProgram_NoInput ?i_NoText_NoInput ?i_NoContract_NoInput ?i_NoInput_NoInput ?i_TooMany_NoInput ?i_NotLet_NoInput ?i_NoCall_NoInput ?i_NoName_NoInput ?i_NoShelf_NoInput ?i_NoWord_NoName ?i_NoBit_NoName ?i_NoTable_NoName ?i_Bare_NoName ?i_Shut_NoName ?i_NoRow_NoName ?i_NoProgram_NoName ?i_NoText_NoName ?i_NoContract_NoName ?i_NoInput_NoName ?i_TooMany_NoName ?i_NotLet_NoName ?i_NoCall_NoName ?i_NoName_NoName ?i_NoShelf_NoName ?i_NoWord_NoProgram ?i_NoBit_NoProgram ?i_NoTable_NoProgram ?i_Bare_NoProgram ?i_Shut_NoProgram ?i_NoRow_NoProgram ?i_NoProgram_NoProgram ?i_NoText_NoProgram ?i_NoContract_NoProgram ?i_NoInput_NoProgram ?i_TooMany_NoProgram ?i_NotLet_NoProgram ?i_NoCall_NoProgram ?i_NoName_NoProgram ?i_NoShelf_NoProgram ?i_NoWord_NoRow ?i_NoBit_NoRow ?i_NoTable_NoRow ?i_Bare_NoRow ?i_Shut_NoRow ?i_NoRow_NoRow ?i_NoProgram_NoRow ?i_NoText_NoRow ?i_NoContract_NoRow ?i_NoInput_NoRow ?i_TooMany_NoRow ?i_NotLet_NoRow ?i_NoCall_NoRow ?i_NoName_NoRow ?i_NoShelf_NoRow ?i_NoWord_NoShelf ?i_NoBit_NoShelf ?i_NoTable_NoShelf ?i_Bare_NoShelf ?i_Shut_NoShelf ?i_NoRow_NoShelf ?i_NoProgram_NoShelf ?i_NoText_NoShelf ?i_NoContract_NoShelf ?i_NoInput_NoShelf ?i_TooMany_NoShelf ?i_NotLet_NoShelf ?i_NoCall_NoShelf ?i_NoName_NoShelf ?i_NoShelf_NoShelf ?i_NoWord_NoTable ?i_NoBit_NoTable ?i_NoTable_NoTable ?i_Bare_NoTable ?i_Shut_NoTable ?i_NoRow_NoTable ?i_NoProgram_NoTable ?i_NoText_NoTable ?i_NoContract_NoTable ?i_NoInput_NoTable ?i_TooMany_NoTable ?i_NotLet_NoTable ?i_NoCall_NoTable ?i_NoName_NoTable ?i_NoShelf_NoTable ?i_NoWord_NoText ?i_NoBit_NoText ?i_NoTable_NoText ?i_Bare_NoText ?i_Shut_NoText ?i_NoRow_NoText ?i_NoProgram_NoText ?i_NoText_NoText ?i_NoContract_NoText ?i_NoInput_NoText ?i_TooMany_NoText ?i_NotLet_NoText ?i_NoCall_NoText ?i_NoName_NoText ?i_NoShelf_NoText ?i_NoWord_NoWord ?i_NoBit_NoWord ?i_NoTable_NoWord ?i_Bare_NoWord ?i_Shut_NoWord ?i_NoRow_NoWord ?i_NoProgram_NoWord ?i_NoText_NoWord ?i_NoContract_NoWord ?i_NoInput_NoWord ?i_TooMany_NoWord ?i_NotLet_NoWord ?i_NoCall_NoWord ?i_NoName_NoWord ?i_NoShelf_NoWord ?i_NoWord_NotLet ?i_NoBit_NotLet ?i_NoTable_NotLet ?i_Bare_NotLet ?i_Shut_NotLet ?i_NoRow_NotLet ?i_NoProgram_NotLet ?i_NoText_NotLet ?i_NoContract_NotLet ?i_NoInput_NotLet ?i_TooMany_NotLet ?i_NotLet_NotLet ?i_NoCall_NotLet ?i_NoName_NotLet ?i_NoShelf_NotLet ?i_NoWord_OverflowError ?i_NoBit_OverflowError ?i_NoTable_OverflowError ?i_Bare_OverflowError ?i_Shut_OverflowError ?i_NoRow_OverflowError ?i_NoProgram_OverflowError ?i_NoText_OverflowError ?i_NoContract_OverflowError ?i_NoInput_OverflowError ?i_TooMany_OverflowError ?i_NotLet_OverflowError ?i_NoCall_OverflowError ?i_NoName_OverflowError ?i_NoShelf_OverflowError ?i_NoWord_RuntimeError ?i_NoBit_RuntimeError ?i_NoTable_RuntimeError ?i_Bare_RuntimeError ?i_Shut_RuntimeError ?i_NoRow_RuntimeError ?i_NoProgram_RuntimeError ?i_NoText_RuntimeError ?i_NoContract_RuntimeError ?i_NoInput_RuntimeError ?i_TooMany_RuntimeError ?i_NotLet_RuntimeError ?i_NoCall_RuntimeError ?i_NoName_RuntimeError ?i_NoShelf_RuntimeError ?i_NoWord_Shut ?i_NoBit_Shut ?i_NoTable_Shut ?i_Bare_Shut ?i_Shut_Shut ?i_NoRow_Shut ?i_NoProgram_Shut ?i_NoText_Shut ?i_NoContract_Shut ?i_NoInput_Shut ?i_TooMany_Shut ?i_NotLet_Shut ?i_NoCall_Shut ?i_NoName_Shut ?i_NoShelf_Shut ?i_NoWord_TooMany ?i_NoBit_TooMany ?i_NoTable_TooMany ?i_Bare_TooMany ?i_Shut_TooMany ?i_NoRow_TooMany ?i_NoProgram_TooMany ?i_NoText_TooMany ?i_NoContract_TooMany ?i_NoInput_TooMany ?i_TooMany_TooMany ?i_NotLet_TooMany ?i_NoCall_TooMany ?i_NoName_TooMany ?i_NoShelf_TooMany ?i_NoWord_ValueError ?i_NoBit_ValueError ?i_NoTable_ValueError ?i_Bare_ValueError ?i_Shut_ValueError ?i_NoRow_ValueError ?i_NoProgram_ValueError ?i_NoText_ValueError ?i_NoContract_ValueError ?i_NoInput_ValueError ?i_TooMany_ValueError ?i_NotLet_ValueError ?i_NoCall_ValueError ?i_NoName_ValueError ?i_NoShelf_ValueError
    (case a_l_pool => k_is)
    (case l_l_pool => k_is)
    (case c_l_pool => k_is)
    (case k_l_pool => k_is)
    (case a_l_take => k_is)
    (case l_l_take => k_is)
    (case c_l_take => k_is)
    (case k_l_take => k_is)
    (case a_l_kinds => k_is)
    (case l_l_kinds => k_is)
    (case c_l_kinds => k_is)
    (case k_l_kinds => k_is)
    (case a_l_bases => k_is)
    (case l_l_bases => k_is)
    (case c_l_bases => k_is)
    (case k_l_bases => k_is)
    (case a_l_made => k_is)
    (case l_l_made => k_is)
    (case c_l_made => k_is)
    (case k_l_made => k_is)
    (case a_l_fields => k_is)
    (case l_l_fields => k_is)
    (case c_l_fields => k_is)
    (case k_l_fields => k_is)
    (case a_p_law => k_is)
    (case l_p_law => k_is)
    (case c_p_law => k_is)
    (case k_p_law => k_is)
    (case z_IndexError => k_is)
    (case z_KeyError => k_is)
    (case z_LookupError => k_is)
    (case z_OverflowError => k_is)
    (case z_RuntimeError => k_is)
    (case z_ValueError => k_is)
    (case z_abs => k_is)
    (case z_enumerate => k_is)
    (case z_int => k_is)
    (case z_isinstance => k_is)
    (case z_len => k_is)
    (case z_max => k_is)
    (case z_min => k_is)
    (case z_range => k_is)
    (case z_repr => k_is)
    (case z_sum => k_is)
    (case xg_Bare => k_is)
    (case xg_GateError => k_is)
    (case xg_NoBit => k_is)
    (case xg_NoCall => k_is)
    (case xg_NoContract => k_is)
    (case xg_NoInput => k_is)
    (case xg_NoName => k_is)
    (case xg_NoProgram => k_is)
    (case xg_NoRow => k_is)
    (case xg_NoShelf => k_is)
    (case xg_NoTable => k_is)
    (case xg_NoText => k_is)
    (case xg_NoWord => k_is)
    (case xg_NotLet => k_is)
    (case xg_Shut => k_is)
    (case xg_TooMany => k_is)
    (case ji_NoProgram => k_is)
    (case jl_NoProgram => k_is)
    (case jq_NoProgram => k_is)
    (case jw_NoProgram => k_is)
    (case jy_NoProgram => k_is)
    (case ol_NoProgram => first | k_is | exact rfl)
    (case or_NoProgram => first | exact rfl | decide)
    (case ox_NoProgram => k_is)
    (case nf_NoProgram_number => k_is)
    (case ji_NoText => k_is)
    (case jl_NoText => k_is)
    (case jq_NoText => k_is)
    (case jw_NoText => k_is)
    (case jy_NoText => k_is)
    (case ol_NoText => first | k_is | exact rfl)
    (case or_NoText => first | exact rfl | decide)
    (case ox_NoText => k_is)
    (case nf_NoText_number => k_is)
    (case ji_NoContract => k_is)
    (case jl_NoContract => k_is)
    (case jq_NoContract => k_is)
    (case jw_NoContract => k_is)
    (case jy_NoContract => k_is)
    (case ol_NoContract => first | k_is | exact rfl)
    (case or_NoContract => first | exact rfl | decide)
    (case ox_NoContract => k_is)
    (case nf_NoContract_part => k_is)
    (case nf_NoContract_number => k_is)
    (case ji_NoInput => k_is)
    (case jl_NoInput => k_is)
    (case jq_NoInput => k_is)
    (case jw_NoInput => k_is)
    (case jy_NoInput => k_is)
    (case ol_NoInput => first | k_is | exact rfl)
    (case or_NoInput => first | exact rfl | decide)
    (case ox_NoInput => k_is)
    (case nf_NoInput_part => k_is)
    (case ji_TooMany => k_is)
    (case jl_TooMany => k_is)
    (case jq_TooMany => k_is)
    (case jw_TooMany => k_is)
    (case jy_TooMany => k_is)
    (case ol_TooMany => first | k_is | exact rfl)
    (case or_TooMany => first | exact rfl | decide)
    (case ox_TooMany => k_is)
    (case nf_TooMany_size => k_is)
    (case ji_NotLet => k_is)
    (case jl_NotLet => k_is)
    (case jq_NotLet => k_is)
    (case jw_NotLet => k_is)
    (case jy_NotLet => k_is)
    (case ol_NotLet => first | k_is | exact rfl)
    (case or_NotLet => first | exact rfl | decide)
    (case ox_NotLet => k_is)
    (case nf_NotLet_word => k_is)
    (case nf_NotLet_way => k_is)
    (case ji_NoCall => k_is)
    (case jl_NoCall => k_is)
    (case jq_NoCall => k_is)
    (case jw_NoCall => k_is)
    (case jy_NoCall => k_is)
    (case ol_NoCall => first | k_is | exact rfl)
    (case ox_NoCall => k_is)
    (case nf_NoCall_name => k_is)
    (case ji_NoName => k_is)
    (case jl_NoName => k_is)
    (case jq_NoName => k_is)
    (case jw_NoName => k_is)
    (case jy_NoName => k_is)
    (case ol_NoName => first | k_is | exact rfl)
    (case ox_NoName => k_is)
    (case nf_NoName_name => k_is)
    (case ji_NoShelf => k_is)
    (case jl_NoShelf => k_is)
    (case jq_NoShelf => k_is)
    (case jw_NoShelf => k_is)
    (case jy_NoShelf => k_is)
    (case ol_NoShelf => first | k_is | exact rfl)
    (case ox_NoShelf => k_is)
    (case nf_NoShelf_name => k_is)
    (case cr_GateError => first | k_is | exact rfl | decide +kernel)
    (case cs_GateError => k_is)
    (case cf_GateError => k_is)
    (case cKeyError => first | k_is | exact rfl | decide +kernel)
    (case cLookupError => first | k_is | exact rfl | decide +kernel)
    (case xe_NoWord => k_exc)
    (case xk_NoWord => k_is)
    (case xb_NoWord => k_is)
    (case xt_NoWord => k_is)
    (case ya_NoWord => k_is)
    (case yb_NoWord => k_is)
    (case yd_NoWord => k_is)
    (case ye_NoWord => k_is)
    (case yf_NoWord => k_is)
    (case yg_NoWord => k_is)
    (case yh_NoWord => k_is)
    (case xe_NoBit => k_exc)
    (case xk_NoBit => k_is)
    (case xb_NoBit => k_is)
    (case xt_NoBit => k_is)
    (case ya_NoBit => k_is)
    (case yb_NoBit => k_is)
    (case yd_NoBit => k_is)
    (case ye_NoBit => k_is)
    (case yf_NoBit => k_is)
    (case yg_NoBit => k_is)
    (case yh_NoBit => k_is)
    (case xe_NoTable => k_exc)
    (case xk_NoTable => k_is)
    (case xb_NoTable => k_is)
    (case xt_NoTable => k_is)
    (case ya_NoTable => k_is)
    (case yb_NoTable => k_is)
    (case yd_NoTable => k_is)
    (case ye_NoTable => k_is)
    (case yf_NoTable => k_is)
    (case yg_NoTable => k_is)
    (case yh_NoTable => k_is)
    (case xe_Bare => k_exc)
    (case xk_Bare => k_is)
    (case xb_Bare => k_is)
    (case xt_Bare => k_is)
    (case ya_Bare => k_is)
    (case yb_Bare => k_is)
    (case yd_Bare => k_is)
    (case ye_Bare => k_is)
    (case yf_Bare => k_is)
    (case yg_Bare => k_is)
    (case yh_Bare => k_is)
    (case xe_Shut => k_exc)
    (case xk_Shut => k_is)
    (case xb_Shut => k_is)
    (case xt_Shut => k_is)
    (case ya_Shut => k_is)
    (case yb_Shut => k_is)
    (case yd_Shut => k_is)
    (case ye_Shut => k_is)
    (case yf_Shut => k_is)
    (case yg_Shut => k_is)
    (case yh_Shut => k_is)
    (case xe_NoRow => k_exc)
    (case xk_NoRow => k_is)
    (case xb_NoRow => k_is)
    (case xt_NoRow => k_is)
    (case ya_NoRow => k_is)
    (case yb_NoRow => k_is)
    (case yd_NoRow => k_is)
    (case ye_NoRow => k_is)
    (case yf_NoRow => k_is)
    (case yg_NoRow => k_is)
    (case yh_NoRow => k_is)
    (case xk_NoProgram => k_is)
    (case xb_NoProgram => k_is)
    (case xt_NoProgram => k_is)
    (case ya_NoProgram => k_is)
    (case yb_NoProgram => k_is)
    (case yd_NoProgram => k_is)
    (case ye_NoProgram => k_is)
    (case yf_NoProgram => k_is)
    (case yg_NoProgram => k_is)
    (case yh_NoProgram => k_is)
    (case xk_NoText => k_is)
    (case xb_NoText => k_is)
    (case xt_NoText => k_is)
    (case ya_NoText => k_is)
    (case yb_NoText => k_is)
    (case yd_NoText => k_is)
    (case ye_NoText => k_is)
    (case yf_NoText => k_is)
    (case yg_NoText => k_is)
    (case yh_NoText => k_is)
    (case xk_NoContract => k_is)
    (case xb_NoContract => k_is)
    (case xt_NoContract => k_is)
    (case ya_NoContract => k_is)
    (case yb_NoContract => k_is)
    (case yd_NoContract => k_is)
    (case ye_NoContract => k_is)
    (case yf_NoContract => k_is)
    (case yg_NoContract => k_is)
    (case yh_NoContract => k_is)
    (case xk_NoInput => k_is)
    (case xb_NoInput => k_is)
    (case xt_NoInput => k_is)
    (case ya_NoInput => k_is)
    (case yb_NoInput => k_is)
    (case yd_NoInput => k_is)
    (case ye_NoInput => k_is)
    (case yf_NoInput => k_is)
    (case yg_NoInput => k_is)
    (case yh_NoInput => k_is)
    (case xk_TooMany => k_is)
    (case xb_TooMany => k_is)
    (case xt_TooMany => k_is)
    (case ya_TooMany => k_is)
    (case yb_TooMany => k_is)
    (case yd_TooMany => k_is)
    (case ye_TooMany => k_is)
    (case yf_TooMany => k_is)
    (case yg_TooMany => k_is)
    (case yh_TooMany => k_is)
    (case xk_NotLet => k_is)
    (case xb_NotLet => k_is)
    (case xt_NotLet => k_is)
    (case ya_NotLet => k_is)
    (case yb_NotLet => k_is)
    (case yd_NotLet => k_is)
    (case ye_NotLet => k_is)
    (case yf_NotLet => k_is)
    (case yg_NotLet => k_is)
    (case yh_NotLet => k_is)
    (case xk_NoCall => k_is)
    (case xb_NoCall => k_is)
    (case xt_NoCall => k_is)
    (case ya_NoCall => k_is)
    (case yb_NoCall => k_is)
    (case yd_NoCall => k_is)
    (case ye_NoCall => k_is)
    (case yf_NoCall => k_is)
    (case yg_NoCall => k_is)
    (case yh_NoCall => k_is)
    (case xk_NoName => k_is)
    (case xb_NoName => k_is)
    (case xt_NoName => k_is)
    (case ya_NoName => k_is)
    (case yb_NoName => k_is)
    (case yd_NoName => k_is)
    (case ye_NoName => k_is)
    (case yf_NoName => k_is)
    (case yg_NoName => k_is)
    (case yh_NoName => k_is)
    (case xk_NoShelf => k_is)
    (case xb_NoShelf => k_is)
    (case xt_NoShelf => k_is)
    (case ya_NoShelf => k_is)
    (case yb_NoShelf => k_is)
    (case yd_NoShelf => k_is)
    (case ye_NoShelf => k_is)
    (case yf_NoShelf => k_is)
    (case yg_NoShelf => k_is)
    (case yh_NoShelf => k_is)
    (case i_NoWord_Bare => kit_is)
    (case i_NoBit_Bare => kit_is)
    (case i_NoTable_Bare => kit_is)
    (case i_Bare_Bare => kit_is)
    (case i_Shut_Bare => kit_is)
    (case i_NoRow_Bare => kit_is)
    (case i_NoProgram_Bare => kit_is)
    (case i_NoText_Bare => kit_is)
    (case i_NoContract_Bare => kit_is)
    (case i_NoInput_Bare => kit_is)
    (case i_TooMany_Bare => kit_is)
    (case i_NotLet_Bare => kit_is)
    (case i_NoCall_Bare => kit_is)
    (case i_NoName_Bare => kit_is)
    (case i_NoShelf_Bare => kit_is)
    (case i_NoWord_GateError => kit_is)
    (case i_NoBit_GateError => kit_is)
    (case i_NoTable_GateError => kit_is)
    (case i_Bare_GateError => kit_is)
    (case i_Shut_GateError => kit_is)
    (case i_NoRow_GateError => kit_is)
    (case i_NoProgram_GateError => kit_is)
    (case i_NoText_GateError => kit_is)
    (case i_NoContract_GateError => kit_is)
    (case i_NoInput_GateError => kit_is)
    (case i_TooMany_GateError => kit_is)
    (case i_NotLet_GateError => kit_is)
    (case i_NoCall_GateError => kit_is)
    (case i_NoName_GateError => kit_is)
    (case i_NoShelf_GateError => kit_is)
    (case i_NoWord_IndexError => kit_is)
    (case i_NoBit_IndexError => kit_is)
    (case i_NoTable_IndexError => kit_is)
    (case i_Bare_IndexError => kit_is)
    (case i_Shut_IndexError => kit_is)
    (case i_NoRow_IndexError => kit_is)
    (case i_NoProgram_IndexError => kit_is)
    (case i_NoText_IndexError => kit_is)
    (case i_NoContract_IndexError => kit_is)
    (case i_NoInput_IndexError => kit_is)
    (case i_TooMany_IndexError => kit_is)
    (case i_NotLet_IndexError => kit_is)
    (case i_NoCall_IndexError => kit_is)
    (case i_NoName_IndexError => kit_is)
    (case i_NoShelf_IndexError => kit_is)
    (case i_NoWord_KeyError => kit_is)
    (case i_NoBit_KeyError => kit_is)
    (case i_NoTable_KeyError => kit_is)
    (case i_Bare_KeyError => kit_is)
    (case i_Shut_KeyError => kit_is)
    (case i_NoRow_KeyError => kit_is)
    (case i_NoProgram_KeyError => kit_is)
    (case i_NoText_KeyError => kit_is)
    (case i_NoContract_KeyError => kit_is)
    (case i_NoInput_KeyError => kit_is)
    (case i_TooMany_KeyError => kit_is)
    (case i_NotLet_KeyError => kit_is)
    (case i_NoCall_KeyError => kit_is)
    (case i_NoName_KeyError => kit_is)
    (case i_NoShelf_KeyError => kit_is)
    (case i_NoWord_LookupError => kit_is)
    (case i_NoBit_LookupError => kit_is)
    (case i_NoTable_LookupError => kit_is)
    (case i_Bare_LookupError => kit_is)
    (case i_Shut_LookupError => kit_is)
    (case i_NoRow_LookupError => kit_is)
    (case i_NoProgram_LookupError => kit_is)
    (case i_NoText_LookupError => kit_is)
    (case i_NoContract_LookupError => kit_is)
    (case i_NoInput_LookupError => kit_is)
    (case i_TooMany_LookupError => kit_is)
    (case i_NotLet_LookupError => kit_is)
    (case i_NoCall_LookupError => kit_is)
    (case i_NoName_LookupError => kit_is)
    (case i_NoShelf_LookupError => kit_is)
    (case i_NoWord_NoBit => kit_is)
    (case i_NoBit_NoBit => kit_is)
    (case i_NoTable_NoBit => kit_is)
    (case i_Bare_NoBit => kit_is)
    (case i_Shut_NoBit => kit_is)
    (case i_NoRow_NoBit => kit_is)
    (case i_NoProgram_NoBit => kit_is)
    (case i_NoText_NoBit => kit_is)
    (case i_NoContract_NoBit => kit_is)
    (case i_NoInput_NoBit => kit_is)
    (case i_TooMany_NoBit => kit_is)
    (case i_NotLet_NoBit => kit_is)
    (case i_NoCall_NoBit => kit_is)
    (case i_NoName_NoBit => kit_is)
    (case i_NoShelf_NoBit => kit_is)
    (case i_NoWord_NoCall => kit_is)
    (case i_NoBit_NoCall => kit_is)
    (case i_NoTable_NoCall => kit_is)
    (case i_Bare_NoCall => kit_is)
    (case i_Shut_NoCall => kit_is)
    (case i_NoRow_NoCall => kit_is)
    (case i_NoProgram_NoCall => kit_is)
    (case i_NoText_NoCall => kit_is)
    (case i_NoContract_NoCall => kit_is)
    (case i_NoInput_NoCall => kit_is)
    (case i_TooMany_NoCall => kit_is)
    (case i_NotLet_NoCall => kit_is)
    (case i_NoCall_NoCall => kit_is)
    (case i_NoName_NoCall => kit_is)
    (case i_NoShelf_NoCall => kit_is)
    (case i_NoWord_NoContract => kit_is)
    (case i_NoBit_NoContract => kit_is)
    (case i_NoTable_NoContract => kit_is)
    (case i_Bare_NoContract => kit_is)
    (case i_Shut_NoContract => kit_is)
    (case i_NoRow_NoContract => kit_is)
    (case i_NoProgram_NoContract => kit_is)
    (case i_NoText_NoContract => kit_is)
    (case i_NoContract_NoContract => kit_is)
    (case i_NoInput_NoContract => kit_is)
    (case i_TooMany_NoContract => kit_is)
    (case i_NotLet_NoContract => kit_is)
    (case i_NoCall_NoContract => kit_is)
    (case i_NoName_NoContract => kit_is)
    (case i_NoShelf_NoContract => kit_is)
    (case i_NoWord_NoInput => kit_is)
    (case i_NoBit_NoInput => kit_is)
    (case i_NoTable_NoInput => kit_is)
    (case i_Bare_NoInput => kit_is)
    (case i_Shut_NoInput => kit_is)
    (case i_NoRow_NoInput => kit_is)
    (case i_NoProgram_NoInput => kit_is)
    (case i_NoText_NoInput => kit_is)
    (case i_NoContract_NoInput => kit_is)
    (case i_NoInput_NoInput => kit_is)
    (case i_TooMany_NoInput => kit_is)
    (case i_NotLet_NoInput => kit_is)
    (case i_NoCall_NoInput => kit_is)
    (case i_NoName_NoInput => kit_is)
    (case i_NoShelf_NoInput => kit_is)
    (case i_NoWord_NoName => kit_is)
    (case i_NoBit_NoName => kit_is)
    (case i_NoTable_NoName => kit_is)
    (case i_Bare_NoName => kit_is)
    (case i_Shut_NoName => kit_is)
    (case i_NoRow_NoName => kit_is)
    (case i_NoProgram_NoName => kit_is)
    (case i_NoText_NoName => kit_is)
    (case i_NoContract_NoName => kit_is)
    (case i_NoInput_NoName => kit_is)
    (case i_TooMany_NoName => kit_is)
    (case i_NotLet_NoName => kit_is)
    (case i_NoCall_NoName => kit_is)
    (case i_NoName_NoName => kit_is)
    (case i_NoShelf_NoName => kit_is)
    (case i_NoWord_NoProgram => kit_is)
    (case i_NoBit_NoProgram => kit_is)
    (case i_NoTable_NoProgram => kit_is)
    (case i_Bare_NoProgram => kit_is)
    (case i_Shut_NoProgram => kit_is)
    (case i_NoRow_NoProgram => kit_is)
    (case i_NoProgram_NoProgram => kit_is)
    (case i_NoText_NoProgram => kit_is)
    (case i_NoContract_NoProgram => kit_is)
    (case i_NoInput_NoProgram => kit_is)
    (case i_TooMany_NoProgram => kit_is)
    (case i_NotLet_NoProgram => kit_is)
    (case i_NoCall_NoProgram => kit_is)
    (case i_NoName_NoProgram => kit_is)
    (case i_NoShelf_NoProgram => kit_is)
    (case i_NoWord_NoRow => kit_is)
    (case i_NoBit_NoRow => kit_is)
    (case i_NoTable_NoRow => kit_is)
    (case i_Bare_NoRow => kit_is)
    (case i_Shut_NoRow => kit_is)
    (case i_NoRow_NoRow => kit_is)
    (case i_NoProgram_NoRow => kit_is)
    (case i_NoText_NoRow => kit_is)
    (case i_NoContract_NoRow => kit_is)
    (case i_NoInput_NoRow => kit_is)
    (case i_TooMany_NoRow => kit_is)
    (case i_NotLet_NoRow => kit_is)
    (case i_NoCall_NoRow => kit_is)
    (case i_NoName_NoRow => kit_is)
    (case i_NoShelf_NoRow => kit_is)
    (case i_NoWord_NoShelf => kit_is)
    (case i_NoBit_NoShelf => kit_is)
    (case i_NoTable_NoShelf => kit_is)
    (case i_Bare_NoShelf => kit_is)
    (case i_Shut_NoShelf => kit_is)
    (case i_NoRow_NoShelf => kit_is)
    (case i_NoProgram_NoShelf => kit_is)
    (case i_NoText_NoShelf => kit_is)
    (case i_NoContract_NoShelf => kit_is)
    (case i_NoInput_NoShelf => kit_is)
    (case i_TooMany_NoShelf => kit_is)
    (case i_NotLet_NoShelf => kit_is)
    (case i_NoCall_NoShelf => kit_is)
    (case i_NoName_NoShelf => kit_is)
    (case i_NoShelf_NoShelf => kit_is)
    (case i_NoWord_NoTable => kit_is)
    (case i_NoBit_NoTable => kit_is)
    (case i_NoTable_NoTable => kit_is)
    (case i_Bare_NoTable => kit_is)
    (case i_Shut_NoTable => kit_is)
    (case i_NoRow_NoTable => kit_is)
    (case i_NoProgram_NoTable => kit_is)
    (case i_NoText_NoTable => kit_is)
    (case i_NoContract_NoTable => kit_is)
    (case i_NoInput_NoTable => kit_is)
    (case i_TooMany_NoTable => kit_is)
    (case i_NotLet_NoTable => kit_is)
    (case i_NoCall_NoTable => kit_is)
    (case i_NoName_NoTable => kit_is)
    (case i_NoShelf_NoTable => kit_is)
    (case i_NoWord_NoText => kit_is)
    (case i_NoBit_NoText => kit_is)
    (case i_NoTable_NoText => kit_is)
    (case i_Bare_NoText => kit_is)
    (case i_Shut_NoText => kit_is)
    (case i_NoRow_NoText => kit_is)
    (case i_NoProgram_NoText => kit_is)
    (case i_NoText_NoText => kit_is)
    (case i_NoContract_NoText => kit_is)
    (case i_NoInput_NoText => kit_is)
    (case i_TooMany_NoText => kit_is)
    (case i_NotLet_NoText => kit_is)
    (case i_NoCall_NoText => kit_is)
    (case i_NoName_NoText => kit_is)
    (case i_NoShelf_NoText => kit_is)
    (case i_NoWord_NoWord => kit_is)
    (case i_NoBit_NoWord => kit_is)
    (case i_NoTable_NoWord => kit_is)
    (case i_Bare_NoWord => kit_is)
    (case i_Shut_NoWord => kit_is)
    (case i_NoRow_NoWord => kit_is)
    (case i_NoProgram_NoWord => kit_is)
    (case i_NoText_NoWord => kit_is)
    (case i_NoContract_NoWord => kit_is)
    (case i_NoInput_NoWord => kit_is)
    (case i_TooMany_NoWord => kit_is)
    (case i_NotLet_NoWord => kit_is)
    (case i_NoCall_NoWord => kit_is)
    (case i_NoName_NoWord => kit_is)
    (case i_NoShelf_NoWord => kit_is)
    (case i_NoWord_NotLet => kit_is)
    (case i_NoBit_NotLet => kit_is)
    (case i_NoTable_NotLet => kit_is)
    (case i_Bare_NotLet => kit_is)
    (case i_Shut_NotLet => kit_is)
    (case i_NoRow_NotLet => kit_is)
    (case i_NoProgram_NotLet => kit_is)
    (case i_NoText_NotLet => kit_is)
    (case i_NoContract_NotLet => kit_is)
    (case i_NoInput_NotLet => kit_is)
    (case i_TooMany_NotLet => kit_is)
    (case i_NotLet_NotLet => kit_is)
    (case i_NoCall_NotLet => kit_is)
    (case i_NoName_NotLet => kit_is)
    (case i_NoShelf_NotLet => kit_is)
    (case i_NoWord_OverflowError => kit_is)
    (case i_NoBit_OverflowError => kit_is)
    (case i_NoTable_OverflowError => kit_is)
    (case i_Bare_OverflowError => kit_is)
    (case i_Shut_OverflowError => kit_is)
    (case i_NoRow_OverflowError => kit_is)
    (case i_NoProgram_OverflowError => kit_is)
    (case i_NoText_OverflowError => kit_is)
    (case i_NoContract_OverflowError => kit_is)
    (case i_NoInput_OverflowError => kit_is)
    (case i_TooMany_OverflowError => kit_is)
    (case i_NotLet_OverflowError => kit_is)
    (case i_NoCall_OverflowError => kit_is)
    (case i_NoName_OverflowError => kit_is)
    (case i_NoShelf_OverflowError => kit_is)
    (case i_NoWord_RuntimeError => kit_is)
    (case i_NoBit_RuntimeError => kit_is)
    (case i_NoTable_RuntimeError => kit_is)
    (case i_Bare_RuntimeError => kit_is)
    (case i_Shut_RuntimeError => kit_is)
    (case i_NoRow_RuntimeError => kit_is)
    (case i_NoProgram_RuntimeError => kit_is)
    (case i_NoText_RuntimeError => kit_is)
    (case i_NoContract_RuntimeError => kit_is)
    (case i_NoInput_RuntimeError => kit_is)
    (case i_TooMany_RuntimeError => kit_is)
    (case i_NotLet_RuntimeError => kit_is)
    (case i_NoCall_RuntimeError => kit_is)
    (case i_NoName_RuntimeError => kit_is)
    (case i_NoShelf_RuntimeError => kit_is)
    (case i_NoWord_Shut => kit_is)
    (case i_NoBit_Shut => kit_is)
    (case i_NoTable_Shut => kit_is)
    (case i_Bare_Shut => kit_is)
    (case i_Shut_Shut => kit_is)
    (case i_NoRow_Shut => kit_is)
    (case i_NoProgram_Shut => kit_is)
    (case i_NoText_Shut => kit_is)
    (case i_NoContract_Shut => kit_is)
    (case i_NoInput_Shut => kit_is)
    (case i_TooMany_Shut => kit_is)
    (case i_NotLet_Shut => kit_is)
    (case i_NoCall_Shut => kit_is)
    (case i_NoName_Shut => kit_is)
    (case i_NoShelf_Shut => kit_is)
    (case i_NoWord_TooMany => kit_is)
    (case i_NoBit_TooMany => kit_is)
    (case i_NoTable_TooMany => kit_is)
    (case i_Bare_TooMany => kit_is)
    (case i_Shut_TooMany => kit_is)
    (case i_NoRow_TooMany => kit_is)
    (case i_NoProgram_TooMany => kit_is)
    (case i_NoText_TooMany => kit_is)
    (case i_NoContract_TooMany => kit_is)
    (case i_NoInput_TooMany => kit_is)
    (case i_TooMany_TooMany => kit_is)
    (case i_NotLet_TooMany => kit_is)
    (case i_NoCall_TooMany => kit_is)
    (case i_NoName_TooMany => kit_is)
    (case i_NoShelf_TooMany => kit_is)
    (case i_NoWord_ValueError => kit_is)
    (case i_NoBit_ValueError => kit_is)
    (case i_NoTable_ValueError => kit_is)
    (case i_Bare_ValueError => kit_is)
    (case i_Shut_ValueError => kit_is)
    (case i_NoRow_ValueError => kit_is)
    (case i_NoProgram_ValueError => kit_is)
    (case i_NoText_ValueError => kit_is)
    (case i_NoContract_ValueError => kit_is)
    (case i_NoInput_ValueError => kit_is)
    (case i_TooMany_ValueError => kit_is)
    (case i_NotLet_ValueError => kit_is)
    (case i_NoCall_ValueError => kit_is)
    (case i_NoName_ValueError => kit_is)
    (case i_NoShelf_ValueError => kit_is)
