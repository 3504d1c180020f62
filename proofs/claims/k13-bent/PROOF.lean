import PyProof.Rows.All
import Wide.All
import OpenK.AllK
import Wide.FinOn
import HandS.ForMost
import HandS.Exc
import HandS.ExcOwn
import HandS.WordsExc
import HandS.TupAny
import KE.DataEq
import KE.DataCmp
import KE.DataIsa
import HandS.TupMul
import PyProof.Rows.FactsN_isinstance
import KE.DataFind
import HandS.Small
import HandS.Defaults
import HandS.Iter
import KE.KDictWalk
import KE.GoesEnum
import KE.KDictExact
import HandS.More
import KE.DataMinMax
import KE.SortData
import PyProof.Claim2Refuses
import HandS.TupSets
import KE.KDictKeyed
import PyProof.WalksMore
import HandS.Conv
import PySem.Challenge.RW_wormways_k13_bent_round_fallen_ties
import KE.KStateDown
import Lean
import HandS.Base
import HandS.Call
import HandS.Ends
import HandS.Words
import HandS.Head0
import HandS.Head1
import HandS.Head2
import HandS.HeadEnd
import HandS.HeadHook1
import HandS.HeadHook2
set_option Elab.async false
set_option linter.all false
set_option maxRecDepth 100000
set_option maxHeartbeats 4000000
/-! A layer of data over HandS: what a def computes, said of plain data. -/
namespace DL
open PySem PySem.Spec PyProof.Rows L2

/-- data with owners: frozen data, an owned list, an owned dict, a frozen dict, a list that is read alone -/
inductive OD where
  | f (d : PyData)
  | l (xs : List OD)
  | m (t : Bool) (kvs : List (PyData × OD))
  | g (t : Bool) (kvs : List (PyData × PyData))
  | s (ds : List PyData)

abbrev Sg := List (Option OD)

mutual
def OD.er : OD → Option PyData
  | .f d => some d
  | .l xs => (OD.ers xs).map .list
  | .m _ _ => none
  | .g _ _ => none
  | .s _ => none
def OD.ers : List OD → Option (List PyData)
  | [] => some []
  | x :: xs => match OD.er x, OD.ers xs with
    | some d, some ds => some (d :: ds)
    | _, _ => none
end
/-- .. a list that is read alone, too -/
def OD.dt : OD → Option PyData
  | .s ds => some (.list ds)
  | .f d => some d
  | .l xs => (OD.ers xs).map .list
  | .m _ _ => none
  | .g _ _ => none
/-- frozen -/
def OD.fz : OD → Option OD
  | .f d => some (.f d)
  | .l xs => (OD.ers xs).map fun ds => .f (.list ds)
  | .m _ _ => none
  | .g t kvs => some (.g t kvs)
  | .s ds => some (.s ds)

mutual
/-- the value v is the data d: every object of it stands in G -/
inductive Is (G : Hp) : V → PyData → Prop
  | non : Is G .non .none
  | bl (b : Bool) : Is G (.bl b) (.bool b)
  | int (i : Int) : Is G (.int i) (.int i)
  | str (x : Str) : Is G (.str x) (.str x)
  | lst {a : Addr} {vs : List V} {ds : List PyData} : G a = some (.lst vs) → IsAll G vs ds → Is G (.ref a) (.list ds)
  | tup {a : Addr} {vs : List V} {ds : List PyData} : G a = some (.tup vs) → IsAll G vs ds → Is G (.ref a) (.tuple ds)
inductive IsAll (G : Hp) : List V → List PyData → Prop
  | nil : IsAll G [] []
  | cons {v : V} {vs : List V} {d : PyData} {ds : List PyData} : Is G v d → IsAll G vs ds → IsAll G (v :: vs) (d :: ds)
end

def kD : Key → PyData
  | .inl i => .int i
  | .inr x => .str x
/-- a dict's pairs -/
inductive HD : Bool → HO → List (PyData × V) → Prop
  | k (kvs : List (Key × V)) : HD false (.dK kvs) (kvs.map fun p => (kD p.1, p.2))
  | t (kvs : List (List Key × V)) : HD true (.dT kvs) (kvs.map fun p => (.tuple (p.1.map kD), p.2))

mutual
inductive Own (K : PySem.W.Frag) (G H : Hp) : V → OD → List Addr → Prop
  | f {v : V} {d : PyData} : Is G v d → Own K G H v (.f d) []
  | l {a : Addr} {vs : List V} {ods : List OD} {fp : List Addr} : G a = none → H a = some (.lst vs) → OwnAll K G H vs ods fp → a ∉ fp → Own K G H (.ref a) (.l ods) (a :: fp)
  | m {t : Bool} {a : Addr} {o : HO} {kvs : List (PyData × V)} {mk : List (PyData × OD)} {fp : List Addr} : G a = none → H a = some o → HD t o kvs → OwnAll K G H (kvs.map Prod.snd) (mk.map Prod.snd) fp → a ∉ fp → kvs.map Prod.fst = mk.map Prod.fst → Own K G H (.ref a) (.m t mk) (a :: fp)
  | g {t : Bool} {a : Addr} {ob : Obj} {o : HO} {kvs : List (PyData × V)} {mk : List (PyData × PyData)} : G a = some (.frz ob o) → HD t o kvs → IsAll G (kvs.map Prod.snd) (mk.map Prod.snd) → kvs.map Prod.fst = mk.map Prod.fst → Own K G H (.ref a) (.g t mk) []
  | s {a : Addr} {vs : List V} {ds : List PyData} : SqL K G a vs → IsAll G vs ds → Own K G H (.ref a) (.s ds) []
inductive OwnAll (K : PySem.W.Frag) (G H : Hp) : List V → List OD → List Addr → Prop
  | nil : OwnAll K G H [] [] []
  | cons {v : V} {vs : List V} {od : OD} {ods : List OD} {f1 f2 : List Addr} : Own K G H v od f1 → OwnAll K G H vs ods f2 → (∀ b ∈ f1, b ∉ f2) → OwnAll K G H (v :: vs) (od :: ods) (f1 ++ f2)
end

mutual
theorem Is.same {G G' : Hp} (s : Same G G') : ∀ {v : V} {d : PyData}, Is G v d → Is G' v d
  | _, _, .non => .non
  | _, _, .bl b => .bl b
  | _, _, .int i => .int i
  | _, _, .str x => .str x
  | _, _, .lst h r => .lst (s _ _ h) (IsAll.same s r)
  | _, _, .tup h r => .tup (s _ _ h) (IsAll.same s r)
theorem IsAll.same {G G' : Hp} (s : Same G G') : ∀ {vs : List V} {ds : List PyData}, IsAll G vs ds → IsAll G' vs ds
  | _, _, .nil => .nil
  | _, _, .cons a b => .cons (Is.same s a) (IsAll.same s b)
end
mutual
theorem Is.dp {K : PySem.W.Frag} {G : Hp} : ∀ {v : V} {d : PyData}, Is G v d → Dp K G v d
  | _, _, .non => .non
  | _, _, .bl b => .bl b
  | _, _, .int i => .int i
  | _, _, .str x => .str x
  | _, _, .lst h r => .lst (SqL.of h) (IsAll.dp r)
  | _, _, .tup h r => .tup (SqT.of h) (IsAll.dp r)
theorem IsAll.dp {K : PySem.W.Frag} {G : Hp} : ∀ {vs : List V} {ds : List PyData}, IsAll G vs ds → DpAll K G vs ds
  | _, _, .nil => .nil
  | _, _, .cons a b => .cons (Is.dp a) (IsAll.dp b)
end
theorem IsAll.length {G : Hp} : ∀ {vs : List V} {ds : List PyData}, IsAll G vs ds → vs.length = ds.length
  | _, _, .nil => rfl
  | _, _, .cons _ b => congrArg (· + 1) (IsAll.length b)
theorem IsAll.get {G : Hp} : ∀ {vs : List V} {ds : List PyData}, IsAll G vs ds → ∀ {i : Nat} {d : PyData}, ds[i]? = some d → ∃ v, vs[i]? = some v ∧ Is G v d
  | _, _, .nil, i, d, e => by simp at e
  | _, _, .cons (v := v) a b, 0, d, e => by
    have e' := Option.some.inj e
    exact ⟨v, rfl, e' ▸ a⟩
  | _, _, .cons a b, i + 1, d, e => IsAll.get b (i := i) (by simpa using e)
theorem IsAll.getV {G : Hp} : ∀ {vs : List V} {ds : List PyData}, IsAll G vs ds → ∀ {i : Nat} {v : V}, vs[i]? = some v → ∃ d, ds[i]? = some d ∧ Is G v d
  | _, _, .nil, i, d, e => by simp at e
  | _, _, .cons (d := d) a b, 0, v, e => by
    have e' := Option.some.inj e
    exact ⟨d, rfl, e' ▸ a⟩
  | _, _, .cons a b, i + 1, d, e => IsAll.getV b (i := i) (by simpa using e)
theorem IsAll.append {G : Hp} : ∀ {vs ws : List V} {ds es : List PyData}, IsAll G vs ds → IsAll G ws es → IsAll G (vs ++ ws) (ds ++ es)
  | _, _, _, _, .nil, b => b
  | _, _, _, _, .cons a r, b => .cons a (IsAll.append r b)
theorem IsAll.drop {G : Hp} : ∀ (n : Nat) {vs : List V} {ds : List PyData}, IsAll G vs ds → IsAll G (vs.drop n) (ds.drop n)
  | 0, _, _, h => h
  | _ + 1, _, _, .nil => .nil
  | n + 1, _, _, .cons _ r => IsAll.drop n r
theorem IsAll.take {G : Hp} : ∀ (n : Nat) {vs : List V} {ds : List PyData}, IsAll G vs ds → IsAll G (vs.take n) (ds.take n)
  | 0, _, _, _ => .nil
  | _ + 1, _, _, .nil => .nil
  | n + 1, _, _, .cons a r => .cons a (IsAll.take n r)
theorem IsAll.reverse {G : Hp} : ∀ {vs : List V} {ds : List PyData}, IsAll G vs ds → IsAll G vs.reverse ds.reverse
  | _, _, .nil => .nil
  | _, _, .cons a r => by
    rw [List.reverse_cons, List.reverse_cons]
    exact (IsAll.reverse r).append (.cons a .nil)
theorem IsAll.eraseIdx {G : Hp} : ∀ (n : Nat) {vs : List V} {ds : List PyData}, IsAll G vs ds → IsAll G (vs.eraseIdx n) (ds.eraseIdx n)
  | _, _, _, .nil => .nil
  | 0, _, _, .cons _ r => r
  | n + 1, _, _, .cons a r => .cons a (IsAll.eraseIdx n r)
theorem rd_same {G G' : Hp} (s : Same G G') {a : Addr} {u : HO} (h : Rd G a u) : Rd G' a u := by
  rcases h with q | ⟨o, q⟩
  · exact .inl (s _ _ q)
  · exact .inr ⟨o, s _ _ q⟩

/-- from (G, H) to (G', H'): only what U says is written -/
structure Ext (U : Addr → Prop) (G H G' H' : Hp) : Prop where
  gg : Same G G'
  keep : ∀ b o, H b = some o → ¬ U b → H' b = some o
  there : ∀ b o, H b = some o → ∃ o', H' b = some o'
  gnew : ∀ b o, G' b = some o → G b = some o ∨ U b ∨ H b = none ∨ ∃ xs, H b = some (.tup xs)
theorem Ext.refl (U : Addr → Prop) (G H : Hp) : Ext U G H G H := ⟨Same.refl _, fun _ _ h _ => h, fun _ o h => ⟨o, h⟩, fun _ _ h => .inl h⟩
theorem Ext.fresh {U : Addr → Prop} {G H G' H' : Hp} (x : Ext U G H G' H') {b : Addr} (h : H' b = none) : H b = none := by
  cases q : H b with
  | none => rfl
  | some o =>
    obtain ⟨o', e⟩ := x.there b o q
    rw [h] at e
    cases e
theorem Ext.trans {U U1 : Addr → Prop} {G H G1 H1 G2 H2 : Hp} (a : Ext U G H G1 H1) (b : Ext U1 G1 H1 G2 H2) (hu : ∀ c, U1 c → U c ∨ H c = none) : Ext U G H G2 H2 where
  gg := a.gg.trans b.gg
  keep := fun c o h n => b.keep c o (a.keep c o h n) fun z => (hu c z).elim n (fun q => by rw [h] at q; cases q)
  there := fun c o h => by
    obtain ⟨o1, e⟩ := a.there c o h
    exact b.there c o1 e
  gnew := fun c o h => by
    rcases b.gnew c o h with q | q | q | ⟨xs, q⟩
    · exact a.gnew c o q
    · exact .inr ((hu c q).imp id .inl)
    · exact .inr (.inr (.inl (a.fresh q)))
    · cases e : H c with
      | none => exact .inr (.inr (.inl rfl))
      | some u =>
        by_cases hU : U c
        · exact .inr (.inl hU)
        · have e2 := a.keep c u e hU
          rw [q] at e2
          cases e2
          exact .inr (.inr (.inr ⟨xs, rfl⟩))
theorem Ext.mono {U U' : Addr → Prop} {G H G' H' : Hp} (a : Ext U G H G' H') (hu : ∀ c, U c → U' c) : Ext U' G H G' H' :=
  ⟨a.gg, fun c o h n => a.keep c o h fun z => n (hu c z), a.there, fun c o h => (a.gnew c o h).imp id (Or.imp (hu c) id)⟩
theorem Ext.gfree {U : Addr → Prop} {G H G' H' : Hp} (a : Ext U G H G' H') {b : Addr} {o : HO} (g : G b = none) (h : H b = some o) (n : ¬ U b) (ht : ∀ xs, o ≠ .tup xs) : G' b = none := by
  cases q : G' b with
  | none => rfl
  | some u =>
    rcases a.gnew b u q with z | z | z | ⟨xs, z⟩
    · rw [g] at z; cases z
    · exact (n z).elim
    · rw [h] at z; cases z
    · rw [h] at z; cases z; exact absurd rfl (ht xs)
theorem HD.nt {t : Bool} {o : HO} {kvs : List (PyData × V)} (h : HD t o kvs) (xs : List V) : o ≠ .tup xs := by
  cases h <;> exact fun z => by cases z

mutual
theorem Own.ext {K : PySem.W.Frag} {U : Addr → Prop} {G H G' H' : Hp} (x : Ext U G H G' H') : ∀ {v : V} {od : OD} {fp : List Addr}, Own K G H v od fp → (∀ b ∈ fp, ¬ U b) → Own K G' H' v od fp
  | _, _, _, .f h, _ => .f (h.same x.gg)
  | _, _, _, .l g h r n, u => .l (x.gfree g h (u _ List.mem_cons_self) (fun _ z => by cases z)) (x.keep _ _ h (u _ List.mem_cons_self)) (OwnAll.ext x r fun b hb => u b (List.mem_cons_of_mem _ hb)) n
  | _, _, _, .m g h q r n e, u => .m (x.gfree g h (u _ List.mem_cons_self) q.nt) (x.keep _ _ h (u _ List.mem_cons_self)) q (OwnAll.ext x r fun b hb => u b (List.mem_cons_of_mem _ hb)) n e
  | _, _, _, .g a q r e, _ => .g (x.gg _ _ a) q (r.same x.gg) e
  | _, _, _, .s q r, _ => .s (x.gg.seq q) (r.same x.gg)
theorem OwnAll.ext {K : PySem.W.Frag} {U : Addr → Prop} {G H G' H' : Hp} (x : Ext U G H G' H') : ∀ {vs : List V} {ods : List OD} {fp : List Addr}, OwnAll K G H vs ods fp → (∀ b ∈ fp, ¬ U b) → OwnAll K G' H' vs ods fp
  | _, _, _, .nil, _ => .nil
  | _, _, _, .cons a r n, u => .cons (Own.ext x a fun b hb => u b (List.mem_append_left _ hb)) (OwnAll.ext x r fun b hb => u b (List.mem_append_right _ hb)) n
end
mutual
theorem Own.is {K : PySem.W.Frag} {G H H2 : Hp} (s : Same G H2) : ∀ {v : V} {od : OD} {fp : List Addr}, Own K G H v od fp → (∀ b ∈ fp, ∀ o, H b = some o → H2 b = some o) → ∀ {d : PyData}, od.er = some d → Is H2 v d
  | _, _, _, .f h, _, d, e => by
    have e' := Option.some.inj e
    rw [← e']
    exact h.same s
  | _, _, _, .l (ods := ods) g h r n, k, d, e => by
    have e' : (OD.ers ods).map PyData.list = some d := by rw [← e]; rfl
    obtain ⟨ds, q, rfl⟩ := Option.map_eq_some_iff.mp e'
    exact .lst (k _ List.mem_cons_self _ h) (OwnAll.is s r (fun b hb => k b (List.mem_cons_of_mem _ hb)) q)
  | _, _, _, .m .., _, d, e => by cases e
  | _, _, _, .g .., _, d, e => by cases e
  | _, _, _, .s .., _, d, e => by cases e
theorem OwnAll.is {K : PySem.W.Frag} {G H H2 : Hp} (s : Same G H2) : ∀ {vs : List V} {ods : List OD} {fp : List Addr}, OwnAll K G H vs ods fp → (∀ b ∈ fp, ∀ o, H b = some o → H2 b = some o) → ∀ {ds : List PyData}, OD.ers ods = some ds → IsAll H2 vs ds
  | _, _, _, .nil, _, ds, e => by cases e; exact .nil
  | _, _, _, .cons (od := od) (ods := ods) a r n, k, ds, e => by
    unfold OD.ers at e
    cases e1 : OD.er od with
    | none => rw [e1] at e; cases e
    | some d =>
      cases e2 : OD.ers ods with
      | none => rw [e1, e2] at e; cases e
      | some ds' =>
        rw [e1, e2] at e
        cases e
        exact .cons (Own.is s a (fun b hb => k b (List.mem_append_left _ hb)) e1) (OwnAll.is s r (fun b hb => k b (List.mem_append_right _ hb)) e2)
end
theorem Own.dp {K : PySem.W.Frag} {G H : Hp} (s : Same G H) {v : V} {od : OD} {fp : List Addr} (h : Own K G H v od fp) {d : PyData} (e : od.dt = some d) : Dp K H v d := by
  cases h with
  | s q r =>
    cases e
    exact .lst (s.seq q) (r.same s).dp
  | f h => exact ((Own.f (K := K) (H := H) h).is s (fun _ _ _ e => e) e).dp
  | l a b c d => exact ((Own.l a b c d).is s (fun _ _ _ e => e) e).dp
  | m a b c d e f => cases e
  | g a b c d => cases e
/-! the footprint is tracked, and not frozen -/
mutual
theorem Own.foot {K : PySem.W.Frag} {G H : Hp} : ∀ {v : V} {od : OD} {fp : List Addr}, Own K G H v od fp → ∀ b ∈ fp, G b = none ∧ ∃ o, H b = some o
  | _, _, _, .f h, b, hb => nomatch hb
  | _, _, _, .l g h r n, b, hb => by
    rcases List.mem_cons.mp hb with e | hb
    · subst e; exact ⟨g, _, h⟩
    · exact OwnAll.foot r b hb
  | _, _, _, .m g h q r n e, b, hb => by
    rcases List.mem_cons.mp hb with e | hb
    · subst e; exact ⟨g, _, h⟩
    · exact OwnAll.foot r b hb
  | _, _, _, .g a q r e, b, hb => nomatch hb
  | _, _, _, .s q r, b, hb => nomatch hb
theorem OwnAll.foot {K : PySem.W.Frag} {G H : Hp} : ∀ {vs : List V} {ods : List OD} {fp : List Addr}, OwnAll K G H vs ods fp → ∀ b ∈ fp, G b = none ∧ ∃ o, H b = some o
  | _, _, _, .nil, b, hb => nomatch hb
  | _, _, _, .cons a r n, b, hb => by
    rcases List.mem_append.mp hb with hb | hb
    · exact Own.foot a b hb
    · exact OwnAll.foot r b hb
end
/-- what is owned is frozen -/
def frzn (fp : List Addr) (G H : Hp) : Hp := fun b => if b ∈ fp then H b else G b
theorem frzn_in {fp : List Addr} {G H : Hp} {b : Addr} (h : b ∈ fp) : frzn fp G H b = H b := by
  unfold frzn
  rw [if_pos h]
theorem frzn_out {fp : List Addr} {G H : Hp} {b : Addr} (h : b ∉ fp) : frzn fp G H b = G b := by
  unfold frzn
  rw [if_neg h]
theorem Own.freeze {K : PySem.W.Frag} {G H : Hp} {v : V} {od od' : OD} {fp : List Addr} (w : Own K G H v od fp) (s : Same G H) (e : od.fz = some od') :
    ∃ G', Same G G' ∧ Same G' H ∧ (∀ b o, G' b = some o → G b = some o ∨ b ∈ fp) ∧ Own K G' H v od' [] := by
  have ft := w.foot
  have s1 : Same G (frzn fp G H) := fun b o q => by
    by_cases hb : b ∈ fp
    · rw [(ft b hb).1] at q; cases q
    · rw [frzn_out hb]; exact q
  have s2 : Same (frzn fp G H) H := fun b o q => by
    by_cases hb : b ∈ fp
    · rw [frzn_in hb] at q; exact q
    · rw [frzn_out hb] at q; exact s b o q
  have k : ∀ b ∈ fp, ∀ o, H b = some o → frzn fp G H b = some o := fun b hb o q => by rw [frzn_in hb]; exact q
  refine ⟨frzn fp G H, s1, s2, fun b o q => ?_, ?_⟩
  · by_cases hb : b ∈ fp
    · exact .inr hb
    · rw [frzn_out hb] at q; exact .inl q
  · cases w with
    | f h =>
      cases e
      exact .f (h.same s1)
    | l a b c d =>
      unfold OD.fz at e
      obtain ⟨ds, q, rfl⟩ := Option.map_eq_some_iff.mp e
      refine .f ((Own.l a b c d).is s1 k ?_)
      show (OD.ers _).map PyData.list = _
      rw [q]
      rfl
    | m => cases e
    | g a b c d =>
      cases e
      exact .g (s1 _ _ a) b (c.same s1) d
    | s a b =>
      cases e
      exact .s (s1.seq a) (b.same s1)
end DL
set_option Elab.async false
set_option linter.all false
set_option maxRecDepth 100000
set_option maxHeartbeats 4000000
namespace DL
open PySem PySem.Spec PyProof.Rows L2

abbrev St := L2.St
/-- an end: a value, an exception (its class's number, what it has), or nothing is said -/
structure XD where
  c : Nat
  pay : Option (Str × PyData)
inductive Res (α : Type) where
  | ok (a : α)
  | exc (x : XD)
  | stuck
def Res.bind {α β : Type} : Res α → (α → Res β) → Res β
  | .ok a, k => k a
  | .exc x, _ => .exc x
  | .stuck, _ => .stuck
@[simp] theorem Res.bind_ok {α β : Type} (a : α) (k : α → Res β) : (Res.ok a).bind k = k a := rfl
@[simp] theorem Res.bind_exc {α β : Type} (x : XD) (k : α → Res β) : (Res.exc x).bind k = .exc x := rfl
@[simp] theorem Res.bind_stuck {α β : Type} (k : α → Res β) : (Res.stuck : Res α).bind k = .stuck := rfl
def Res.of {α : Type} : Option α → Res α
  | some a => .ok a
  | none => .stuck
@[simp] theorem Res.of_some {α : Type} (a : α) : Res.of (some a) = .ok a := rfl
@[simp] theorem Res.of_none {α : Type} : Res.of (none : Option α) = .stuck := rfl

def FG {α : Type} (E : XD → Prop) (p : α → Prop) : Res α → Prop
  | .ok a => p a
  | .exc x => E x
  | .stuck => False
theorem FG.bind {α β : Type} {E E' : XD → Prop} {p : β → Prop} {p' : α → Prop} {r : Res α} {k : α → Res β} (h : FG E p (r.bind k)) (he : ∀ x, E x → E' x) (hk : ∀ a, r = .ok a → FG E p (k a) → p' a) : FG E' p' r := by
  cases r with
  | ok a => exact hk a rfl h
  | exc x => exact he x h
  | stuck => exact h
theorem FG.mono {α : Type} {E E' : XD → Prop} {p p' : α → Prop} {r : Res α} (h : FG E p r) (he : ∀ x, E x → E' x) (hp : ∀ a, p a → p' a) : FG E' p' r := by
  cases r with
  | ok a => exact hp a h
  | exc x => exact he x h
  | stuck => exact h
theorem FG.of {α β : Type} {E : XD → Prop} {p : β → Prop} {o : Option α} {k : α → Res β} (h : FG E p ((Res.of o).bind k)) : ∃ a, o = some a ∧ FG E p (k a) := by
  cases o with
  | some a => exact ⟨a, rfl, h⟩
  | none => exact False.elim h

abbrev Ft := Nat → List Addr
def foot (F : Ft) (b : Addr) : Prop := ∃ i, b ∈ F i
/-- the slots' data, and where they stand -/
structure Rel (K : PySem.W.Frag) (G H : Hp) (sg : Sg) (σ : St) (F : Ft) : Prop where
  sub : Same G H
  get : ∀ i od, sg[i]? = some (some od) → ∃ v, σ[i]? = some (some v) ∧ Own K G H v od (F i)
  non : ∀ i, (∀ od, sg[i]? ≠ some (some od)) → F i = []
  dis : ∀ i j, i ≠ j → ∀ b ∈ F i, b ∉ F j
  len : σ.length = sg.length
structure At (K : PySem.W.Frag) (G0 H0 : Hp) (F0 : Ft) (sg : Sg) (σ : St) (G H : Hp) (F : Ft) : Prop where
  ext : Ext (foot F0) G0 H0 G H
  rel : Rel K G H sg σ F
  sub : ∀ b, foot F b → foot F0 b ∨ H0 b = none
theorem At.refl {K : PySem.W.Frag} {G H : Hp} {F : Ft} {sg : Sg} {σ : St} (r : Rel K G H sg σ F) : At K G H F sg σ G H F := ⟨Ext.refl _ _ _, r, fun _ h => .inl h⟩
theorem fresh_sub {F0 F1 : Ft} {G0 H0 G1 H1 : Hp} (e : Ext (foot F0) G0 H0 G1 H1) (s : ∀ b, foot F1 b → foot F0 b ∨ H0 b = none) {b : Addr} (h : foot F1 b ∨ H1 b = none) : foot F0 b ∨ H0 b = none :=
  h.elim (s b) fun z => .inr (e.fresh z)
theorem At.trans {K : PySem.W.Frag} {G0 H0 G1 H1 G2 H2 : Hp} {F0 F1 F2 : Ft} {s1 s2 : Sg} {σ σ2 : St} (a : At K G0 H0 F0 s1 σ G1 H1 F1) (b : At K G1 H1 F1 s2 σ2 G2 H2 F2) : At K G0 H0 F0 s2 σ2 G2 H2 F2 :=
  ⟨a.ext.trans b.ext a.sub, b.rel, fun c h => fresh_sub a.ext a.sub (b.sub c h)⟩

/-- an operand: a value, or what a slot holds -/
inductive Opd where
  | v (od : OD)
  | i (n : Nat)
def Opd.od (sg : Sg) : Opd → Option OD
  | .v od => some od
  | .i n => match sg[n]? with
    | some (some od) => some od
    | _ => none
inductive Opn (K : PySem.W.Frag) (G H : Hp) (F : Ft) (σ : St) : V → Opd → List Addr → Prop
  | v {v : V} {od : OD} {fp : List Addr} : Own K G H v od fp → (∀ b ∈ fp, ¬ foot F b) → Opn K G H F σ v (.v od) fp
  | i {v : V} {n : Nat} : σ[n]? = some (some v) → Opn K G H F σ v (.i n) []
theorem Opn.own {K : PySem.W.Frag} {G H : Hp} {F : Ft} {σ : St} {sg : Sg} {v : V} {o : Opd} {fp : List Addr} {od : OD} (r : Rel K G H sg σ F) (h : Opn K G H F σ v o fp) (e : o.od sg = some od) : ∃ fp', Own K G H v od fp' := by
  cases h with
  | v h n =>
    cases e
    exact ⟨_, h⟩
  | @i n h =>
    unfold Opd.od at e
    cases q : sg[n]? with
    | none => simp only [q] at e; cases e
    | some x =>
      cases x with
      | none => simp only [q] at e; cases e
      | some od' =>
        simp only [q] at e
        cases e
        obtain ⟨v', e1, w⟩ := r.get n od q
        rw [h] at e1
        cases e1
        exact ⟨_, w⟩
theorem Opn.foot {K : PySem.W.Frag} {G H : Hp} {F : Ft} {σ : St} {v : V} {o : Opd} {fp : List Addr} (h : Opn K G H F σ v o fp) : ∀ b ∈ fp, G b = none ∧ (∃ u, H b = some u) ∧ ¬ DL.foot F b := by
  cases h with
  | v h n => exact fun b hb => ⟨(h.foot b hb).1, (h.foot b hb).2, n b hb⟩
  | i h => exact fun b hb => nomatch hb
theorem Opn.later {K : PySem.W.Frag} {G1 H1 G2 H2 : Hp} {F1 F2 : Ft} {s2 : Sg} {σ : St} {v : V} {o : Opd} {fp : List Addr} (h : Opn K G1 H1 F1 σ v o fp) (a : At K G1 H1 F1 s2 σ G2 H2 F2) : Opn K G2 H2 F2 σ v o fp := by
  cases h with
  | v h n =>
    refine .v (h.ext a.ext n) fun b hb z => ?_
    obtain ⟨_, u, e⟩ := h.foot b hb
    rcases a.sub b z with q | q
    · exact n b hb q
    · rw [e] at q; cases q
  | i h => exact .i h
/-- the data of an operand -/
def Opd.dat (sg : Sg) (o : Opd) : Option PyData := (o.od sg).bind OD.dt
theorem Opn.dp {K : PySem.W.Frag} {G H : Hp} {F : Ft} {σ : St} {sg : Sg} {v : V} {o : Opd} {fp : List Addr} {d : PyData} (r : Rel K G H sg σ F) (h : Opn K G H F σ v o fp) (e : o.dat sg = some d) : Dp K H v d := by
  unfold Opd.dat at e
  cases q : o.od sg with
  | none => rw [q] at e; cases e
  | some od =>
    rw [q] at e
    obtain ⟨fp', w⟩ := h.own r q
    exact w.dp r.sub e

/-- what a context fixes -/
structure Ctx where
  P : Program
  w : World
  K : PySem.W.Frag
  mg : Str → Option Value
  base : Heap
  N : List Str
  sc : Scope
  k : Nat
  xc : Nat → Addr
  io : Bool
  fn : Str → Bool
structure Ctx.Ok (C : Ctx) (X : Cx) : Prop where
  P : X.prog = C.P
  w : X.w = C.w
  K : X.K = C.K
  mg : X.mg = C.mg
  base : X.base = C.base
  N : X.N = C.N
  sc : X.env.scope = C.sc
  calm : X.calm = true
  room : Room C.k X.A
  nd : C.N.Nodup
  fn : ∀ x, C.fn x = true → X.fn x = true

/-- what is wished of an exception -/
def PayOk (K : PySem.W.Frag) (G H : Hp) (d : Option Addr) : Option (Str × PyData) → Prop
  | none => d = none
  | some (n, p) => ∃ a v, d = some a ∧ H a = some (.xd [(n, v)]) ∧ Is G v p
def ExcW (C : Ctx) (W : WX) (G0 H0 : Hp) (F0 : Ft) (σ : St) (x : XD) : Prop := ∀ G H d, Ext (foot F0) G0 H0 G H → Same G H → PayOk C.K G H d x.pay → W (.ref (C.xc x.c)) d σ H
theorem ExcW.later {C : Ctx} {W : WX} {G0 H0 G1 H1 : Hp} {F0 F1 : Ft} {s1 : Sg} {σ σ1 : St} {x : XD} (h : ExcW C W G0 H0 F0 σ x) (a : At C.K G0 H0 F0 s1 σ1 G1 H1 F1) : ExcW C W G1 H1 F1 σ x :=
  fun G H d e s p => h G H d (a.ext.trans e a.sub) s p

/-- a value that is held: from the start (G0, H0, F0) -/
structure Hv (K : PySem.W.Frag) (H0 : Hp) (F0 : Ft) (G H : Hp) (F : Ft) (σ : St) (v : V) (o : Opd) (fp : List Addr) : Prop where
  opn : Opn K G H F σ v o fp
  fps : ∀ b ∈ fp, foot F0 b ∨ H0 b = none
theorem Hv.later {K : PySem.W.Frag} {H0 G1 H1 G2 H2 : Hp} {F0 F1 F2 : Ft} {s2 : Sg} {σ : St} {v : V} {o : Opd} {fp : List Addr} (h : Hv K H0 F0 G1 H1 F1 σ v o fp) (a : At K G1 H1 F1 s2 σ G2 H2 F2) : Hv K H0 F0 G2 H2 F2 σ v o fp := ⟨h.opn.later a, h.fps⟩
theorem Hv.early {K : PySem.W.Frag} {G0 H0 G1 H1 G2 H2 : Hp} {F0 F1 F2 : Ft} {s1 : Sg} {σ σ1 : St} {v : V} {o : Opd} {fp : List Addr} (a : At K G0 H0 F0 s1 σ1 G1 H1 F1) (h : Hv K H1 F1 G2 H2 F2 σ v o fp) : Hv K H0 F0 G2 H2 F2 σ v o fp := ⟨h.opn, fun b hb => fresh_sub a.ext a.sub (h.fps b hb)⟩
/-- two held values do not meet, if the second came later -/
theorem Hv.apart {K : PySem.W.Frag} {H0 G1 H1 G2 H2 : Hp} {F0 F1 F2 : Ft} {σ : St} {v1 v2 : V} {o1 o2 : Opd} {fp1 fp2 : List Addr} (h1 : Hv K H0 F0 G1 H1 F1 σ v1 o1 fp1) (h2 : Hv K H1 F1 G2 H2 F2 σ v2 o2 fp2) : ∀ b ∈ fp1, b ∉ fp2 := fun b hb z => by
  obtain ⟨_, ⟨u, e⟩, n⟩ := h1.opn.foot b hb
  rcases h2.fps b z with q | q
  · exact n q
  · rw [e] at q; cases q

/-- an operand is taken: a slot's own is frozen -/
def takeO (o : Opd) (sg : Sg) : Option (OD × Sg) := match o with
  | .v od => some (od, sg)
  | .i n => match sg[n]? with
    | some (some od) => od.fz.map fun od' => (od', sg.set n (some od'))
    | _ => none
theorem set_get {α : Type} {l : List α} {n i : Nat} {x : α} : (l.set n x)[i]? = if i = n then (if n < l.length then some x else none) else l[i]? := by
  by_cases h : i = n
  · subst h
    rw [if_pos rfl]
    by_cases hl : i < l.length
    · rw [if_pos hl, List.getElem?_set_self hl]
    · rw [if_neg hl, List.getElem?_eq_none (by rw [List.length_set]; omega)]
  · rw [if_neg h, List.getElem?_set_ne (Ne.symm h)]
/-- a slot's footprint anew -/
def Ft.put (F : Ft) (n : Nat) (fp : List Addr) : Ft := fun j => if j = n then fp else F j
theorem Ft.put_same (F : Ft) (n : Nat) (fp : List Addr) : F.put n fp n = fp := if_pos rfl
theorem Ft.put_ne (F : Ft) {n j : Nat} (fp : List Addr) (h : j ≠ n) : F.put n fp j = F j := if_neg h
theorem foot_put {F : Ft} {n : Nat} {fp : List Addr} {b : Addr} (h : foot (F.put n fp) b) : b ∈ fp ∨ foot F b := by
  obtain ⟨j, hj⟩ := h
  by_cases e : j = n
  · subst e
    rw [F.put_same] at hj
    exact .inl hj
  · rw [F.put_ne fp e] at hj
    exact .inr ⟨j, hj⟩
theorem foot_put2 {F : Ft} {n : Nat} {fp : List Addr} {b : Addr} (h : foot (F.put n fp) b) : b ∈ fp ∨ ∃ j, j ≠ n ∧ b ∈ F j := by
  obtain ⟨j, hj⟩ := h
  by_cases e : j = n
  · subst e
    rw [F.put_same] at hj
    exact .inl hj
  · rw [F.put_ne fp e] at hj
    exact .inr ⟨j, e, hj⟩
theorem Rel.tracked {K : PySem.W.Frag} {G H : Hp} {sg : Sg} {σ : St} {F : Ft} (r : Rel K G H sg σ F) : ∀ b, foot F b → G b = none ∧ ∃ o, H b = some o := fun b ⟨i, hb⟩ => by
  by_cases q : ∃ od, sg[i]? = some (some od)
  · obtain ⟨od, q⟩ := q
    obtain ⟨u, _, w1⟩ := r.get i od q
    exact w1.foot b hb
  · rw [r.non i fun od z => q ⟨od, z⟩] at hb
    cases hb
/-- one slot is another: the rest as it was -/
theorem Rel.put {K : PySem.W.Frag} {G H G' H' : Hp} {sg : Sg} {σ : St} {F : Ft} {n : Nat} {v : V} {od : OD} {fp : List Addr} (r : Rel K G H sg σ F) (x : Ext (· ∈ F n) G H G' H') (s : Same G' H') (hn : n < sg.length) (hσ : σ[n]? = some (some v))
    (w : Own K G' H' v od fp) (hf : ∀ b ∈ fp, b ∈ F n ∨ ¬ foot F b) : Rel K G' H' (sg.set n (some od)) σ (F.put n fp) where
  sub := s
  get := fun i od' e => by
    rw [set_get] at e
    by_cases h : i = n
    · subst h
      rw [if_pos rfl, if_pos hn] at e
      cases e
      rw [F.put_same]
      exact ⟨v, hσ, w⟩
    · rw [if_neg h] at e
      rw [F.put_ne fp h]
      obtain ⟨u, e1, w1⟩ := r.get i od' e
      exact ⟨u, e1, w1.ext x fun b hb => r.dis i n h b hb⟩
  non := fun i e => by
    by_cases h : i = n
    · subst h
      exact absurd (by rw [set_get, if_pos rfl, if_pos hn]) (e od)
    · rw [F.put_ne fp h]
      exact r.non i fun od' q => e od' (by rw [set_get, if_neg h]; exact q)
  dis := fun i j hij b hb => by
    by_cases hi : i = n
    · subst hi
      rw [F.put_same] at hb
      rw [F.put_ne fp (Ne.symm hij)]
      intro z
      rcases hf b hb with q | q
      · exact r.dis i j hij b q z
      · exact q ⟨j, z⟩
    · rw [F.put_ne fp hi] at hb
      by_cases hj : j = n
      · subst hj
        rw [F.put_same]
        intro z
        rcases hf b z with q | q
        · exact r.dis i j hij b hb q
        · exact q ⟨i, hb⟩
      · rw [F.put_ne fp hj]
        exact r.dis i j hij b hb
  len := by
    rw [List.length_set]
    exact r.len
/-- a slot's own is written -/
theorem At.write {K : PySem.W.Frag} {G0 H0 G H G' H' : Hp} {F0 F : Ft} {sg : Sg} {σ : St} {n : Nat} {v : V} {od : OD} {fp : List Addr} (a : At K G0 H0 F0 sg σ G H F) (x : Ext (· ∈ F n) G H G' H') (s : Same G' H') (hn : n < sg.length)
    (hσ : σ[n]? = some (some v)) (w : Own K G' H' v od fp) (hf : ∀ b ∈ fp, b ∈ F n ∨ (¬ foot F b ∧ (foot F0 b ∨ H0 b = none))) : At K G0 H0 F0 (sg.set n (some od)) σ G' H' (F.put n fp) :=
  ⟨a.ext.trans x fun b hb => a.sub b ⟨n, hb⟩, a.rel.put x s hn hσ w fun b hb => (hf b hb).imp id (·.1), fun b hb => by
    rcases foot_put hb with z | z
    · exact (hf b z).elim (fun q => a.sub b ⟨n, q⟩) (·.2)
    · exact a.sub b z⟩
theorem At.take {K : PySem.W.Frag} {H0 G H : Hp} {F0 F : Ft} {sg sg' : Sg} {σ : St} {v : V} {o : Opd} {od : OD} {fp : List Addr} (r : Rel K G H sg σ F) (h : Hv K H0 F0 G H F σ v o fp) (e : takeO o sg = some (od, sg')) :
    ∃ G' F' fp', At K G H F sg' σ G' H F' ∧ Own K G' H v od fp' ∧ (∀ b ∈ fp', ¬ foot F' b) ∧ ∀ b ∈ fp', foot F0 b ∨ H0 b = none := by
  obtain ⟨hn, hf⟩ := h
  cases hn with
  | v w n =>
    cases e
    exact ⟨G, F, fp, .refl r, w, n, hf⟩
  | @i n h =>
    have e : (match sg[n]? with
      | some (some od) => od.fz.map fun od' => (od', sg.set n (some od'))
      | _ => none) = some (od, sg') := e
    cases q : sg[n]? with
    | none => simp only [q] at e; cases e
    | some x =>
      cases x with
      | none => simp only [q] at e; cases e
      | some od1 =>
        simp only [q] at e
        obtain ⟨od2, e2, e3⟩ := Option.map_eq_some_iff.mp e
        cases e3
        obtain ⟨v', e4, w⟩ := r.get n od1 q
        rw [h] at e4
        cases e4
        obtain ⟨G', s1, s2, s3, w'⟩ := w.freeze r.sub e2
        have x : Ext (· ∈ F n) G H G' H := ⟨s1, fun _ _ e _ => e, fun _ o e => ⟨o, e⟩, fun b o e => (s3 b o e).imp id fun z => .inl z⟩
        have hl : n < sg.length := (List.getElem?_eq_some_iff.mp q).1
        refine ⟨G', F.put n [], [], ⟨x.mono fun b hb => ⟨n, hb⟩, r.put x s2 hl h w' (fun _ z => by cases z), fun b hb => ?_⟩, w', (fun _ z => by cases z), (fun _ z => by cases z)⟩
        rcases foot_put hb with z | z
        · cases z
        · exact .inl z

/-! ### expressions -/
def okE (K : PySem.W.Frag) (G0 H0 : Hp) (F0 : Ft) (σ : St) (Q : VK) (r : Opd × Sg) : Prop := ∀ v G H F fp, At K G0 H0 F0 r.2 σ G H F → Hv K H0 F0 G H F σ v r.1 fp → Q v H
def RE (C : Ctx) (W : WX) (r : Res (Opd × Sg)) (sg : Sg) : TE := fun σ H Q => ∃ G F, Rel C.K G H sg σ F ∧ FG (ExcW C W G H F σ) (okE C.K G H F σ Q) r
def DE (C : Ctx) (e : Expr) (f : Sg → Res (Opd × Sg)) : Prop := ∀ X, C.Ok X → ∀ W, Takes X W → ∀ sg, PE X e (RE C W (f sg) sg)
def nxt {α : Type} : Res (α × Sg) → Sg
  | .ok (_, s) => s
  | _ => []
theorem pe_weak {X : Cx} {e : Expr} {t t' : TE} (h : PE X e t) (w : ∀ σ H Q, t' σ H Q → t σ H Q) : PE X e t' := ⟨fun pins s σ H Q I q => h.run pins s σ H Q I (w σ H Q q)⟩
theorem pt_weak {X : Cx} {e : Expr} {t t' : TT} (h : PT X e t) (w : ∀ σ H Q, t' σ H Q → t σ H Q) : PT X e t' := ⟨fun pins s σ H Q I q => h.run pins s σ H Q I (w σ H Q q)⟩
theorem pa_weak {X : Cx} {es : List Expr} {t t' : TA} (h : PA X es t) (w : ∀ σ H Q, t' σ H Q → t σ H Q) : PA X es t' := ⟨fun pos pins s σ H Q I q => h.run pos pins s σ H Q I (w σ H Q q)⟩
theorem ps_weak {X : Cx} {st : Stmt} {t t' : TS} (h : PS X st t) (w : ∀ D σ H, t' D σ H → t D σ H) : PS X st t' := ⟨fun pins s σ H D I q => h.run pins s σ H D I (w D σ H q)⟩
theorem pss_weak {X : Cx} {st : List Stmt} {t t' : TS} (h : PSs X st t) (w : ∀ D σ H, t' D σ H → t D σ H) : PSs X st t' := ⟨fun pins s σ H D I q => h.run pins s σ H D I (w D σ H q)⟩

/-- the first part of a row: its reading, from that of the whole -/
theorem RE.fst {C : Ctx} {W : WX} {β : Type} {r : Res (Opd × Sg)} {k : Opd × Sg → Res β} {sg : Sg} {σ : St} {H : Hp} {Q : VK} {G : Hp} {F : Ft} {p : β → Prop}
    (R : Rel C.K G H sg σ F) (h : FG (ExcW C W G H F σ) p (r.bind k)) (hk : ∀ o s1 v G1 H1 F1 fp, r = .ok (o, s1) → FG (ExcW C W G H F σ) p (k (o, s1)) → At C.K G H F s1 σ G1 H1 F1 → Hv C.K H F G1 H1 F1 σ v o fp → Q v H1) : RE C W r sg σ H Q :=
  ⟨G, F, R, h.bind (fun _ e => e) fun a ea q v G1 H1 F1 fp at1 hv => hk a.1 a.2 v G1 H1 F1 fp ea q at1 hv⟩
/-- two in a row -/
structure Two (C : Ctx) (G0 H0 : Hp) (F0 : Ft) (s2 : Sg) (σ : St) (x y : Opd) (v1 v2 : V) (G H : Hp) (F : Ft) (f1 f2 : List Addr) : Prop where
  at2 : At C.K G0 H0 F0 s2 σ G H F
  h1 : Hv C.K H0 F0 G H F σ v1 x f1
  h2 : Hv C.K H0 F0 G H F σ v2 y f2
  dis : ∀ b ∈ f1, b ∉ f2
theorem two_rd {C : Ctx} {W : WX} {β : Type} {fa fb : Sg → Res (Opd × Sg)} {k : Opd → Opd → Sg → Res β} {sg : Sg} {σ : St} {H : Hp} {G : Hp} {F : Ft} {p : β → Prop} {r : V → V → Hp → Prop}
    (R : Rel C.K G H sg σ F) (h : FG (ExcW C W G H F σ) p ((fa sg).bind fun a => (fb a.2).bind fun b => k a.1 b.1 b.2))
    (hr : ∀ x y s2 v1 v2 G2 H2 F2 f1 f2, Two C G H F s2 σ x y v1 v2 G2 H2 F2 f1 f2 → FG (ExcW C W G H F σ) p (k x y s2) → r v1 v2 H2) :
    RE C W (fa sg) sg σ H fun v1 H1 => RE C W (fb (nxt (fa sg))) (nxt (fa sg)) σ H1 fun v2 H2 => r v1 v2 H2 := by
  refine RE.fst R h fun x s1 v1 G1 H1 F1 f1 e1 q1 a1 h1 => ?_
  rw [e1]
  show RE C W (fb s1) s1 σ H1 _
  refine ⟨G1, F1, a1.rel, FG.bind q1 (fun _ e => e.later a1) fun b eb q2 v2 G2 H2 F2 f2 a2 h2 => ?_⟩
  exact hr x b.1 b.2 v1 v2 G2 H2 F2 f1 f2 ⟨a1.trans a2, h1.later a2, h2.early a1, h1.apart h2⟩ q2
end DL
set_option Elab.async false
set_option linter.all false
set_option maxRecDepth 100000
set_option maxHeartbeats 4000000
namespace DL
open PySem PySem.Spec PyProof.Rows L2

theorem ext_push {U : Addr → Prop} {G H : Hp} {p : Addr} {o : HO} (hp : H p = none) : Ext U G H G (upd H p o) :=
  ⟨Same.refl _, fun b u e _ => by rw [upd_ne (ne_of_none e hp)]; exact e, fun b u e => ⟨u, by rw [upd_ne (ne_of_none e hp)]; exact e⟩, fun _ _ e => .inl e⟩
theorem same_push {G H : Hp} {p : Addr} {o : HO} (hp : H p = none) (s : Same G H) : Same G (upd H p o) := fun b u e => by
  rw [upd_ne (ne_of_none (s b u e) hp)]
  exact s b u e
theorem gnone {G H : Hp} {p : Addr} (s : Same G H) (hp : H p = none) : G p = none := s.free hp
theorem ext_push2 {U : Addr → Prop} {G H : Hp} {p : Addr} {o : HO} (hp : H p = none) (s : Same G H) : Ext U G H (upd G p o) (upd H p o) :=
  ⟨fun b u e => by rw [upd_ne (ne_of_none e (gnone s hp))]; exact e, fun b u e _ => by rw [upd_ne (ne_of_none e hp)]; exact e, fun b u e => ⟨u, by rw [upd_ne (ne_of_none e hp)]; exact e⟩, fun b u e => by
    by_cases h : b = p
    · subst h; exact .inr (.inr (.inl hp))
    · rw [upd_ne h] at e; exact .inl e⟩
theorem same_push2 {G H : Hp} {p : Addr} {o : HO} (hp : H p = none) (s : Same G H) : Same (upd G p o) (upd H p o) := fun b u e => by
  by_cases h : b = p
  · subst h; rw [upd_same] at e ⊢; exact e
  · rw [upd_ne h] at e ⊢; exact s b u e
/-- the slots stay where nothing of theirs is written -/
theorem Rel.ext {K : PySem.W.Frag} {G H G' H' : Hp} {sg : Sg} {σ : St} {F : Ft} {U : Addr → Prop} (r : Rel K G H sg σ F) (x : Ext U G H G' H') (s : Same G' H') (n : ∀ b, foot F b → ¬ U b) : Rel K G' H' sg σ F :=
  ⟨s, fun i od e => by
    obtain ⟨v, e1, w⟩ := r.get i od e
    exact ⟨v, e1, w.ext x fun b hb => n b ⟨i, hb⟩⟩, r.non, r.dis, r.len⟩
theorem At.pushH {K : PySem.W.Frag} {G H : Hp} {sg : Sg} {σ : St} {F : Ft} {p : Addr} (o : HO) (r : Rel K G H sg σ F) (hp : H p = none) : At K G H F sg σ G (upd H p o) F :=
  ⟨ext_push hp, r.ext (U := fun _ => False) (ext_push hp) (same_push hp r.sub) (fun _ _ z => z), fun _ h => .inl h⟩
theorem At.pushG {K : PySem.W.Frag} {G H : Hp} {sg : Sg} {σ : St} {F : Ft} {p : Addr} (o : HO) (r : Rel K G H sg σ F) (hp : H p = none) : At K G H F sg σ (upd G p o) (upd H p o) F :=
  ⟨ext_push2 hp r.sub, r.ext (U := fun _ => False) (ext_push2 hp r.sub) (same_push2 hp r.sub) (fun _ _ z => z), fun _ h => .inl h⟩

section
variable {K : PySem.W.Frag} {G0 H0 G H : Hp} {F0 F : Ft} {σ : St} {Q : VK} {sg : Sg} {v : V}
/-- the end of an expression: frozen data -/
theorem okE.fro {d : PyData} (h : okE K G0 H0 F0 σ Q (.v (.f d), sg)) (a : At K G0 H0 F0 sg σ G H F) (hd : Is G v d) : Q v H :=
  h v G H F [] a ⟨.v (.f hd) (fun _ z => by cases z), fun _ z => by cases z⟩
/-- a new tuple -/
theorem okE.tup {ds : List PyData} {vs : List V} {p : Addr} (h : okE K G0 H0 F0 σ Q (.v (.f (.tuple ds)), sg)) (a : At K G0 H0 F0 sg σ G H F) (hd : IsAll G vs ds) (hp : H p = none) : Q (.ref p) (upd H p (.tup vs)) := by
  have a2 := At.pushG (.tup vs) a.rel hp
  exact h.fro (a.trans a2) (.tup upd_same (hd.same a2.ext.gg))
theorem ownAll_f : ∀ {vs : List V} {ds : List PyData}, IsAll G vs ds → OwnAll K G H vs (ds.map .f) []
  | _, _, .nil => .nil
  | _, _, .cons a r => .cons (f1 := []) (f2 := []) (.f a) (ownAll_f r) (fun _ z => by cases z)
/-- a new list of frozen items -/
theorem okE.lst {ds : List PyData} {vs : List V} {p : Addr} (h : okE K G0 H0 F0 σ Q (.v (.l (ds.map .f)), sg)) (a : At K G0 H0 F0 sg σ G H F) (hd : IsAll G vs ds) (hp : H p = none) : Q (.ref p) (upd H p (.lst vs)) := by
  have a2 := At.pushH (.lst vs) a.rel hp
  refine h _ _ _ _ [p] (a.trans a2) ⟨.v (.l (gnone a.rel.sub hp) upd_same (ownAll_f hd) (by simp)) fun b hb z => ?_, fun b hb => ?_⟩
  · have e : b = p := by simpa using hb
    subst e
    obtain ⟨i, hi⟩ := z
    by_cases q : ∃ od, sg[i]? = some (some od)
    · obtain ⟨od, q⟩ := q
      obtain ⟨u, _, w1⟩ := a.rel.get i od q
      obtain ⟨o, e⟩ := (w1.foot b hi).2
      rw [hp] at e; cases e
    · rw [a.rel.non i fun od z => q ⟨od, z⟩] at hi
      cases hi
  · have e : b = p := by simpa using hb
    subst e
    exact .inr (a.ext.fresh hp)
end

/-! ### names, constants -/
section
variable {C : Ctx}
def fV (i : Nat) : Sg → Res (Opd × Sg) := fun sg => match sg[i]? with
  | some (some _) => .ok (.i i, sg)
  | _ => .stuck
theorem de_var (i : Nat) {x : Str} {pos : Pos} (hN : C.N[i]? = some x) (hv : Vis C.sc x) (hd : (x == ("__debug__" : Str)) = false := by decide) (hcd : (x == ("__classdict__" : Str)) = false := by decide) : DE C (.Name x pos) (fV i) := by
  intro X ok W tk sg
  refine pe_weak (pe_var (i := i) (by rw [ok.N]; exact hN) (by rw [ok.sc]; exact hv) hd hcd) fun σ H Q h => ?_
  obtain ⟨G, F, R, q⟩ := h
  unfold fV at q
  cases e : sg[i]? with
  | none => simp only [e] at q; exact q.elim
  | some x =>
    cases x with
    | none => simp only [e] at q; exact q.elim
    | some od =>
      simp only [e] at q
      obtain ⟨v, e1, w⟩ := R.get i od e
      exact ⟨v, e1, q v G H F [] (.refl R) ⟨.i e1, fun _ z => by cases z⟩⟩
def fC (d : PyData) : Sg → Res (Opd × Sg) := fun sg => .ok (.v (.f d), sg)
theorem de_c {e : Expr} {v : V} {d : PyData} (h : ∀ X, C.Ok X → PE X e (tC v)) (hd : ∀ G, Is G v d) : DE C e (fC d) := by
  intro X ok W tk sg
  refine pe_weak (h X ok) fun σ H Q ⟨G, F, R, q⟩ => ?_
  exact okE.fro q (.refl R) (hd G)
theorem de_int {i : Int} {j} {pos : Pos} : DE C (.Constant (.int i) j pos) (fC (.int i)) := de_c (fun _ _ => pe_int) fun _ => .int i
theorem de_bl {b : Bool} {j} {pos : Pos} : DE C (.Constant (.bool b) j pos) (fC (.bool b)) := de_c (fun _ _ => pe_bl) fun _ => .bl b
theorem de_non {j} {pos : Pos} : DE C (.Constant .none j pos) (fC .none) := de_c (fun _ _ => pe_non) fun _ => .non
theorem de_str {x : Str} {j} {pos : Pos} : DE C (.Constant (.str x) j pos) (fC (.str x)) := de_c (fun _ _ => pe_str) fun _ => .str x
theorem de_globI {x : Str} {i : Int} {t : Tok} {pos : Pos} (hg : C.sc.names.lookup x = some .globalImplicit) (hm : C.mg x = some (.int i t)) (hd : (x == ("__debug__" : Str)) = false := by decide) : DE C (.Name x pos) (fC (.int i)) :=
  de_c (v := .int i) (fun X ok => pe_glob (show X.env.scope.names.lookup x = _ by rw [ok.sc]; exact hg) (by rw [ok.mg]; exact hm) ⟨_, rfl⟩ hd) fun _ => .int i

/-! ### taking, freezing -/
def fTk (f : Sg → Res (Opd × Sg)) : Sg → Res (Opd × Sg) := fun sg => (f sg).bind fun a => (Res.of (takeO a.1 a.2)).bind fun b => .ok (.v b.1, b.2)
theorem de_tk {e : Expr} {f : Sg → Res (Opd × Sg)} (h : DE C e f) : DE C e (fTk f) := by
  intro X ok W tk sg
  refine pe_weak (h X ok W tk sg) fun σ H Q ⟨G, F, R, q⟩ => ⟨G, F, R, FG.bind q (fun _ e => e) fun a ea q' v G' H' F' fp at' hv => ?_⟩
  obtain ⟨b, eb, q''⟩ := q'.of
  obtain ⟨G2, F2, fp2, at2, own, n, fps⟩ := At.take at'.rel hv eb
  exact q'' v G2 H' F2 fp2 (at'.trans at2) ⟨.v own n, fps⟩
def frzO (o : Opd) (sg : Sg) : Option (OD × Sg) := match o with
  | .v od => od.fz.map fun od' => (od', sg)
  | .i n => takeO (.i n) sg
def fFz (f : Sg → Res (Opd × Sg)) : Sg → Res (Opd × Sg) := fun sg => (f sg).bind fun a => (Res.of (frzO a.1 a.2)).bind fun b => .ok (.v b.1, b.2)
theorem de_fz {e : Expr} {f : Sg → Res (Opd × Sg)} (h : DE C e f) : DE C e (fFz f) := by
  intro X ok W tk sg
  refine pe_weak (h X ok W tk sg) fun σ H Q ⟨G, F, R, q⟩ => ⟨G, F, R, FG.bind q (fun _ e => e) fun a ea q' v G' H' F' fp at' hv => ?_⟩
  obtain ⟨b, eb, q''⟩ := q'.of
  obtain ⟨o, s1⟩ := a
  cases o with
  | i n =>
    obtain ⟨G2, F2, fp2, at2, own, n, fps⟩ := At.take at'.rel hv eb
    exact q'' v G2 H' F2 fp2 (at'.trans at2) ⟨.v own n, fps⟩
  | v od =>
    obtain ⟨od', e1, e2⟩ := Option.map_eq_some_iff.mp (show od.fz.map (fun od' => (od', s1)) = some b from eb)
    subst e2
    obtain ⟨hn, hf⟩ := hv
    cases hn with
    | v w n =>
      obtain ⟨G2, t1, t2, t3, w2⟩ := w.freeze at'.rel.sub e1
      have x : Ext (· ∈ fp) G' H' G2 H' := ⟨t1, fun _ _ e _ => e, fun _ o e => ⟨o, e⟩, fun b o e => (t3 b o e).imp id fun z => .inl z⟩
      refine q'' v G2 H' F' [] ⟨⟨at'.ext.gg.trans t1, at'.ext.keep, at'.ext.there, fun b o e => ?_⟩, at'.rel.ext x t2 (fun b hb z => n b z hb), at'.sub⟩ ⟨.v w2 (fun _ z => by cases z), fun _ z => by cases z⟩
      rcases t3 b o e with z | z
      · exact at'.ext.gnew b o z
      · exact (hf b z).elim (fun z => .inr (.inl z)) fun z => .inr (.inr (.inl z))
end

/-! ### argument lists -/
inductive HvAll (K : PySem.W.Frag) (H0 : Hp) (F0 : Ft) (G H : Hp) (F : Ft) (σ : St) : List V → List Opd → List Addr → Prop
  | nil : HvAll K H0 F0 G H F σ [] [] []
  | cons {v : V} {vs : List V} {o : Opd} {os : List Opd} {f1 f2 : List Addr} : Hv K H0 F0 G H F σ v o f1 → HvAll K H0 F0 G H F σ vs os f2 → (∀ b ∈ f1, b ∉ f2) → HvAll K H0 F0 G H F σ (v :: vs) (o :: os) (f1 ++ f2)
theorem HvAll.early {K : PySem.W.Frag} {G0 H0 G1 H1 G2 H2 : Hp} {F0 F1 F2 : Ft} {s1 : Sg} {σ σ1 : St} (a : At K G0 H0 F0 s1 σ1 G1 H1 F1) : ∀ {vs : List V} {os : List Opd} {fp : List Addr}, HvAll K H1 F1 G2 H2 F2 σ vs os fp → HvAll K H0 F0 G2 H2 F2 σ vs os fp
  | _, _, _, .nil => .nil
  | _, _, _, .cons h r n => .cons (h.early a) (HvAll.early a r) n
theorem HvAll.fps {K : PySem.W.Frag} {H0 : Hp} {F0 : Ft} {G H : Hp} {F : Ft} {σ : St} : ∀ {vs : List V} {os : List Opd} {fp : List Addr}, HvAll K H0 F0 G H F σ vs os fp → ∀ b ∈ fp, foot F0 b ∨ H0 b = none
  | _, _, _, .nil, b, hb => by cases hb
  | _, _, _, .cons h r n, b, hb => (List.mem_append.mp hb).elim (h.fps b) (HvAll.fps r b)
theorem HvAll.later {K : PySem.W.Frag} {H0 G1 H1 G2 H2 : Hp} {F0 F1 F2 : Ft} {s2 : Sg} {σ : St} (a : At K G1 H1 F1 s2 σ G2 H2 F2) : ∀ {vs : List V} {os : List Opd} {fp : List Addr}, HvAll K H0 F0 G1 H1 F1 σ vs os fp → HvAll K H0 F0 G2 H2 F2 σ vs os fp
  | _, _, _, .nil => .nil
  | _, _, _, .cons h r n => .cons (h.later a) (HvAll.later a r) n
theorem HvAll.len {K : PySem.W.Frag} {H0 : Hp} {F0 : Ft} {G H : Hp} {F : Ft} {σ : St} : ∀ {vs : List V} {os : List Opd} {fp : List Addr}, HvAll K H0 F0 G H F σ vs os fp → vs.length = os.length
  | _, _, _, .nil => rfl
  | _, _, _, .cons h r n => congrArg (· + 1) (HvAll.len r)
def okA (K : PySem.W.Frag) (G0 H0 : Hp) (F0 : Ft) (σ : St) (Q : List V → Hp → Prop) (r : List Opd × Sg) : Prop := ∀ vs G H F fp, At K G0 H0 F0 r.2 σ G H F → HvAll K H0 F0 G H F σ vs r.1 fp → Q vs H
def RA (C : Ctx) (W : WX) (r : Res (List Opd × Sg)) (sg : Sg) : TA := fun σ H Q => ∃ G F, Rel C.K G H sg σ F ∧ FG (ExcW C W G H F σ) (okA C.K G H F σ Q) r
def DA (C : Ctx) (es : List Expr) (f : Sg → Res (List Opd × Sg)) : Prop := ∀ X, C.Ok X → ∀ W, Takes X W → ∀ sg, PA X es (RA C W (f sg) sg)
section
variable {C : Ctx}
def fNil : Sg → Res (List Opd × Sg) := fun sg => .ok ([], sg)
def fCons (f : Sg → Res (Opd × Sg)) (g : Sg → Res (List Opd × Sg)) : Sg → Res (List Opd × Sg) := fun sg => (f sg).bind fun a => (g a.2).bind fun b => .ok (a.1 :: b.1, b.2)
theorem da_nil : DA C [] fNil := fun X ok W tk sg => pa_weak pa_nil fun σ H Q ⟨G, F, R, q⟩ => q [] G H F [] (.refl R) .nil
theorem da_cons {e : Expr} {es : List Expr} {f : Sg → Res (Opd × Sg)} {g : Sg → Res (List Opd × Sg)} (h : DE C e f) (hr : DA C es g) (hs : ∀ env, starEach (e :: es) env = (false, eval e env) :: starEach es env := by intro _; rfl) : DA C (e :: es) (fCons f g) := by
  intro X ok W tk sg
  refine pa_weak (pa_cons (h X ok W tk sg) (hr X ok W tk (nxt (f sg))) (hs _)) fun σ H Q ⟨G, F, R, q⟩ => ?_
  refine RE.fst R q fun o s1 v G1 H1 F1 fp e1 q1 a1 h1 => ?_
  rw [e1]
  refine ⟨G1, F1, a1.rel, FG.bind q1 (fun _ e => e.later a1) fun b eb q2 vs G2 H2 F2 f2 a2 h2 => ?_⟩
  exact q2 (v :: vs) G2 H2 F2 (fp ++ f2) (a1.trans a2) (.cons (h1.later a2) (h2.early a1) fun c hc z => by
    obtain ⟨_, ⟨u, e⟩, n⟩ := h1.opn.foot c hc
    rcases h2.fps c z with q | q
    · exact n q
    · rw [e] at q; cases q)
end
/-- all are values; all are frozen data -/
def valsO : List Opd → Option (List OD)
  | [] => some []
  | .v od :: r => (valsO r).map (od :: ·)
  | .i _ :: _ => none
def frsO : List OD → Option (List PyData)
  | [] => some []
  | .f d :: r => (frsO r).map (d :: ·)
  | _ :: _ => none
theorem HvAll.own {K : PySem.W.Frag} {H0 : Hp} {F0 : Ft} {G H : Hp} {F : Ft} {σ : St} : ∀ {vs : List V} {os : List Opd} {fp : List Addr}, HvAll K H0 F0 G H F σ vs os fp → ∀ {ods : List OD}, valsO os = some ods → OwnAll K G H vs ods fp ∧ ∀ b ∈ fp, ¬ foot F b
  | _, _, _, .nil, ods, e => by
    cases e
    exact ⟨.nil, fun _ z => by cases z⟩
  | _, _, _, .cons (o := o) h r n, ods, e => by
    cases o with
    | i k => cases e
    | v od =>
      obtain ⟨ods', e1, rfl⟩ := Option.map_eq_some_iff.mp (show (valsO _).map (od :: ·) = some ods from e)
      obtain ⟨w, m⟩ := HvAll.own r e1
      obtain ⟨hn, hf⟩ := h
      cases hn with
      | v w1 n1 => exact ⟨.cons w1 w n, fun b hb => (List.mem_append.mp hb).elim (n1 b) (m b)⟩
theorem OwnAll.frs {K : PySem.W.Frag} {G H : Hp} : ∀ {vs : List V} {ods : List OD} {fp : List Addr}, OwnAll K G H vs ods fp → ∀ {ds : List PyData}, frsO ods = some ds → IsAll G vs ds
  | _, _, _, .nil, ds, e => by cases e; exact .nil
  | _, _, _, .cons (od := od) a r n, ds, e => by
    cases od with
    | f d =>
      obtain ⟨ds', e1, rfl⟩ := Option.map_eq_some_iff.mp (show (frsO _).map (d :: ·) = some ds from e)
      cases a with
      | f a => exact .cons a (OwnAll.frs r e1)
    | _ => cases e
section
variable {C : Ctx}
def guardR (b : Bool) : Res Unit := if b = true then .ok () else .stuck
theorem FG.guard {β : Type} {E : XD → Prop} {p : β → Prop} {b : Bool} {k : Unit → Res β} (h : FG E p ((guardR b).bind k)) : b = true ∧ FG E p (k ()) := by
  unfold guardR at h
  by_cases e : b = true
  · rw [if_pos e] at h; exact ⟨e, h⟩
  · rw [if_neg e] at h; exact h.elim
theorem line {n : Nat} (h : decide (n < 1000000) = true) : n < sizeLine := Nat.lt_of_lt_of_le (of_decide_eq_true h) (by rw [sizeLine_eq]; decide)
/-- (a, b, ..) -/
def fTup (g : Sg → Res (List Opd × Sg)) : Sg → Res (Opd × Sg) := fun sg => (g sg).bind fun a => (Res.of ((valsO a.1).bind frsO)).bind fun ds => (guardR (decide (ds.length < 1000000))).bind fun _ => .ok (.v (.f (.tuple ds)), a.2)
theorem de_tup {es : List Expr} {x1} {pos : Pos} {g : Sg → Res (List Opd × Sg)} (h : DA C es g) : DE C (.Tuple es x1 pos) (fTup g) := by
  intro X ok W tk sg
  refine pe_weak (pe_tup (h X ok W tk sg)) fun σ H Q ⟨G, F, R, q⟩ => ⟨G, F, R, FG.bind q (fun _ e => e) fun a ea q' vs G' H' F' fp at' hv => ?_⟩
  obtain ⟨ds, e, q1⟩ := q'.of
  obtain ⟨ods, e1, e2⟩ := Option.bind_eq_some_iff.mp e
  obtain ⟨g1, q2⟩ := q1.guard
  obtain ⟨w, m⟩ := hv.own e1
  have w2 := w.frs e2
  exact ⟨by rw [w2.length]; exact Nat.le_of_lt (line g1), fun p hp => okE.tup q2 at' w2 hp⟩
/-- [a, b, ..] -/
def fLst (g : Sg → Res (List Opd × Sg)) : Sg → Res (Opd × Sg) := fun sg => (g sg).bind fun a => (Res.of (valsO a.1)).bind fun ods => (guardR (decide (ods.length < 1000000))).bind fun _ => .ok (.v (.l ods), a.2)
theorem OwnAll.length {K : PySem.W.Frag} {G H : Hp} : ∀ {vs : List V} {ods : List OD} {fp : List Addr}, OwnAll K G H vs ods fp → vs.length = ods.length
  | _, _, _, .nil => rfl
  | _, _, _, .cons _ r _ => congrArg (· + 1) (OwnAll.length r)
theorem fresh_foot {K : PySem.W.Frag} {G H : Hp} {sg : Sg} {σ : St} {F : Ft} (r : Rel K G H sg σ F) {p : Addr} (hp : H p = none) : ¬ foot F p := fun ⟨i, hi⟩ => by
  by_cases q : ∃ od, sg[i]? = some (some od)
  · obtain ⟨od, q⟩ := q
    obtain ⟨u, _, w1⟩ := r.get i od q
    obtain ⟨o, e⟩ := (w1.foot p hi).2
    rw [hp] at e; cases e
  · rw [r.non i fun od z => q ⟨od, z⟩] at hi
    cases hi
theorem de_lst {es : List Expr} {pos : Pos} {g : Sg → Res (List Opd × Sg)} (h : DA C es g) : DE C (.List es pos) (fLst g) := by
  intro X ok W tk sg
  refine pe_weak (pe_lst (h X ok W tk sg)) fun σ H Q ⟨G, F, R, q⟩ => ⟨G, F, R, FG.bind q (fun _ e => e) fun a ea q' vs G' H' F' fp at' hv => ?_⟩
  obtain ⟨ods, e, q1⟩ := q'.of
  obtain ⟨g1, q2⟩ := q1.guard
  obtain ⟨w, m⟩ := hv.own e
  refine ⟨by rw [w.length]; exact Nat.le_of_lt (line g1), fun p hp => ?_⟩
  have a2 := At.pushH (.lst vs) at'.rel hp
  have np : p ∉ fp := fun z => by
    obtain ⟨o, e⟩ := (w.foot p z).2
    rw [hp] at e; cases e
  refine q2 _ _ _ _ (p :: fp) (at'.trans a2) ⟨.v (.l (gnone at'.rel.sub hp) upd_same (w.ext (U := fun _ => False) (ext_push hp) (fun _ _ z => z)) np) fun b hb z => ?_, fun b hb => ?_⟩
  · rcases List.mem_cons.mp hb with rfl | hb
    · exact fresh_foot at'.rel hp z
    · exact m b hb z
  · rcases List.mem_cons.mp hb with rfl | hb
    · exact .inr (at'.ext.fresh hp)
    · exact hv.fps b hb
end
end DL
set_option Elab.async false
set_option linter.all false
set_option maxRecDepth 100000
set_option maxHeartbeats 4000000
namespace DL
open PySem PySem.Spec PyProof.Rows L2

/-! ### two operands -/
def fTwo (fa fb : Sg → Res (Opd × Sg)) (k : Opd → Opd → Sg → Res (Opd × Sg)) : Sg → Res (Opd × Sg) := fun sg => (fa sg).bind fun a => (fb a.2).bind fun b => k a.1 b.1 b.2
section
variable {C : Ctx} {a b e : Expr} {fa fb : Sg → Res (Opd × Sg)}
theorem de_two {r : Cx → R2} {k : Opd → Opd → Sg → Res (Opd × Sg)} (he : ∀ X, C.Ok X → ∀ ta tb, PE X a ta → PE X b tb → PE X e (tOp (r X) ta tb)) (ha : DE C a fa) (hb : DE C b fb)
    (hk : ∀ X, C.Ok X → ∀ (E : XD → Prop) (σ : St) (G0 H0 : Hp) (F0 : Ft) (Q : VK) (x y : Opd) (s : Sg) (v1 v2 : V) (G H : Hp) (F : Ft) (f1 f2 : List Addr), Two C G0 H0 F0 s σ x y v1 v2 G H F f1 f2 →
      FG E (okE C.K G0 H0 F0 σ Q) (k x y s) → E = ExcW C (fun _ _ _ _ => False) G0 H0 F0 σ ∨ True → r X v1 v2 H Q) (hx : ∀ x y s xd, k x y s ≠ .exc xd) : DE C e (fTwo fa fb k) := by
  intro X ok W tk sg
  refine pe_weak (he X ok _ _ (ha X ok W tk sg) (hb X ok W tk (nxt (fa sg)))) fun σ H Q ⟨G, F, R, q⟩ => ?_
  exact two_rd R q fun x y s2 v1 v2 G2 H2 F2 f1 f2 t2 q2 => hk X ok _ σ G H F Q x y s2 v1 v2 G2 H2 F2 f1 f2 t2 q2 (.inr trivial)
theorem pe_either {X : Cx} {e : Expr} {t t' : TE} (h : PE X e t) (h' : PE X e t') : PE X e (fun σ H Q => t σ H Q ∨ t' σ H Q) := ⟨fun pins s σ H Q I q => q.elim (h.run pins s σ H Q I) (h'.run pins s σ H Q I)⟩
theorem opr_or {X : Cx} {f : Value → Value → Sem Value} {r1 r2 : R2} (h : OpR X f r1) (h' : OpR X f r2) : OpR X f (fun x y H Q => r1 x y H Q ∨ r2 x y H Q) :=
  fun pins s σ H x y v u Q I rx ry q => q.elim (h pins s σ H x y v u Q I rx ry) (h' pins s σ H x y v u Q I rx ry)
/-- a pure operation on data: p says what it gives, r what is to be shown -/
theorem de_op2 {r : Cx → R2} {k : Opd → Opd → Sg → Res (Opd × Sg)} (he : ∀ X, C.Ok X → ∀ ta tb, PE X a ta → PE X b tb → PE X e (tOp (r X) ta tb)) (ha : DE C a fa) (hb : DE C b fb)
    (hk : ∀ X, C.Ok X → ∀ (E : XD → Prop) (σ : St) (G0 H0 : Hp) (F0 : Ft) (Q : VK) (x y : Opd) (s : Sg) (v1 v2 : V) (G H : Hp) (F : Ft) (f1 f2 : List Addr), Two C G0 H0 F0 s σ x y v1 v2 G H F f1 f2 →
      FG E (okE C.K G0 H0 F0 σ Q) (k x y s) → (∀ x y s xd, k x y s ≠ .exc xd) → r X v1 v2 H Q) (hx : ∀ x y s xd, k x y s ≠ .exc xd) : DE C e (fTwo fa fb k) :=
  de_two he ha hb (fun X ok E σ G0 H0 F0 Q x y s v1 v2 G H F f1 f2 t q _ => hk X ok E σ G0 H0 F0 Q x y s v1 v2 G H F f1 f2 t q hx) hx
end
section
variable {C : Ctx} {G0 H0 : Hp} {F0 : Ft} {s : Sg} {σ : St} {x y : Opd} {v1 v2 : V} {G H : Hp} {F : Ft} {f1 f2 : List Addr}
theorem Two.own1 (t : Two C G0 H0 F0 s σ x y v1 v2 G H F f1 f2) {od : OD} (e : x.od s = some od) : ∃ fp, Own C.K G H v1 od fp := t.h1.opn.own t.at2.rel e
theorem Two.own2 (t : Two C G0 H0 F0 s σ x y v1 v2 G H F f1 f2) {od : OD} (e : y.od s = some od) : ∃ fp, Own C.K G H v2 od fp := t.h2.opn.own t.at2.rel e
theorem Two.dp1 (t : Two C G0 H0 F0 s σ x y v1 v2 G H F f1 f2) {d : PyData} (e : x.dat s = some d) : Dp C.K H v1 d := t.h1.opn.dp t.at2.rel e
theorem Two.dp2 (t : Two C G0 H0 F0 s σ x y v1 v2 G H F f1 f2) {d : PyData} (e : y.dat s = some d) : Dp C.K H v2 d := t.h2.opn.dp t.at2.rel e
end
theorem dp_int {K : PySem.W.Frag} {H : Hp} {v : V} {i : Int} (h : Dp K H v (.int i)) : v = .int i := by cases h; rfl
theorem dp_str {K : PySem.W.Frag} {H : Hp} {v : V} {i : Str} (h : Dp K H v (.str i)) : v = .str i := by cases h; rfl
mutual
theorem dp_plain {K : PySem.W.Frag} {H : Hp} : ∀ (d : PyData) (v : V), Dp K H v d → d.plain = true
  | .none, _, _ => rfl
  | .bool _, _, _ => rfl
  | .int _, _, _ => rfl
  | .str _, _, _ => rfl
  | .list ds, _, h => by
    cases h with
    | lst _ r => exact dp_plainAll ds _ r
  | .tuple ds, _, h => by
    cases h with
    | tup _ r => exact dp_plainAll ds _ r
  | .dict _, _, h => by cases h
theorem dp_plainAll {K : PySem.W.Frag} {H : Hp} : ∀ (ds : List PyData) (vs : List V), DpAll K H vs ds → PyData.plainAll ds = true
  | [], _, _ => rfl
  | d :: ds, _, h => by
    cases h with
    | cons a r =>
      show (PyData.plain d && PyData.plainAll ds) = true
      rw [dp_plain d _ a, dp_plainAll ds _ r]
      rfl
end

/-! ### arithmetic of ints -/
def intK (p : Int → Int → Option Int) (x y : Opd) (s : Sg) : Res (Opd × Sg) := match x.dat s, y.dat s with
  | some (.int i), some (.int j) => (Res.of (p i j)).bind fun k => .ok (.v (.f (.int k)), s)
  | _, _ => .stuck
theorem intK_exc {p : Int → Int → Option Int} (x y : Opd) (s : Sg) (xd : XD) : intK p x y s ≠ .exc xd := by
  unfold intK
  split
  · cases p _ _ <;> intro h <;> cases h
  · intro h; cases h
theorem intK_ok {C : Ctx} {E : XD → Prop} {p : Int → Int → Option Int} {G0 H0 : Hp} {F0 : Ft} {s : Sg} {σ : St} {x y : Opd} {v1 v2 : V} {G H : Hp} {F : Ft} {f1 f2 : List Addr} {Q : VK} (t : Two C G0 H0 F0 s σ x y v1 v2 G H F f1 f2)
    (q : FG E (okE C.K G0 H0 F0 σ Q) (intK p x y s)) : ∃ i j k, v1 = .int i ∧ v2 = .int j ∧ p i j = some k ∧ Q (.int k) H := by
  unfold intK at q
  split at q
  · rename_i i j e1 e2
    obtain ⟨k, ek, q⟩ := q.of
    exact ⟨i, j, k, dp_int (t.dp1 e1), dp_int (t.dp2 e2), ek, okE.fro q t.at2 (.int k)⟩
  · exact q.elim
def pSub (i j : Int) : Option Int := some (i - j)
def pMod (i j : Int) : Option Int := if 0 < j then some (i % j) else none
def pDiv (i j : Int) : Option Int := if 0 < j ∧ j < 1073741824 then some (i / j) else none
def pPow (i j : Int) : Option Int := if 0 ≤ j ∧ j ≤ 1000000 ∧ i.natAbs < 2 ^ 64 then some (i ^ j.toNat) else none
section
variable {C : Ctx} {a b : Expr} {fa fb : Sg → Res (Opd × Sg)} {pos : Pos}
theorem de_sub (ha : DE C a fa) (hb : DE C b fb) : DE C (.BinOp a .Sub b pos) (fTwo fa fb (intK pSub)) :=
  de_op2 (fun X ok ta tb ha hb => pe_op op_sub ha hb) ha hb (fun X ok E σ G0 H0 F0 Q x y s v1 v2 G H F f1 f2 t q _ => by
    obtain ⟨i, j, k, rfl, rfl, e, q⟩ := intK_ok t q
    cases e
    exact ⟨i, j, rfl, rfl, q⟩) intK_exc
theorem de_mod (ha : DE C a fa) (hb : DE C b fb) : DE C (.BinOp a .Mod b pos) (fTwo fa fb (intK pMod)) :=
  de_op2 (fun X ok ta tb ha hb => pe_op op_mod ha hb) ha hb (fun X ok E σ G0 H0 F0 Q x y s v1 v2 G H F f1 f2 t q _ => by
    obtain ⟨i, j, k, rfl, rfl, e, q⟩ := intK_ok t q
    unfold pMod at e
    split at e
    · rename_i h
      cases e
      exact ⟨i, j, rfl, rfl, h, q⟩
    · cases e) intK_exc
theorem de_div (ha : DE C a fa) (hb : DE C b fb) : DE C (.BinOp a .FloorDiv b pos) (fTwo fa fb (intK pDiv)) :=
  de_op2 (fun X ok ta tb ha hb => pe_op op_fdiv ha hb) ha hb (fun X ok E σ G0 H0 F0 Q x y s v1 v2 G H F f1 f2 t q _ => by
    obtain ⟨i, j, k, rfl, rfl, e, q⟩ := intK_ok t q
    unfold pDiv at e
    split at e
    · rename_i h
      cases e
      exact ⟨i, j, rfl, rfl, h, q⟩
    · cases e) intK_exc
theorem de_pow (ha : DE C a fa) (hb : DE C b fb) : DE C (.BinOp a .Pow b pos) (fTwo fa fb (intK pPow)) :=
  de_op2 (fun X ok ta tb ha hb => pe_op op_pow ha hb) ha hb (fun X ok E σ G0 H0 F0 Q x y s v1 v2 G H F f1 f2 t q _ => by
    obtain ⟨i, j, k, rfl, rfl, e, q⟩ := intK_ok t q
    unfold pPow at e
    split at e
    · rename_i h
      cases e
      exact ⟨i, j, rfl, rfl, h, q⟩
    · cases e) intK_exc
end

/-! ### + of numbers, texts, lists, tuples; * -/
def OD.kid : OD → Option (List PyData)
  | .f (.list ds) => some ds
  | .l ods => frsO ods
  | _ => none
theorem Own.kid {K : PySem.W.Frag} {G H : Hp} {v : V} {od : OD} {fp : List Addr} (s : Same G H) (w : Own K G H v od fp) {ds : List PyData} (e : od.kid = some ds) : ∃ a vs, v = .ref a ∧ H a = some (.lst vs) ∧ IsAll G vs ds := by
  cases w with
  | f h =>
    cases h with
    | lst h1 h2 => cases e; exact ⟨_, _, rfl, s _ _ h1, h2⟩
    | _ => cases e
  | l h1 h2 h3 h4 => exact ⟨_, _, rfl, h2, h3.frs e⟩
  | _ => cases e
def addK (x y : Opd) (s : Sg) : Res (Opd × Sg) := match x.od s, y.od s with
  | some (.f (.int i)), some (.f (.int j)) => .ok (.v (.f (.int (i + j))), s)
  | some (.f (.str i)), some (.f (.str j)) => (guardR (decide (i.length + j.length < 1000000))).bind fun _ => .ok (.v (.f (.str (i ++ j))), s)
  | some (.f (.tuple ds)), some (.f (.tuple es)) => (guardR (decide (ds.length + es.length < 1000000))).bind fun _ => .ok (.v (.f (.tuple (ds ++ es))), s)
  | some p, some q => (Res.of p.kid).bind fun ds => (Res.of q.kid).bind fun es => (guardR (decide (ds.length + es.length < 1000000))).bind fun _ => .ok (.v (.l ((ds ++ es).map .f)), s)
  | _, _ => .stuck
theorem guardR_bind_exc {α : Type} {b : Bool} {a : α} {xd : XD} : (guardR b).bind (fun _ => Res.ok a) ≠ .exc xd := by
  unfold guardR
  split <;> intro h <;> cases h
theorem addK_exc (x y : Opd) (s : Sg) (xd : XD) : addK x y s ≠ .exc xd := by
  unfold addK
  split
  · intro h; cases h
  · exact guardR_bind_exc
  · exact guardR_bind_exc
  · rename_i p q _ _ _ _ _
    cases p.kid with
    | none => intro h; cases h
    | some ds =>
      cases q.kid with
      | none => intro h; cases h
      | some es => exact guardR_bind_exc
  · intro h; cases h
def mulK (x y : Opd) (s : Sg) : Res (Opd × Sg) := match x.od s, y.od s with
  | some (.f (.int i)), some (.f (.int j)) => (guardR (decide ((-(2 ^ 64) < i ∧ i < 2 ^ 64) ∨ (-(2 ^ 64) < j ∧ j < 2 ^ 64)))).bind fun _ => .ok (.v (.f (.int (i * j))), s)
  | some (.f (.tuple [d])), some (.f (.int j)) => (guardR (decide (2 ≤ j ∧ j ≤ 1000))).bind fun _ => .ok (.v (.f (.tuple (List.replicate j.toNat d))), s)
  | some p, some (.f (.int j)) => (Res.of p.kid).bind fun ds => (guardR (decide (-1000 ≤ j ∧ j ≤ 1000 ∧ ds.length ≤ 1000))).bind fun _ => .ok (.v (.l ((List.replicate j.toNat ds).flatten.map .f)), s)
  | _, _ => .stuck
theorem mulK_exc (x y : Opd) (s : Sg) (xd : XD) : mulK x y s ≠ .exc xd := by
  unfold mulK
  split
  · exact guardR_bind_exc
  · exact guardR_bind_exc
  · rename_i p j _ _ _ _
    cases p.kid with
    | none => intro h; cases h
    | some ds => exact guardR_bind_exc
  · intro h; cases h
theorem IsAll.flat {G : Hp} {vs : List V} {ds : List PyData} (h : IsAll G vs ds) : ∀ n : Nat, IsAll G (List.replicate n vs).flatten (List.replicate n ds).flatten
  | 0 => .nil
  | n + 1 => by
    rw [List.replicate_succ, List.replicate_succ, List.flatten_cons, List.flatten_cons]
    exact h.append (h.flat n)
theorem flat_one {α : Type} (d : α) : ∀ n : Nat, (List.replicate n [d]).flatten = List.replicate n d
  | 0 => rfl
  | n + 1 => by
    rw [List.replicate_succ, List.flatten_cons, flat_one d n]
    rfl
theorem flat_len {α : Type} (l : List α) : ∀ n : Nat, (List.replicate n l).flatten.length = n * l.length
  | 0 => by simp
  | n + 1 => by
    rw [List.replicate_succ, List.flatten_cons, List.length_append, flat_len l n, Nat.succ_mul, Nat.add_comm]
section
variable {C : Ctx} {a b : Expr} {fa fb : Sg → Res (Opd × Sg)} {pos : Pos}
theorem de_add (ha : DE C a fa) (hb : DE C b fb) : DE C (.BinOp a .Add b pos) (fTwo fa fb addK) :=
  de_op2 (r := fun X x y H Q => (rI0 (fun i j => .int (i + j)) x y H Q ∨ (∃ i j, x = .str i ∧ y = .str j ∧ i.length + j.length ≤ sizeLine ∧ Q (.str (i ++ j)) H)) ∨ (rCatA X.K x y H Q ∨ rCat x y H Q))
    (fun X ok ta tb ha hb => pe_op (opr_or (opr_or op_add op_add_str) (opr_or op_catA op_cat)) ha hb) ha hb (fun X ok E σ G0 H0 F0 Q x y s v1 v2 G H F f1 f2 t q _ => by
    unfold addK at q
    split at q
    · rename_i i j e1 e2
      obtain ⟨_, w1⟩ := t.own1 e1
      obtain ⟨_, w2⟩ := t.own2 e2
      cases w1 with
      | f w1 =>
        cases w1
        cases w2 with
        | f w2 =>
          cases w2
          exact .inl (.inl ⟨i, j, rfl, rfl, okE.fro q t.at2 (.int _)⟩)
    · rename_i i j e1 e2
      obtain ⟨_, w1⟩ := t.own1 e1
      obtain ⟨_, w2⟩ := t.own2 e2
      obtain ⟨g, q⟩ := q.guard
      cases w1 with
      | f w1 =>
        cases w1
        cases w2 with
        | f w2 =>
          cases w2
          exact .inl (.inr ⟨i, j, rfl, rfl, Nat.le_of_lt (line g), okE.fro q t.at2 (.str _)⟩)
    · rename_i ds es e1 e2
      obtain ⟨_, w1⟩ := t.own1 e1
      obtain ⟨_, w2⟩ := t.own2 e2
      obtain ⟨g, q⟩ := q.guard
      cases w1 with
      | f w1 =>
        cases w1 with
        | @tup a1 vs1 _ h1 r1 =>
          cases w2 with
          | f w2 =>
            cases w2 with
            | @tup a2 vs2 _ h2 r2 =>
              have s := t.at2.rel.sub
              refine .inr (.inl ⟨a1, a2, vs1, vs2, rfl, rfl, SqT.of (s _ _ h1), SqT.of (s _ _ h2), by rw [r1.length, r2.length]; exact Nat.le_of_lt (line g), fun e => ?_, fun _ e => ?_, fun _ _ p hp => ?_⟩)
              · subst e
                cases r1
                exact okE.fro q t.at2 (.tup h2 r2)
              · subst e
                cases r2
                rw [List.append_nil] at q
                exact okE.fro q t.at2 (.tup h1 r1)
              · exact okE.tup q t.at2 (r1.append r2) hp
    · rename_i p q' _ _ _ e1 e2
      obtain ⟨_, w1⟩ := t.own1 e1
      obtain ⟨_, w2⟩ := t.own2 e2
      obtain ⟨ds, k1, q⟩ := q.of
      obtain ⟨es, k2, q⟩ := q.of
      obtain ⟨g, q⟩ := q.guard
      obtain ⟨a1, vs1, rfl, h1, r1⟩ := w1.kid t.at2.rel.sub k1
      obtain ⟨a2, vs2, rfl, h2, r2⟩ := w2.kid t.at2.rel.sub k2
      exact .inr (.inr ⟨a1, a2, vs1, vs2, rfl, rfl, h1, h2, by rw [r1.length, r2.length]; exact Nat.le_of_lt (line g), fun p hp => okE.lst q t.at2 (r1.append r2) hp⟩)
    · exact q.elim) addK_exc
theorem de_mul (ha : DE C a fa) (hb : DE C b fb) : DE C (.BinOp a .Mult b pos) (fTwo fa fb mulK) :=
  de_op2 (r := fun X x y H Q => rI CMul (fun i j => .int (i * j)) x y H Q ∨ (rRepT X.K x y H Q ∨ rRep x y H Q))
    (fun X ok ta tb ha hb => pe_op (opr_or op_mul (opr_or op_repT op_rep)) ha hb) ha hb (fun X ok E σ G0 H0 F0 Q x y s v1 v2 G H F f1 f2 t q _ => by
    unfold mulK at q
    split at q
    · rename_i i j e1 e2
      obtain ⟨_, w1⟩ := t.own1 e1
      obtain ⟨_, w2⟩ := t.own2 e2
      obtain ⟨g, q⟩ := q.guard
      cases w1 with
      | f w1 =>
        cases w1
        cases w2 with
        | f w2 =>
          cases w2
          have g := of_decide_eq_true g
          exact .inl ⟨i, j, rfl, rfl, g, okE.fro q t.at2 (.int _)⟩
    · rename_i d j e1 e2
      obtain ⟨_, w1⟩ := t.own1 e1
      obtain ⟨_, w2⟩ := t.own2 e2
      obtain ⟨g, q⟩ := q.guard
      have g := of_decide_eq_true g
      cases w1 with
      | f w1 =>
        cases w1 with
        | @tup a1 vs1 _ h1 r1 =>
          cases w2 with
          | f w2 =>
            cases w2
            have l1 : vs1.length = 1 := r1.length
            refine .inr (.inl ⟨a1, j, vs1, rfl, rfl, SqT.of (t.at2.rel.sub _ _ h1), (fun z => by rw [z] at l1; cases l1), g.1, g.2, by omega, fun p hp => ?_⟩)
            rw [← flat_one d j.toNat] at q
            exact okE.tup q t.at2 (r1.flat _) hp
    · rename_i p j _ _ e1 e2
      obtain ⟨_, w1⟩ := t.own1 e1
      obtain ⟨_, w2⟩ := t.own2 e2
      obtain ⟨ds, k1, q⟩ := q.of
      obtain ⟨g, q⟩ := q.guard
      have g := of_decide_eq_true g
      obtain ⟨a1, vs1, rfl, h1, r1⟩ := w1.kid t.at2.rel.sub k1
      cases w2 with
      | f w2 =>
        cases w2
        refine .inr (.inr ⟨a1, j, vs1, rfl, rfl, h1, by omega, by omega, ?_, fun p hp => okE.lst q t.at2 (r1.flat _) hp⟩)
        rw [r1.length, sizeLine_eq]
        have h1 : j.toNat ≤ 1000 := by omega
        have h2 : ds.length * j.toNat ≤ 1000 * 1000 := Nat.mul_le_mul g.2.2 h1
        omega
    · exact q.elim) mulK_exc
end
end DL
set_option Elab.async false
set_option linter.all false
set_option maxRecDepth 100000
set_option maxHeartbeats 4000000
namespace DL
open PySem PySem.Spec PyProof.Rows L2

/-! ### comparisons -/
abbrev P2 := PyData → PyData → Option Bool
def room2 (d e : PyData) : Bool := decide (min d.depth e.depth ≤ 50)
def notNone : PyData → Bool
  | .none => false
  | _ => true
def pEq : P2 := fun d e => if room2 d e = true then some (PyData.eqv d e) else none
def pNe : P2 := fun d e => if room2 d e = true then some (!PyData.eqv d e) else none
def cmpOk (d e : PyData) : Bool := PySem.W.alike d e && notNone d && room2 d e
def pLt : P2 := fun d e => if cmpOk d e = true then some (PySem.W.dataLt d e) else none
def pGt : P2 := fun d e => if cmpOk d e = true then some (PySem.W.dataLt e d) else none
def pLe : P2 := fun d e => if cmpOk d e = true then some (!PySem.W.dataLt e d) else none
def pGe : P2 := fun d e => if cmpOk d e = true then some (!PySem.W.dataLt d e) else none
def itemsD : PyData → Option (List PyData)
  | .list ds => some ds
  | .tuple ds => some ds
  | _ => none
def pIn : P2 := fun d e => (itemsD e).bind fun ds => if decide (min (PyData.depthAll ds) d.depth ≤ 50) = true then some (ds.any fun y => PyData.eqv y d) else none
def pNotIn : P2 := fun d e => (pIn d e).map (!·)
/-- the operator computes p -/
def CmpR (C : Ctx) (op : CmpOp) (p : P2) : Prop := ∀ X, C.Ok X → OpR X (compareOp op) (fun x y H Q => ∃ d e b, Dp C.K H x d ∧ Dp C.K H y e ∧ p d e = some b ∧ Q (.bl b) H)
section
variable {C : Ctx}
theorem room_of {C : Ctx} {X : Cx} (ok : C.Ok X) {n : Nat} (h : n ≤ 50) : X.A.units + n < cLine := by
  have := ok.room.un
  omega
theorem room_of1 {C : Ctx} {X : Cx} (ok : C.Ok X) {n : Nat} (h : n ≤ 50) : X.A.units + 1 + n < cLine := by
  have := ok.room.un
  omega
theorem cr_eq : CmpR C .Eq pEq := by
  intro X ok pins s σ H x y v u Q I rx ry ⟨d, e, b, hd, he, hp, q⟩
  rw [← ok.K] at hd he
  obtain ⟨as, r1⟩ := Dp.reads I d x v hd rx
  obtain ⟨bs, r2⟩ := Dp.reads I e y u he ry
  unfold pEq at hp
  split at hp
  · rename_i h
    cases hp
    exact SeqAt.eq_plain r1 r2 (dp_plain _ _ hd) (dp_plain _ _ he) (room_of ok (of_decide_eq_true h)) ⟨.bl _, H, I, rfl, q⟩
  · cases hp
theorem cr_ne : CmpR C .NotEq pNe := by
  intro X ok pins s σ H x y v u Q I rx ry ⟨d, e, b, hd, he, hp, q⟩
  rw [← ok.K] at hd he
  obtain ⟨as, r1⟩ := Dp.reads I d x v hd rx
  obtain ⟨bs, r2⟩ := Dp.reads I e y u he ry
  unfold pNe at hp
  split at hp
  · rename_i h
    cases hp
    exact SeqAt.ne_plain r1 r2 (dp_plain _ _ hd) (dp_plain _ _ he) (room_of ok (of_decide_eq_true h)) ⟨.bl _, H, I, rfl, q⟩
  · cases hp
theorem notNone_ne {d : PyData} (h : notNone d = true) : d ≠ .none := fun e => by rw [e] at h; cases h
theorem cmpOk_of {d e : PyData} (h : cmpOk d e = true) : PySem.W.alike d e = true ∧ d ≠ .none ∧ min d.depth e.depth ≤ 50 := by
  unfold cmpOk at h
  rw [Bool.and_eq_true, Bool.and_eq_true] at h
  exact ⟨h.1.1, notNone_ne h.1.2, of_decide_eq_true h.2⟩
theorem cr_lt : CmpR C .Lt pLt := by
  intro X ok pins s σ H x y v u Q I rx ry ⟨d, e, b, hd, he, hp, q⟩
  rw [← ok.K] at hd he
  obtain ⟨as, r1⟩ := Dp.reads I d x v hd rx
  obtain ⟨bs, r2⟩ := Dp.reads I e y u he ry
  unfold pLt at hp
  split at hp
  · rename_i h
    cases hp
    obtain ⟨h1, h2, h3⟩ := cmpOk_of h
    exact PySem.W.lt_data r1 r2 h1 h2 (room_of ok h3) ⟨.bl _, H, I, rfl, q⟩
  · cases hp
theorem cr_gt : CmpR C .Gt pGt := by
  intro X ok pins s σ H x y v u Q I rx ry ⟨d, e, b, hd, he, hp, q⟩
  rw [← ok.K] at hd he
  obtain ⟨as, r1⟩ := Dp.reads I d x v hd rx
  obtain ⟨bs, r2⟩ := Dp.reads I e y u he ry
  unfold pGt at hp
  split at hp
  · rename_i h
    cases hp
    obtain ⟨h1, h2, h3⟩ := cmpOk_of h
    exact PySem.W.gt_data r1 r2 h1 h2 (room_of ok h3) ⟨.bl _, H, I, rfl, q⟩
  · cases hp
theorem cr_le : CmpR C .LtE pLe := by
  intro X ok pins s σ H x y v u Q I rx ry ⟨d, e, b, hd, he, hp, q⟩
  rw [← ok.K] at hd he
  obtain ⟨as, r1⟩ := Dp.reads I d x v hd rx
  obtain ⟨bs, r2⟩ := Dp.reads I e y u he ry
  unfold pLe at hp
  split at hp
  · rename_i h
    cases hp
    obtain ⟨h1, h2, h3⟩ := cmpOk_of h
    exact PySem.W.le_data r1 r2 h1 h2 (room_of ok h3) ⟨.bl _, H, I, rfl, q⟩
  · cases hp
theorem cr_ge : CmpR C .GtE pGe := by
  intro X ok pins s σ H x y v u Q I rx ry ⟨d, e, b, hd, he, hp, q⟩
  rw [← ok.K] at hd he
  obtain ⟨as, r1⟩ := Dp.reads I d x v hd rx
  obtain ⟨bs, r2⟩ := Dp.reads I e y u he ry
  unfold pGe at hp
  split at hp
  · rename_i h
    cases hp
    obtain ⟨h1, h2, h3⟩ := cmpOk_of h
    exact PySem.W.ge_data r1 r2 h1 h2 (room_of ok h3) ⟨.bl _, H, I, rfl, q⟩
  · cases hp
theorem pIn_of {d e : PyData} {b : Bool} (h : pIn d e = some b) : ∃ ds, (e = .list ds ∨ e = .tuple ds) ∧ min (PyData.depthAll ds) d.depth ≤ 50 ∧ b = ds.any fun y => PyData.eqv y d := by
  unfold pIn at h
  cases e with
  | list ds =>
    have h : (if decide (min (PyData.depthAll ds) d.depth ≤ 50) = true then some (ds.any fun y => PyData.eqv y d) else none) = some b := h
    split at h
    · rename_i g
      cases h
      exact ⟨ds, .inl rfl, of_decide_eq_true g, rfl⟩
    · cases h
  | tuple ds =>
    have h : (if decide (min (PyData.depthAll ds) d.depth ≤ 50) = true then some (ds.any fun y => PyData.eqv y d) else none) = some b := h
    split at h
    · rename_i g
      cases h
      exact ⟨ds, .inr rfl, of_decide_eq_true g, rfl⟩
    · cases h
  | _ => cases h
theorem cr_in : CmpR C .In pIn := by
  intro X ok pins s σ H x y v u Q I rx ry ⟨d, e, b, hd, he, hp, q⟩
  rw [← ok.K] at hd he
  obtain ⟨as, r1⟩ := Dp.reads I d x v hd rx
  obtain ⟨bs, r2⟩ := Dp.reads I e y u he ry
  obtain ⟨ds, h1, h2, rfl⟩ := pIn_of hp
  have pl := dp_plain _ _ he
  rcases h1 with rfl | rfl
  · exact SeqAt.in_list_data r2 r1 pl (dp_plain _ _ hd) (room_of1 ok h2) ⟨.bl _, H, I, rfl, q⟩
  · exact SeqAt.in_tuple_data r2 r1 pl (dp_plain _ _ hd) (room_of1 ok h2) ⟨.bl _, H, I, rfl, q⟩
theorem cr_notIn : CmpR C .NotIn pNotIn := by
  intro X ok pins s σ H x y v u Q I rx ry ⟨d, e, b, hd, he, hp, q⟩
  rw [← ok.K] at hd he
  obtain ⟨as, r1⟩ := Dp.reads I d x v hd rx
  obtain ⟨bs, r2⟩ := Dp.reads I e y u he ry
  obtain ⟨b', hb, rfl⟩ := Option.map_eq_some_iff.mp (show (pIn d e).map (!·) = some b from hp)
  obtain ⟨ds, h1, h2, rfl⟩ := pIn_of hb
  have pl := dp_plain _ _ he
  rcases h1 with rfl | rfl
  · exact SeqAt.notIn_list_data r2 r1 pl (dp_plain _ _ hd) (room_of1 ok h2) ⟨.bl _, H, I, rfl, q⟩
  · exact SeqAt.notIn_tuple_data r2 r1 pl (dp_plain _ _ hd) (room_of1 ok h2) ⟨.bl _, H, I, rfl, q⟩
end
def cmpK (p : P2) (x y : Opd) (s : Sg) : Res (Opd × Sg) := match x.dat s, y.dat s with
  | some d, some e => (Res.of (p d e)).bind fun b => .ok (.v (.f (.bool b)), s)
  | _, _ => .stuck
theorem cmpK_exc {p : P2} (x y : Opd) (s : Sg) (xd : XD) : cmpK p x y s ≠ .exc xd := by
  unfold cmpK
  split
  · cases p _ _ <;> intro h <;> cases h
  · intro h; cases h
theorem cmpK_ok {C : Ctx} {E : XD → Prop} {p : P2} {G0 H0 : Hp} {F0 : Ft} {s : Sg} {σ : St} {x y : Opd} {v1 v2 : V} {G H : Hp} {F : Ft} {f1 f2 : List Addr} {Q : VK} (t : Two C G0 H0 F0 s σ x y v1 v2 G H F f1 f2)
    (q : FG E (okE C.K G0 H0 F0 σ Q) (cmpK p x y s)) : ∃ d e b, Dp C.K H v1 d ∧ Dp C.K H v2 e ∧ p d e = some b ∧ Q (.bl b) H := by
  unfold cmpK at q
  split at q
  · rename_i d e e1 e2
    obtain ⟨b, eb, q⟩ := q.of
    exact ⟨d, e, b, t.dp1 e1, t.dp2 e2, eb, okE.fro q t.at2 (.bl b)⟩
  · exact q.elim
/-- a comparison: as a value, and as a test -/
def DV (C : Ctx) (e : Expr) (f : Sg → Res (Opd × Sg)) : Prop := ∀ X, C.Ok X → ∀ W, Takes X W → ∀ sg, ∃ T : TE, PE X e T ∧ PT X e (tTest T) ∧ ∀ σ H Q, RE C W (f sg) sg σ H Q → T σ H Q
theorem DV.de {C : Ctx} {e : Expr} {f : Sg → Res (Opd × Sg)} (h : DV C e f) : DE C e f := fun X ok W tk sg => let ⟨_, h1, _, h3⟩ := h X ok W tk sg; pe_weak h1 h3
theorem dv_two {C : Ctx} {a b e : Expr} {fa fb : Sg → Res (Opd × Sg)} {r : Cx → R2} {k : Opd → Opd → Sg → Res (Opd × Sg)} (he : ∀ X, C.Ok X → ∀ ta tb, PE X a ta → PE X b tb → PE X e (tOp (r X) ta tb)) (ht : ∀ X, C.Ok X → ∀ ta tb, PE X a ta → PE X b tb → PT X e (tTest (tOp (r X) ta tb))) (ha : DE C a fa) (hb : DE C b fb)
    (hk : ∀ X, C.Ok X → ∀ (E : XD → Prop) (σ : St) (G0 H0 : Hp) (F0 : Ft) (Q : VK) (x y : Opd) (s : Sg) (v1 v2 : V) (G H : Hp) (F : Ft) (f1 f2 : List Addr), Two C G0 H0 F0 s σ x y v1 v2 G H F f1 f2 →
      FG E (okE C.K G0 H0 F0 σ Q) (k x y s) → E = ExcW C (fun _ _ _ _ => False) G0 H0 F0 σ ∨ True → r X v1 v2 H Q) (hx : ∀ x y s xd, k x y s ≠ .exc xd) : DV C e (fTwo fa fb k) := fun X ok W tk sg =>
  ⟨_, he X ok _ _ (ha X ok W tk sg) (hb X ok W tk (nxt (fa sg))), ht X ok _ _ (ha X ok W tk sg) (hb X ok W tk (nxt (fa sg))), fun σ H Q ⟨G, F, R, q⟩ =>
    two_rd R q fun x y s2 v1 v2 G2 H2 F2 f1 f2 t2 q2 => hk X ok _ σ G H F Q x y s2 v1 v2 G2 H2 F2 f1 f2 t2 q2 (.inr trivial)⟩
section
variable {C : Ctx} {a b c : Expr} {fa fb fc : Sg → Res (Opd × Sg)} {pos : Pos} {op op' : CmpOp} {p p' : P2}
theorem de_cmp (hr : CmpR C op p) (ha : DE C a fa) (hb : DE C b fb) (hm : behindInMarks op b = false) : DV C (.Compare a [op] [b] pos) (fTwo fa fb (cmpK p)) :=
  dv_two (r := fun X x y H Q => ∃ d e b, Dp C.K H x d ∧ Dp C.K H y e ∧ p d e = some b ∧ Q (.bl b) H) (fun X ok ta tb ha hb => pe_cmpR (hr X ok) ha hb hm) (fun X ok ta tb ha hb => pt_cmpR (hr X ok) ha hb hm) ha hb (fun X ok E σ G0 H0 F0 Q x y s v1 v2 G H F f1 f2 t q _ => cmpK_ok t q) cmpK_exc
/-- a op b op' c -/
def fChain (p p' : P2) (fa fb fc : Sg → Res (Opd × Sg)) : Sg → Res (Opd × Sg) := fun sg => (fa sg).bind fun a => (fb a.2).bind fun b => (Res.of ((a.1.dat b.2).bind fun d => (b.1.dat b.2).bind fun e => p d e)).bind fun k =>
  if k = true then (fc b.2).bind fun c => cmpK p' b.1 c.1 c.2 else .ok (.v (.f (.bool false)), b.2)
theorem de_chain (hr : CmpR C op p) (hr' : CmpR C op' p') (ha : DE C a fa) (hb : DE C b fb) (hc : DE C c fc) (hm : lastMarks [op, op'] [b, c] = false := by with_unfolding_all rfl) : DV C (.Compare a [op, op'] [b, c] pos) (fChain p p' fa fb fc) := by
  intro X ok W tk sg
  refine ⟨_, pe_chain (hr X ok) (hr' X ok) (ha X ok W tk sg) (hb X ok W tk (nxt (fa sg))) (hc X ok W tk (nxt (fb (nxt (fa sg))))) hm, pt_chain (hr X ok) (hr' X ok) (ha X ok W tk sg) (hb X ok W tk (nxt (fa sg))) (hc X ok W tk (nxt (fb (nxt (fa sg))))) hm, fun σ H Q ⟨G, F, R, q⟩ => ?_⟩
  refine RE.fst R q fun x s1 v1 G1 H1 F1 f1 e1 q1 a1 h1 => ?_
  rw [e1]
  show RE C W (fb s1) s1 σ H1 _
  refine ⟨G1, F1, a1.rel, FG.bind q1 (fun _ e => e.later a1) fun b eb q2 v2 G2 H2 F2 f2 a2 h2 => ?_⟩
  obtain ⟨k, ek, q3⟩ := q2.of
  obtain ⟨d, ed, ek⟩ := Option.bind_eq_some_iff.mp ek
  obtain ⟨e, ee, ek⟩ := Option.bind_eq_some_iff.mp ek
  have a12 := a1.trans a2
  refine ⟨d, e, k, (h1.later a2).opn.dp a2.rel ed, h2.opn.dp a2.rel ee, ek, k, rfl, ?_⟩
  have n2 : nxt (fb s1) = b.2 := by
    show nxt (fb s1) = b.2
    rw [show fb s1 = .ok b from eb]
    rfl
  cases k with
  | false =>
    rw [if_neg Bool.false_ne_true] at q3 ⊢
    exact okE.fro q3 a12 (.bl false)
  | true =>
    rw [if_pos rfl] at q3 ⊢
    show RE C W (fc (nxt (fb s1))) (nxt (fb s1)) σ H2 _
    rw [n2]
    refine ⟨G2, F2, a2.rel, FG.bind q3 (fun _ e => e.later a12) fun c ec q4 v3 G3 H3 F3 f3 a3 h3 => ?_⟩
    have t : Two C G H F c.2 σ b.1 c.1 v2 v3 G3 H3 F3 f2 f3 := ⟨a12.trans a3, (h2.later a3).early a1, h3.early a12, h2.apart h3⟩
    exact cmpK_ok t q4
end
/-! ### is None -/
def OD.isNone : OD → Bool
  | .f .none => true
  | _ => false
theorem Own.isNone {K : PySem.W.Frag} {G H : Hp} {v : V} {od : OD} {fp : List Addr} (w : Own K G H v od fp) : decide (v = .non) = od.isNone := by
  cases w with
  | f h => cases h <;> rfl
  | _ => rfl
def fIsN (neg : Bool) (f : Sg → Res (Opd × Sg)) : Sg → Res (Opd × Sg) := fun sg => (f sg).bind fun a => (Res.of (a.1.od a.2)).bind fun od => .ok (.v (.f (.bool (if neg = true then !od.isNone else od.isNone))), a.2)
section
variable {C : Ctx} {a b c : Expr} {fa fb fc : Sg → Res (Opd × Sg)} {pos : Pos}
theorem de_isN {j pos'} (ha : DE C a fa) : DV C (.Compare a [.Is] [.Constant .none j pos'] pos) (fIsN false fa) := by
  intro X ok W tk sg
  refine ⟨_, pe_cmp (pc_isN (ha X ok W tk sg)) rfl, pt_cmp (pc_isN (ha X ok W tk sg)) rfl, fun σ H Q ⟨G, F, R, q⟩ => ⟨G, F, R, FG.bind q (fun _ e => e) fun a ea q' v G' H' F' fp at' hv => ?_⟩⟩
  obtain ⟨od, eo, q1⟩ := q'.of
  obtain ⟨_, w⟩ := hv.opn.own at'.rel eo
  rw [w.isNone]
  exact okE.fro q1 at' (.bl _)
theorem de_notN {j pos'} (ha : DE C a fa) : DV C (.Compare a [.IsNot] [.Constant .none j pos'] pos) (fIsN true fa) := by
  intro X ok W tk sg
  refine ⟨_, pe_cmp (pc_notN (ha X ok W tk sg)) rfl, pt_cmp (pc_notN (ha X ok W tk sg)) rfl, fun σ H Q ⟨G, F, R, q⟩ => ⟨G, F, R, FG.bind q (fun _ e => e) fun a ea q' v G' H' F' fp at' hv => ?_⟩⟩
  obtain ⟨od, eo, q1⟩ := q'.of
  obtain ⟨_, w⟩ := hv.opn.own at'.rel eo
  rw [w.isNone]
  exact okE.fro q1 at' (.bl _)
end

/-! ### tests -/
def okT (K : PySem.W.Frag) (G0 H0 : Hp) (F0 : Ft) (σ : St) (Q : Bool → Hp → Prop) (r : Bool × Sg) : Prop := ∀ G H F, At K G0 H0 F0 r.2 σ G H F → Q r.1 H
def RT (C : Ctx) (W : WX) (r : Res (Bool × Sg)) (sg : Sg) : TT := fun σ H Q => ∃ G F, Rel C.K G H sg σ F ∧ FG (ExcW C W G H F σ) (okT C.K G H F σ Q) r
def DT (C : Ctx) (e : Expr) (f : Sg → Res (Bool × Sg)) : Prop := ∀ X, C.Ok X → ∀ W, Takes X W → ∀ sg, PT X e (RT C W (f sg) sg)
def DW (C : Ctx) (e : Expr) (f : Sg → Res (Bool × Sg)) : Prop := ∀ X, C.Ok X → ∀ W, Takes X W → ∀ sg, PW X e (RT C W (f sg) sg)
theorem pw_weak {X : Cx} {e : Expr} {t t' : TT} (h : PW X e t) (w : ∀ σ H Q, t' σ H Q → t σ H Q) : PW X e t' := ⟨fun wh pins s σ H Q I q => h.run wh pins s σ H Q I (w σ H Q q)⟩
def fB (f : Sg → Res (Opd × Sg)) : Sg → Res (Bool × Sg) := fun sg => (f sg).bind fun a => match a.1.dat a.2 with
  | some (.bool b) => .ok (b, a.2)
  | _ => .stuck
def fAndT (f g : Sg → Res (Bool × Sg)) : Sg → Res (Bool × Sg) := fun sg => (f sg).bind fun a => if a.1 = true then g a.2 else .ok (false, a.2)
def fOrT (f g : Sg → Res (Bool × Sg)) : Sg → Res (Bool × Sg) := fun sg => (f sg).bind fun a => if a.1 = true then .ok (true, a.2) else g a.2
def fNotT (f : Sg → Res (Bool × Sg)) : Sg → Res (Bool × Sg) := fun sg => (f sg).bind fun a => .ok (!a.1, a.2)
theorem dp_bool {K : PySem.W.Frag} {H : Hp} {v : V} {b : Bool} (h : Dp K H v (.bool b)) : v = .bl b := by cases h; rfl
theorem DV.dt {C : Ctx} {e : Expr} {f : Sg → Res (Opd × Sg)} (h : DV C e f) : DT C e (fB f) := fun X ok W tk sg => by
  obtain ⟨T, _, h2, h3⟩ := h X ok W tk sg
  refine pt_weak h2 fun σ H Q ⟨G, F, R, q⟩ => h3 σ H (fun x H' => ∃ k, x = .bl k ∧ Q k H') ⟨G, F, R, FG.bind q (fun _ e => e) fun a ea q' v G' H' F' fp at' hv => ?_⟩
  cases e : a.1.dat a.2 with
  | none => simp only [e] at q'; exact q'.elim
  | some d =>
    cases d with
    | bool b =>
      simp only [e] at q'
      exact ⟨b, dp_bool (hv.opn.dp at'.rel e), q' G' H' F' at'⟩
    | _ => simp only [e] at q'; exact q'.elim
section
variable {C : Ctx} {a b : Expr} {rest : List Expr} {f g : Sg → Res (Bool × Sg)} {fe fe' : Sg → Res (Opd × Sg)} {pos : Pos}
theorem dt_val {e : Expr} (h : DE C e fe) (he : ∀ env whole, isTrue e env whole = (do let v ← whole; standAt e.pos; holding [v] (truthy v)) := by intro _ _; rfl) : DT C e (fB fe) := by
  intro X ok W tk sg
  refine pt_weak (pt_val (h X ok W tk sg) (he _)) fun σ H Q ⟨G, F, R, q⟩ => ⟨G, F, R, FG.bind q (fun _ e => e) fun a ea q' v G' H' F' fp at' hv => ?_⟩
  cases e : a.1.dat a.2 with
  | none => simp only [e] at q'; exact q'.elim
  | some d =>
    cases d with
    | bool b =>
      simp only [e] at q'
      exact ⟨b, dp_bool (hv.opn.dp at'.rel e), q' G' H' F' at'⟩
    | _ => simp only [e] at q'; exact q'.elim
theorem dw_and1 (h : DT C a f) : DW C (.BoolOp .And [a] pos) f := fun X ok W tk sg => pw_and1 (h X ok W tk sg)
theorem dw_or1 (h : DT C a f) : DW C (.BoolOp .Or [a] pos) f := fun X ok W tk sg => pw_or1 (h X ok W tk sg)
/-- a test, then something by what it was -/
theorem RT.fst {C : Ctx} {W : WX} {β : Type} {r : Res (Bool × Sg)} {k : Bool × Sg → Res β} {sg : Sg} {σ : St} {H : Hp} {Q : Bool → Hp → Prop} {G : Hp} {F : Ft} {p : β → Prop}
    (R : Rel C.K G H sg σ F) (h : FG (ExcW C W G H F σ) p (r.bind k)) (hk : ∀ b s1 G1 H1 F1, r = .ok (b, s1) → FG (ExcW C W G H F σ) p (k (b, s1)) → At C.K G H F s1 σ G1 H1 F1 → Q b H1) : RT C W r sg σ H Q :=
  ⟨G, F, R, h.bind (fun _ e => e) fun a ea q G1 H1 F1 at1 => hk a.1 a.2 G1 H1 F1 ea q at1⟩
theorem okT.later {K : PySem.W.Frag} {G0 H0 G1 H1 : Hp} {F0 F1 : Ft} {s1 : Sg} {σ : St} {Q : Bool → Hp → Prop} {r : Bool × Sg} (a : At K G0 H0 F0 s1 σ G1 H1 F1) (h : okT K G0 H0 F0 σ Q r) : okT K G1 H1 F1 σ Q r := fun G H F at2 => h G H F (a.trans at2)
theorem okE.later {K : PySem.W.Frag} {G0 H0 G1 H1 : Hp} {F0 F1 : Ft} {s1 : Sg} {σ : St} {Q : VK} {r : Opd × Sg} (a : At K G0 H0 F0 s1 σ G1 H1 F1) (h : okE K G0 H0 F0 σ Q r) : okE K G1 H1 F1 σ Q r := fun v G H F fp at2 hv => h v G H F fp (a.trans at2) (hv.early a)
theorem dw_and (h : DT C a f) (hr : DW C (.BoolOp .And (b :: rest) pos) g) : DW C (.BoolOp .And (a :: b :: rest) pos) (fAndT f g) := by
  intro X ok W tk sg
  refine pw_weak (pw_and (h X ok W tk sg) (hr X ok W tk (nxt (f sg)))) fun σ H Q ⟨G, F, R, q⟩ => ?_
  refine RT.fst R q fun k s1 G1 H1 F1 e1 q1 a1 => ?_
  rw [e1]
  cases k with
  | true =>
    rw [if_pos rfl] at q1 ⊢
    exact ⟨G1, F1, a1.rel, q1.mono (fun _ e => e.later a1) fun _ e => e.later a1⟩
  | false =>
    rw [if_neg Bool.false_ne_true] at q1 ⊢
    exact q1 _ _ _ a1
theorem dw_or (h : DT C a f) (hr : DW C (.BoolOp .Or (b :: rest) pos) g) : DW C (.BoolOp .Or (a :: b :: rest) pos) (fOrT f g) := by
  intro X ok W tk sg
  refine pw_weak (pw_or (h X ok W tk sg) (hr X ok W tk (nxt (f sg)))) fun σ H Q ⟨G, F, R, q⟩ => ?_
  refine RT.fst R q fun k s1 G1 H1 F1 e1 q1 a1 => ?_
  rw [e1]
  cases k with
  | true =>
    rw [if_pos rfl] at q1 ⊢
    exact q1 _ _ _ a1
  | false =>
    rw [if_neg Bool.false_ne_true] at q1 ⊢
    exact ⟨G1, F1, a1.rel, q1.mono (fun _ e => e.later a1) fun _ e => e.later a1⟩
theorem dt_w {e : Expr} (h : DW C e f) : DT C e f := fun X ok W tk sg => (h X ok W tk sg).pt
theorem dt_not (h : DT C a f) : DT C (.UnaryOp .Not a pos) (fNotT f) := by
  intro X ok W tk sg
  refine pt_weak (pt_not (h X ok W tk sg)) fun σ H Q ⟨G, F, R, q⟩ => ?_
  exact RT.fst R q fun k s1 G1 H1 F1 e1 q1 a1 => q1 _ _ _ a1
/-! values of bools -/
def fAnd (f g : Sg → Res (Opd × Sg)) : Sg → Res (Opd × Sg) := fun sg => (fB f sg).bind fun a => if a.1 = true then g a.2 else .ok (.v (.f (.bool false)), a.2)
def fOr (f g : Sg → Res (Opd × Sg)) : Sg → Res (Opd × Sg) := fun sg => (fB f sg).bind fun a => if a.1 = true then .ok (.v (.f (.bool true)), a.2) else g a.2
def fNot (f : Sg → Res (Opd × Sg)) : Sg → Res (Opd × Sg) := fun sg => (fB f sg).bind fun a => .ok (.v (.f (.bool (!a.1))), a.2)
theorem fB_of {f : Sg → Res (Opd × Sg)} {sg : Sg} {β : Type} {k : Bool × Sg → Res β} : (fB f sg).bind k = (f sg).bind fun a => (match a.1.dat a.2 with
  | some (.bool b) => Res.ok (b, a.2)
  | _ => .stuck).bind k := by
  unfold fB
  cases f sg <;> rfl
theorem de_one {op} (h : DE C a fe) : DE C (.BoolOp op [a] pos) fe := fun X ok W tk sg => pe_one (h X ok W tk sg)
theorem fB_fst {W : WX} {β : Type} {k : Bool × Sg → Res β} {sg : Sg} {σ : St} {H : Hp} {Q : VK} {G : Hp} {F : Ft} {p : β → Prop}
    (R : Rel C.K G H sg σ F) (h : FG (ExcW C W G H F σ) p ((fB fe sg).bind k)) (hk : ∀ o b s1 G1 H1 F1, fe sg = .ok (o, s1) → FG (ExcW C W G H F σ) p (k (b, s1)) → At C.K G H F s1 σ G1 H1 F1 → Q (.bl b) H1) : RE C W (fe sg) sg σ H Q := by
  rw [fB_of] at h
  refine RE.fst R h fun o s1 v G1 H1 F1 fp e1 q1 a1 h1 => ?_
  cases e : o.dat s1 with
  | none => simp only [e] at q1; exact q1.elim
  | some d =>
    cases d with
    | bool b =>
      simp only [e] at q1
      rw [dp_bool (h1.opn.dp a1.rel e)]
      exact hk o b s1 G1 H1 F1 e1 q1 a1
    | _ => simp only [e] at q1; exact q1.elim
theorem de_and (h : DE C a fe) (hr : DE C (.BoolOp .And (b :: rest) pos) fe') : DE C (.BoolOp .And (a :: b :: rest) pos) (fAnd fe fe') := by
  intro X ok W tk sg
  refine pe_weak (pe_and (h X ok W tk sg) (hr X ok W tk (nxt (fe sg)))) fun σ H Q ⟨G, F, R, q⟩ => ?_
  refine fB_fst R q fun o k s1 G1 H1 F1 e1 q1 a1 => ⟨k, rfl, ?_⟩
  rw [e1]
  cases k with
  | true =>
    rw [if_pos rfl] at q1 ⊢
    exact ⟨G1, F1, a1.rel, q1.mono (fun _ e => e.later a1) fun _ e => e.later a1⟩
  | false =>
    rw [if_neg Bool.false_ne_true] at q1 ⊢
    exact okE.fro q1 a1 (.bl false)
theorem de_or (h : DE C a fe) (hr : DE C (.BoolOp .Or (b :: rest) pos) fe') : DE C (.BoolOp .Or (a :: b :: rest) pos) (fOr fe fe') := by
  intro X ok W tk sg
  refine pe_weak (pe_or (h X ok W tk sg) (hr X ok W tk (nxt (fe sg)))) fun σ H Q ⟨G, F, R, q⟩ => ?_
  refine fB_fst R q fun o k s1 G1 H1 F1 e1 q1 a1 => ⟨k, rfl, ?_⟩
  rw [e1]
  cases k with
  | true =>
    rw [if_pos rfl] at q1 ⊢
    exact okE.fro q1 a1 (.bl true)
  | false =>
    rw [if_neg Bool.false_ne_true] at q1 ⊢
    exact ⟨G1, F1, a1.rel, q1.mono (fun _ e => e.later a1) fun _ e => e.later a1⟩
theorem de_not (h : DE C a fe) : DE C (.UnaryOp .Not a pos) (fNot fe) := by
  intro X ok W tk sg
  refine pe_weak (pe_not (h X ok W tk sg)) fun σ H Q ⟨G, F, R, q⟩ => ?_
  exact fB_fst R q fun o k s1 G1 H1 F1 e1 q1 a1 => ⟨k, rfl, okE.fro q1 a1 (.bl _)⟩
/-- a if t else b -/
def fIf (t : Sg → Res (Bool × Sg)) (f g : Sg → Res (Opd × Sg)) : Sg → Res (Opd × Sg) := fun sg => (t sg).bind fun a => if a.1 = true then f a.2 else g a.2
theorem de_if {t : Expr} (ht : DT C t f) (ha : DE C a fe) (hb : DE C b fe') : DE C (.IfExp t a b pos) (fIf f fe fe') := by
  intro X ok W tk sg
  refine pe_weak (pe_ifExp (ht X ok W tk sg) (ha X ok W tk (nxt (f sg))) (hb X ok W tk (nxt (f sg)))) fun σ H Q ⟨G, F, R, q⟩ => ?_
  refine RT.fst R q fun k s1 G1 H1 F1 e1 q1 a1 => ?_
  rw [e1]
  cases k with
  | true =>
    rw [if_pos rfl] at q1 ⊢
    exact ⟨G1, F1, a1.rel, q1.mono (fun _ e => e.later a1) fun _ e => e.later a1⟩
  | false =>
    rw [if_neg Bool.false_ne_true] at q1 ⊢
    exact ⟨G1, F1, a1.rel, q1.mono (fun _ e => e.later a1) fun _ e => e.later a1⟩
end
end DL
set_option Elab.async false
set_option linter.all false
set_option maxRecDepth 100000
set_option maxHeartbeats 4000000
namespace DL
open PySem PySem.Spec PyProof.Rows L2

/-! ### items -/
/-- the items of a list or a tuple, all frozen -/
def OD.kidA : OD → Option (List PyData)
  | .f (.list ds) => some ds
  | .f (.tuple ds) => some ds
  | .l ods => frsO ods
  | .s ds => some ds
  | _ => none
theorem Own.kidA {K : PySem.W.Frag} {G H : Hp} {v : V} {od : OD} {fp : List Addr} (s : Same G H) (w : Own K G H v od fp) {ds : List PyData} (e : od.kidA = some ds) : ∃ a vs, v = .ref a ∧ (SqL K H a vs ∨ SqT K H a vs) ∧ IsAll G vs ds := by
  cases w with
  | f h =>
    cases h with
    | lst h1 h2 => cases e; exact ⟨_, _, rfl, .inl (SqL.of (s _ _ h1)), h2⟩
    | tup h1 h2 => cases e; exact ⟨_, _, rfl, .inr (SqT.of (s _ _ h1)), h2⟩
    | _ => cases e
  | l h1 h2 h3 h4 => exact ⟨_, _, rfl, .inl (SqL.of h2), h3.frs e⟩
  | s h1 h2 => cases e; exact ⟨_, _, rfl, .inl (s.seq h1), h2⟩
  | _ => cases e
theorem IsAll.atI {G : Hp} {vs : List V} {ds : List PyData} (h : IsAll G vs ds) {i : Int} {d : PyData} (e : atI ds i = some d) : ∃ v, L2.atI vs i = some v ∧ Is G v d := by
  unfold L2.atI at e ⊢
  rw [h.length]
  obtain ⟨j, e1, e2⟩ := Option.bind_eq_some_iff.mp e
  obtain ⟨v, e3, e4⟩ := h.get e2
  exact ⟨v, by rw [e1]; exact e3, e4⟩
/-! a dict's keys -/
def keyF : PyData → Bool
  | .int _ => true
  | .str _ => true
  | _ => false
def keyFt : Bool → PyData → Bool
  | false, d => keyF d
  | true, .tuple ds => ds.all keyF
  | true, _ => false
def dget {α : Type} (kvs : List (PyData × α)) (k : PyData) : Option α := (kvs.find? fun p => PyData.eqv p.1 k).map (·.2)
theorem eqv_kD (a b : Key) : PyData.eqv (kD a) (kD b) = decide (a = b) := by
  cases a with
  | inl i =>
    cases b with
    | inl j =>
      show (i == j) = _
      by_cases h : i = j
      · subst h; simp
      · have : ¬ ((Sum.inl i : Key) = Sum.inl j) := fun e => h (Sum.inl.inj e)
        rw [decide_eq_false this]
        simpa using h
    | inr y => exact (decide_eq_false (fun e => by cases e)).symm
  | inr x =>
    cases b with
    | inl j => exact (decide_eq_false (fun e => by cases e)).symm
    | inr y =>
      show (x == y) = _
      by_cases h : x = y
      · subst h; simp
      · have : ¬ ((Sum.inr x : Key) = Sum.inr y) := fun e => h (Sum.inr.inj e)
        rw [decide_eq_false this]
        simpa using h
theorem eqvAll_kD : ∀ a b : List Key, PyData.eqvAll (a.map kD) (b.map kD) = decide (a = b)
  | [], [] => rfl
  | [], _ :: _ => rfl
  | _ :: _, [] => rfl
  | x :: a, y :: b => by
    show (PyData.eqv (kD x) (kD y) && PyData.eqvAll (a.map kD) (b.map kD)) = _
    rw [eqv_kD, eqvAll_kD a b, ← Bool.decide_and]
    exact decide_eq_decide.mpr ⟨fun h => by rw [h.1, h.2], fun h => by cases h; exact ⟨rfl, rfl⟩⟩
theorem key_of {G : Hp} {y : V} {k : PyData} (h : Is G y k) (hk : keyF k = true) : ∃ k', y = kV k' ∧ k = kD k' := by
  cases h with
  | int i => exact ⟨.inl i, rfl, rfl⟩
  | str x => exact ⟨.inr x, rfl, rfl⟩
  | _ => cases hk
theorem keys_of {G : Hp} : ∀ {ys : List V} {ks : List PyData}, IsAll G ys ks → ks.all keyF = true → ∃ ks', ys = List.map kV ks' ∧ ks = List.map kD ks'
  | _, _, .nil, _ => ⟨[], rfl, rfl⟩
  | _, _, .cons a r, h => by
    rw [List.all_cons, Bool.and_eq_true] at h
    obtain ⟨k, e1, e2⟩ := key_of a h.1
    obtain ⟨ks, e3, e4⟩ := keys_of r h.2
    exact ⟨k :: ks, by rw [e1, e3]; rfl, by rw [e2, e4]; rfl⟩
theorem find_map' {α β γ : Type} (l : List α) (f : α → β) (p : β → Bool) (g : β → γ) : ((l.map f).find? p).map g = (l.find? fun a => p (f a)).map fun a => g (f a) := by
  induction l with
  | nil => rfl
  | cons x l ih =>
    rw [List.map_cons, List.find?_cons, List.find?_cons]
    cases p (f x) with
    | true => rfl
    | false => exact ih
theorem dget_hd {G : Hp} {H : Hp} {t : Bool} {a : Addr} {o : HO} {kvs : List (PyData × V)} {y : V} {k : PyData} (r : Rd H a o) (h : HD t o kvs) (hy : Is H y k) (hk : keyFt t k = true) : DGet H a y (dget kvs k) := by
  cases h with
  | k kvs =>
    obtain ⟨k', rfl, rfl⟩ := key_of hy hk
    refine .inl ⟨kvs, k', r, rfl, ?_⟩
    unfold dget valV
    rw [find_map']
    refine congrArg (Option.map _) (congrArg (fun p => List.find? p kvs) (funext fun kv => ?_))
    exact eqv_kD kv.1 k'
  | t kvs =>
    cases hy with
    | @tup b vs ds hb hr =>
      obtain ⟨ks, e1, e2⟩ := keys_of hr hk
      subst e1
      subst e2
      refine .inr ⟨kvs, ks, b, r, rfl, hb, ?_⟩
      unfold dget valV
      rw [find_map']
      refine congrArg (Option.map _) (congrArg (fun p => List.find? p kvs) (funext fun kv => ?_))
      exact eqvAll_kD kv.1 ks
    | _ => cases hk
theorem find_zip {α β γ : Type} (p : α → Bool) : ∀ (l : List (α × β)) (m : List (α × γ)), l.map Prod.fst = m.map Prod.fst → ∀ i : Nat, (l.findIdx? fun x => p x.1) = some i → ∀ x : α × γ, m[i]? = some x → (m.find? fun x => p x.1) = some x
  | [], _, _, i, e, _, _ => by cases e
  | a :: l, [], h, _, _, _, _ => by cases h
  | a :: l, b :: m, h, i, e, x, ex => by
    rw [List.map_cons, List.map_cons] at h
    injection h with h1 h2
    rw [List.findIdx?_cons] at e
    rw [List.find?_cons, ← h1]
    cases q : p a.1 with
    | true =>
      rw [q, if_pos rfl] at e
      cases e
      cases ex
      rfl
    | false =>
      rw [q, if_neg Bool.false_ne_true] at e
      obtain ⟨j, e1, rfl⟩ := Option.map_eq_some_iff.mp e
      exact find_zip p l m h2 j e1 x (by simpa using ex)
/-- the place of a key -/
theorem dget_two {α : Type} {R : V → α → Prop} : ∀ {kvs : List (PyData × V)} {mk : List (PyData × α)}, kvs.map Prod.fst = mk.map Prod.fst → (∀ (i : Nat) (v : V) (x : α), (kvs.map Prod.snd)[i]? = some v → (mk.map Prod.snd)[i]? = some x → R v x) → ∀ {k : PyData} {x : α}, dget mk k = some x → ∃ v, dget kvs k = some v ∧ R v x
  | [], [], _, _, k, x, e => by cases e
  | [], _ :: _, h, _, _, _, _ => by cases h
  | _ :: _, [], h, _, _, _, _ => by cases h
  | a :: l, b :: m, h, hr, k, x, e => by
    rw [List.map_cons, List.map_cons] at h
    injection h with h1 h2
    unfold dget at e ⊢
    rw [List.find?_cons] at e ⊢
    rw [h1]
    cases q : PyData.eqv b.1 k with
    | true =>
      rw [q] at e
      cases e
      exact ⟨a.2, rfl, hr 0 _ _ rfl rfl⟩
    | false =>
      rw [q] at e
      exact dget_two h2 (fun i v x e1 e2 => hr (i + 1) v x (by simpa using e1) (by simpa using e2)) e
theorem dget_none {α : Type} : ∀ {kvs : List (PyData × V)} {mk : List (PyData × α)}, kvs.map Prod.fst = mk.map Prod.fst → ∀ {k : PyData}, dget mk k = none → dget kvs k = none
  | [], [], _, k, e => rfl
  | [], _ :: _, h, _, _ => by cases h
  | _ :: _, [], h, _, _ => by cases h
  | a :: l, b :: m, h, k, e => by
    rw [List.map_cons, List.map_cons] at h
    injection h with h1 h2
    unfold dget at e ⊢
    rw [List.find?_cons] at e ⊢
    rw [h1]
    cases q : PyData.eqv b.1 k with
    | true => rw [q] at e; cases e
    | false =>
      rw [q] at e
      exact dget_none h2 e
/-- what a dict has at a key: there (with frozen data), or not -/
def OD.dk : OD → PyData → Option (Option PyData)
  | .g t kvs, k => if keyFt t k = true then some (dget kvs k) else none
  | .m t kvs, k => if keyFt t k = true then match dget kvs k with
    | none => some none
    | some (.f d) => some (some d)
    | some _ => none
    else none
  | _, _ => none
/-- whether a dict has a key -/
def OD.dh : OD → PyData → Option Bool
  | .g t kvs, k => if keyFt t k = true then some (dget kvs k).isSome else none
  | .m t kvs, k => if keyFt t k = true then some (dget kvs k).isSome else none
  | _, _ => none
theorem OwnAll.getI {K : PySem.W.Frag} {G H : Hp} : ∀ {vs : List V} {ods : List OD} {fp : List Addr}, OwnAll K G H vs ods fp → ∀ {i : Nat} {v : V} {od : OD}, vs[i]? = some v → ods[i]? = some od → ∃ fp', Own K G H v od fp' ∧ ∀ b ∈ fp', b ∈ fp
  | _, _, _, .nil, i, v, od, e, _ => by simp at e
  | _, _, _, .cons (f1 := f1) a r n, 0, v, od, e1, e2 => by
    cases e1
    cases e2
    exact ⟨f1, a, fun b hb => List.mem_append_left _ hb⟩
  | _, _, _, .cons a r n, i + 1, v, od, e1, e2 => by
    obtain ⟨fp', w, h⟩ := OwnAll.getI r (i := i) (by simpa using e1) (by simpa using e2)
    exact ⟨fp', w, fun b hb => List.mem_append_right _ (h b hb)⟩
theorem IsAll.getI {G : Hp} {vs : List V} {ds : List PyData} (h : IsAll G vs ds) {i : Nat} {v : V} {d : PyData} (e1 : vs[i]? = some v) (e2 : ds[i]? = some d) : Is G v d := by
  obtain ⟨v', e3, w⟩ := h.get e2
  rw [e1] at e3
  cases e3
  exact w
def DkR (G : Hp) : Option PyData → Option V → Prop
  | none, rv => rv = none
  | some d, rv => ∃ u, rv = some u ∧ Is G u d
theorem Own.dk {K : PySem.W.Frag} {G H : Hp} {v y : V} {od : OD} {k : PyData} {fp : List Addr} (s : Same G H) (w : Own K G H v od fp) (hy : Is H y k) {r : Option PyData} (e : od.dk k = some r) :
    ∃ a rv, v = .ref a ∧ DGet H a y rv ∧ DkR G r rv := by
  cases w with
  | @m t a o kvs mk fp h1 h2 h3 h4 h5 h6 =>
    unfold OD.dk at e
    by_cases hk : keyFt t k = true
    · simp only [hk, if_true] at e
      refine ⟨a, dget kvs k, rfl, dget_hd (G := G) (.inl h2) h3 hy hk, ?_⟩
      cases q : dget mk k with
      | none =>
        simp only [q] at e
        cases e
        exact dget_none h6 q
      | some od =>
        simp only [q] at e
        cases od with
        | f d =>
          cases e
          obtain ⟨u, e1, e2⟩ := dget_two (R := fun v od => ∃ fp', Own K G H v od fp') h6 (fun i v x e1 e2 => let ⟨fp', w, _⟩ := h4.getI e1 e2; ⟨fp', w⟩) q
          obtain ⟨_, w⟩ := e2
          cases w with
          | f w => exact ⟨u, e1, w⟩
        | _ => cases e
    · simp only [hk] at e
      cases e
  | @g t a ob o kvs mk h1 h2 h3 h4 =>
    unfold OD.dk at e
    by_cases hk : keyFt t k = true
    · simp only [hk, if_true] at e
      have e : dget mk k = r := Option.some.inj e
      subst e
      refine ⟨a, dget kvs k, rfl, dget_hd (G := G) (.inr ⟨_, s _ _ h1⟩) h2 hy hk, ?_⟩
      cases q : dget mk k with
      | none => exact dget_none h4 q
      | some d =>
        obtain ⟨u, e1, e2⟩ := dget_two (R := fun v d => Is G v d) h4 (fun i v x e1 e2 => h3.getI e1 e2) q
        exact ⟨u, e1, e2⟩
    · simp only [hk] at e
      cases e
  | _ => cases e
theorem Own.dh {K : PySem.W.Frag} {G H : Hp} {v y : V} {od : OD} {k : PyData} {fp : List Addr} (s : Same G H) (w : Own K G H v od fp) (hy : Is H y k) {b : Bool} (e : od.dh k = some b) : ∃ a rv, v = .ref a ∧ DGet H a y rv ∧ rv.isSome = b := by
  have key : ∀ {α : Type} {kvs : List (PyData × V)} {mk : List (PyData × α)}, kvs.map Prod.fst = mk.map Prod.fst → (dget kvs k).isSome = (dget mk k).isSome := fun {α kvs mk} h => by
    cases q : dget mk k with
    | none => rw [dget_none h q]; rfl
    | some x =>
      obtain ⟨u, e1, _⟩ := dget_two (R := fun _ _ => True) h (fun _ _ _ _ _ => trivial) q
      rw [e1]; rfl
  cases w with
  | @m t a o kvs mk fp h1 h2 h3 h4 h5 h6 =>
    unfold OD.dh at e
    by_cases hk : keyFt t k = true
    · simp only [hk, if_true] at e
      cases e
      exact ⟨a, dget kvs k, rfl, dget_hd (G := G) (.inl h2) h3 hy hk, key h6⟩
    · simp only [hk] at e
      cases e
  | @g t a ob o kvs mk h1 h2 h3 h4 =>
    unfold OD.dh at e
    by_cases hk : keyFt t k = true
    · simp only [hk, if_true] at e
      cases e
      exact ⟨a, dget kvs k, rfl, dget_hd (G := G) (.inr ⟨_, s _ _ h1⟩) h2 hy hk, key h4⟩
    · simp only [hk] at e
      cases e
  | _ => cases e
/-- the strict data of an operand -/
def Opd.er (sg : Sg) (o : Opd) : Option PyData := (o.od sg).bind OD.er
theorem Opn.is {K : PySem.W.Frag} {G H : Hp} {F : Ft} {σ : St} {sg : Sg} {v : V} {o : Opd} {fp : List Addr} {d : PyData} (r : Rel K G H sg σ F) (h : Opn K G H F σ v o fp) (e : o.er sg = some d) : Is H v d := by
  unfold Opd.er at e
  cases q : o.od sg with
  | none => rw [q] at e; cases e
  | some od =>
    rw [q] at e
    obtain ⟨fp', w⟩ := h.own r q
    exact w.is r.sub (fun _ _ _ e => e) e
/-- a[b] -/
def subK (x y : Opd) (s : Sg) : Res (Opd × Sg) := match x.od s with
  | some (.f (.str z)) => match y.dat s with
    | some (.int i) => (guardR (decide (z.length < 1000000))).bind fun _ => (Res.of (atI z.cps.toList i)).bind fun c => .ok (.v (.f (.str ⟨#[c]⟩)), s)
    | _ => .stuck
  | some (.m t kvs) => (Res.of ((y.er s).bind fun k => (OD.m t kvs).dk k)).bind fun r => (Res.of r).bind fun d => .ok (.v (.f d), s)
  | some (.g t kvs) => (Res.of ((y.er s).bind fun k => (OD.g t kvs).dk k)).bind fun r => (Res.of r).bind fun d => .ok (.v (.f d), s)
  | some od => match y.dat s with
    | some (.int i) => (Res.of (od.kidA.bind fun ds => atI ds i)).bind fun d => .ok (.v (.f d), s)
    | _ => .stuck
  | none => .stuck
theorem of_exc {α β : Type} {o : Option α} {k : α → Res β} {xd : XD} (h : ∀ a, k a ≠ .exc xd) : (Res.of o).bind k ≠ .exc xd := by
  cases o with
  | none => intro z; cases z
  | some a => exact h a
theorem subK_exc (x y : Opd) (s : Sg) (xd : XD) : subK x y s ≠ .exc xd := by
  unfold subK
  split
  · split
    · unfold guardR
      split
      · exact of_exc fun a z => by cases z
      · intro z; cases z
    · intro z; cases z
  · exact of_exc fun a => of_exc fun b z => by cases z
  · exact of_exc fun a => of_exc fun b z => by cases z
  · split
    · exact of_exc fun a z => by cases z
    · intro z; cases z
  · intro z; cases z
theorem tail_dict {prog : Program} {w : World} {A : Around} {E : Value → Shared → Prop} {s : Shared} {value slice : Expr} {o i : Value} {T id : String} {Q : Value → Shared → Prop} (hT : s.TypeIs o T) (hl : typeLookup (.type T) "__getitem__" = pure (some (.builtin id)))
    (hs : subscripted slice false o i = operate [o, i] (getItem o i)) (h : wpAny (model prog w) A (getItem o i) Q E s) : wpAny (model prog w) A (subscriptTail value slice o i) Q E s := by
  unfold subscriptTail; refine wpAny_bind ?_
  rw [getitemInPython_of_ne hT.not_modules]; refine wpAny_bind (wpAny_specialOf hT hl ?_)
  have z : wpAny (model prog w) A (subscripted slice false o i >>= fun r => letTemporaryGo value o r >>= fun _ => pure r) Q E s := by
    refine wpAny_bind ?_; rw [hs]
    exact wpAny_operating (wpAny_mono h (fun r s1 q => wpAny_bind (wpAny_letTemporaryGo (wpAny_pure q))) fun _ _ x => x)
  first | exact wpAny_pure z | exact wpAny_bind (wpAny_pure z) | exact z
theorem ix_dict {X : Cx} (hu : X.A.units + 1 < cLine) : IxR X (fun x y H Q => ∃ a v, x = .ref a ∧ DGet H a y (some v) ∧ Q v H) := by
  intro value slice pins s σ H x y v u Q I rx ry ⟨a, z, ex, g, q⟩ hs
  subst ex
  obtain rfl : v = Value.ref a := rx
  exact tail_dict (dict_typeIs I g) PySem.F.slot_dict_getitem.lookup hs (d_getItem hu I g ry fun w' s3 I3 rw' => ⟨z, H, I3, rw', q⟩)
section
variable {C : Ctx} {a b : Expr} {fa fb : Sg → Res (Opd × Sg)} {pos : Pos}
theorem de_ix (ha : DE C a fa) (hb : DE C b fb) (hs : PlainIx b) : DE C (.Subscript a b pos) (fTwo fa fb subK) :=
  de_two (r := fun X x y H Q => rIx X.K x y H Q ∨ ∃ a v, x = .ref a ∧ DGet H a y (some v) ∧ Q v H)
    (fun X ok ta tb ha hb => pe_ix (ix_seq.or (ix_dict (hu_of ok.room))) ha hb hs) ha hb (fun X ok E σ G0 H0 F0 Q x y s v1 v2 G H F f1 f2 t q _ => by
    unfold subK at q
    split at q
    · rename_i z e1
      split at q
      · rename_i i e2
        obtain ⟨g, q⟩ := q.guard
        obtain ⟨c, ec, q⟩ := q.of
        obtain ⟨_, w1⟩ := t.own1 e1
        cases w1 with
        | f w1 =>
          cases w1
          exact .inl (.inr (.inr ⟨z, i, c, rfl, dp_int (t.dp2 e2), Nat.le_of_lt (line g), ec, okE.fro q t.at2 (.str _)⟩))
      · exact q.elim
    · rename_i t' kvs e1
      obtain ⟨r, er, q⟩ := q.of
      obtain ⟨k, ek, er⟩ := Option.bind_eq_some_iff.mp er
      obtain ⟨d, ed, q⟩ := q.of
      subst ed
      obtain ⟨_, w1⟩ := t.own1 e1
      obtain ⟨a, rv, rfl, dg, u, rfl, iu⟩ := w1.dk t.at2.rel.sub (t.h2.opn.is t.at2.rel ek) er
      exact .inr ⟨a, u, rfl, dg, okE.fro q t.at2 iu⟩
    · rename_i t' kvs e1
      obtain ⟨r, er, q⟩ := q.of
      obtain ⟨k, ek, er⟩ := Option.bind_eq_some_iff.mp er
      obtain ⟨d, ed, q⟩ := q.of
      subst ed
      obtain ⟨_, w1⟩ := t.own1 e1
      obtain ⟨a, rv, rfl, dg, u, rfl, iu⟩ := w1.dk t.at2.rel.sub (t.h2.opn.is t.at2.rel ek) er
      exact .inr ⟨a, u, rfl, dg, okE.fro q t.at2 iu⟩
    · rename_i od _ _ _ e1
      split at q
      · rename_i i e2
        obtain ⟨d, ed, q⟩ := q.of
        obtain ⟨ds, ek, ei⟩ := Option.bind_eq_some_iff.mp ed
        obtain ⟨_, w1⟩ := t.own1 e1
        obtain ⟨a, vs, rfl, hs, r⟩ := w1.kidA t.at2.rel.sub ek
        obtain ⟨v, ev, iv⟩ := r.atI ei
        have z := okE.fro q t.at2 iv
        rw [← ok.K] at hs
        rcases hs with hs | hs
        · exact .inl (.inl ⟨a, vs, i, v, rfl, dp_int (t.dp2 e2), hs, ev, z⟩)
        · exact .inl (.inr (.inl ⟨a, vs, i, v, rfl, dp_int (t.dp2 e2), hs, ev, z⟩))
      · exact q.elim
    · exact q.elim) subK_exc
end
end DL
set_option Elab.async false
set_option linter.all false
set_option maxRecDepth 100000
set_option maxHeartbeats 4000000
namespace DL
open PySem PySem.Spec PyProof.Rows L2

/-- a text of one sign -/
def sign1 : Option PyData → Option Nat
  | some (.str z) => match z.cps.toList with
    | [c] => some c
    | _ => none
  | _ => none
theorem sign1_of {d : Option PyData} {c : Nat} (h : sign1 d = some c) : d = some (.str ⟨#[c]⟩) := by
  cases d with
  | none => cases h
  | some d =>
    cases d with
    | str z =>
      unfold sign1 at h
      cases e : z.cps.toList with
      | nil => simp only [e] at h; cases h
      | cons x r =>
        cases r with
        | nil =>
          simp only [e] at h
          cases h
          obtain ⟨a⟩ := z
          have : a = #[c] := Array.toList_inj.mp e
          rw [this]
        | cons y r => simp only [e] at h; cases h
    | _ => cases h
/-- a built-in name that the module leaves as it is -/
def Bi (C : Ctx) (x : Str) : Prop := C.sc.names.lookup x = some .globalImplicit ∧ C.mg x = none
/-! ### in, not in: lists, tuples, dicts, one sign of a text -/
def inK (neg : Bool) (x y : Opd) (s : Sg) : Res (Opd × Sg) := match y.od s with
  | some (.m t kvs) => (Res.of ((x.er s).bind fun k => (OD.m t kvs).dh k)).bind fun b => .ok (.v (.f (.bool (if neg = true then !b else b))), s)
  | some (.g t kvs) => (Res.of ((x.er s).bind fun k => (OD.g t kvs).dh k)).bind fun b => .ok (.v (.f (.bool (if neg = true then !b else b))), s)
  | some (.f (.str z)) => (Res.of (sign1 (x.dat s))).bind fun c => .ok (.v (.f (.bool (if neg = true then !decide (c ∈ z.cps.toList) else decide (c ∈ z.cps.toList)))), s)
  | _ => cmpK (if neg = true then pNotIn else pIn) x y s
theorem inK_exc {neg : Bool} (x y : Opd) (s : Sg) (xd : XD) : inK neg x y s ≠ .exc xd := by
  unfold inK
  split
  · exact of_exc fun a z => by cases z
  · exact of_exc fun a z => by cases z
  · exact of_exc fun a z => by cases z
  · exact cmpK_exc x y s xd
theorem opr_din {X : Cx} (hu : X.A.units + 1 < cLine) : OpR X (compareOp .In) (fun x y H Q => ∃ a o, y = .ref a ∧ DGet H a x o ∧ Q (.bl o.isSome) H) := by
  intro pins s σ H x y v u Q I rx ry ⟨a, o, ey, g, q⟩
  subst ey
  obtain rfl : u = Value.ref a := ry
  exact d_in hu I g rx fun s3 I3 => ⟨.bl o.isSome, H, I3, rfl, q⟩
theorem opr_dnotin {X : Cx} (hu : X.A.units + 1 < cLine) : OpR X (compareOp .NotIn) (fun x y H Q => ∃ a o, y = .ref a ∧ DGet H a x o ∧ Q (.bl (!o.isSome)) H) := by
  intro pins s σ H x y v u Q I rx ry ⟨a, o, ey, g, q⟩
  subst ey
  obtain rfl : u = Value.ref a := ry
  exact d_notIn hu I g rx fun s3 I3 => ⟨.bl (!o.isSome), H, I3, rfl, q⟩
section
variable {C : Ctx} {a b : Expr} {fa fb : Sg → Res (Opd × Sg)} {pos : Pos}
theorem de_in (ha : DE C a fa) (hb : DE C b fb) (hm : behindInMarks .In b = false) : DV C (.Compare a [.In] [b] pos) (fTwo fa fb (inK false)) :=
  dv_two (r := fun X x y H Q => (∃ d e b, Dp C.K H x d ∧ Dp C.K H y e ∧ pIn d e = some b ∧ Q (.bl b) H) ∨ ((∃ a o, y = .ref a ∧ DGet H a x o ∧ Q (.bl o.isSome) H) ∨ (∃ (c : Nat) (z : Str), x = .str ⟨#[c]⟩ ∧ y = .str z ∧ Q (.bl (decide (c ∈ z.cps.toList))) H)))
    (fun X ok ta tb ha hb => pe_cmpR (opr_or (cr_in X ok) (opr_or (opr_din (hu_of ok.room)) op_in_sign)) ha hb hm) (fun X ok ta tb ha hb => pt_cmpR (opr_or (cr_in X ok) (opr_or (opr_din (hu_of ok.room)) op_in_sign)) ha hb hm) ha hb (fun X ok E σ G0 H0 F0 Q x y s v1 v2 G H F f1 f2 t q _ => by
    unfold inK at q
    split at q
    · rename_i t' kvs e1
      obtain ⟨b, eb, q⟩ := q.of
      obtain ⟨k, ek, eb⟩ := Option.bind_eq_some_iff.mp eb
      obtain ⟨_, w⟩ := t.own2 e1
      obtain ⟨a, rv, rfl, dg, e⟩ := w.dh t.at2.rel.sub (t.h1.opn.is t.at2.rel ek) eb
      exact .inr (.inl ⟨a, rv, rfl, dg, by rw [e]; exact okE.fro q t.at2 (.bl b)⟩)
    · rename_i t' kvs e1
      obtain ⟨b, eb, q⟩ := q.of
      obtain ⟨k, ek, eb⟩ := Option.bind_eq_some_iff.mp eb
      obtain ⟨_, w⟩ := t.own2 e1
      obtain ⟨a, rv, rfl, dg, e⟩ := w.dh t.at2.rel.sub (t.h1.opn.is t.at2.rel ek) eb
      exact .inr (.inl ⟨a, rv, rfl, dg, by rw [e]; exact okE.fro q t.at2 (.bl b)⟩)
    · rename_i z e1
      obtain ⟨c, ec, q⟩ := q.of
      obtain ⟨_, w⟩ := t.own2 e1
      cases w with
      | f w =>
        cases w
        exact .inr (.inr ⟨c, z, dp_str (t.dp1 (sign1_of ec)), rfl, okE.fro q t.at2 (.bl _)⟩)
    · exact .inl (cmpK_ok t q)) inK_exc
theorem de_notIn (ha : DE C a fa) (hb : DE C b fb) (hm : behindInMarks .NotIn b = false) : DV C (.Compare a [.NotIn] [b] pos) (fTwo fa fb (inK true)) :=
  dv_two (r := fun X x y H Q => (∃ d e b, Dp C.K H x d ∧ Dp C.K H y e ∧ pNotIn d e = some b ∧ Q (.bl b) H) ∨ ((∃ a o, y = .ref a ∧ DGet H a x o ∧ Q (.bl (!o.isSome)) H) ∨ (∃ (c : Nat) (z : Str), x = .str ⟨#[c]⟩ ∧ y = .str z ∧ Q (.bl (!decide (c ∈ z.cps.toList))) H)))
    (fun X ok ta tb ha hb => pe_cmpR (opr_or (cr_notIn X ok) (opr_or (opr_dnotin (hu_of ok.room)) op_notIn_sign)) ha hb hm) (fun X ok ta tb ha hb => pt_cmpR (opr_or (cr_notIn X ok) (opr_or (opr_dnotin (hu_of ok.room)) op_notIn_sign)) ha hb hm) ha hb (fun X ok E σ G0 H0 F0 Q x y s v1 v2 G H F f1 f2 t q _ => by
    unfold inK at q
    split at q
    · rename_i t' kvs e1
      obtain ⟨b, eb, q⟩ := q.of
      obtain ⟨k, ek, eb⟩ := Option.bind_eq_some_iff.mp eb
      obtain ⟨_, w⟩ := t.own2 e1
      obtain ⟨a, rv, rfl, dg, e⟩ := w.dh t.at2.rel.sub (t.h1.opn.is t.at2.rel ek) eb
      exact .inr (.inl ⟨a, rv, rfl, dg, by rw [e]; exact okE.fro q t.at2 (.bl (!b))⟩)
    · rename_i t' kvs e1
      obtain ⟨b, eb, q⟩ := q.of
      obtain ⟨k, ek, eb⟩ := Option.bind_eq_some_iff.mp eb
      obtain ⟨_, w⟩ := t.own2 e1
      obtain ⟨a, rv, rfl, dg, e⟩ := w.dh t.at2.rel.sub (t.h1.opn.is t.at2.rel ek) eb
      exact .inr (.inl ⟨a, rv, rfl, dg, by rw [e]; exact okE.fro q t.at2 (.bl (!b))⟩)
    · rename_i z e1
      obtain ⟨c, ec, q⟩ := q.of
      obtain ⟨_, w⟩ := t.own2 e1
      cases w with
      | f w =>
        cases w
        exact .inr (.inr ⟨c, z, dp_str (t.dp1 (sign1_of ec)), rfl, okE.fro q t.at2 (.bl _)⟩)
    · exact .inl (cmpK_ok t q)) inK_exc
end

/-! ### slices -/
def okP (K : PySem.W.Frag) (G0 H0 : Hp) (F0 : Ft) (σ : St) (Q : Option Int → Hp → Prop) (r : Option Int × Sg) : Prop := ∀ G H F, At K G0 H0 F0 r.2 σ G H F → Q r.1 H
def RP (C : Ctx) (W : WX) (r : Res (Option Int × Sg)) (sg : Sg) : TO := fun σ H Q => ∃ G F, Rel C.K G H sg σ F ∧ FG (ExcW C W G H F σ) (okP C.K G H F σ Q) r
def DP (C : Ctx) (e : Option Expr) (f : Sg → Res (Option Int × Sg)) : Prop := ∀ X, C.Ok X → ∀ W, Takes X W → ∀ sg, PO X e (RP C W (f sg) sg)
theorem po_weak {X : Cx} {e : Option Expr} {t t' : TO} (h : PO X e t) (w : ∀ σ H Q, t' σ H Q → t σ H Q) : PO X e t' := ⟨fun pins s σ H Q I q => h.run pins s σ H Q I (w σ H Q q)⟩
def fNo : Sg → Res (Option Int × Sg) := fun sg => .ok (none, sg)
def fSo (f : Sg → Res (Opd × Sg)) : Sg → Res (Option Int × Sg) := fun sg => (f sg).bind fun a => match a.1.dat a.2 with
  | some (.int i) => .ok (some i, a.2)
  | _ => .stuck
def cutD {α : Type} (xs : List α) (lo hi : Option Int) : List α := (xs.drop (HT.sIx xs.length 0 lo)).take (HT.sIx xs.length xs.length hi - HT.sIx xs.length 0 lo)
theorem IsAll.cut {G : Hp} {vs : List V} {ds : List PyData} (h : IsAll G vs ds) (lo hi : Option Int) : IsAll G (cutV vs lo hi) (cutD ds lo hi) := by
  unfold cutV cutD
  rw [h.length]
  exact (h.drop _).take _
def sliceK (x : Opd) (lo hi : Option Int) (s : Sg) : Res (Opd × Sg) := match x.od s with
  | some (.f (.tuple ds)) => .ok (.v (.f (.tuple (cutD ds lo hi))), s)
  | some (.f (.str z)) => (guardR (decide (z.length < 1000000))).bind fun _ => .ok (.v (.f (.str (cutS z lo hi))), s)
  | some od => (Res.of od.kid).bind fun ds => .ok (.v (.l ((cutD ds lo hi).map .f)), s)
  | none => .stuck
def fSlice (f : Sg → Res (Opd × Sg)) (l h : Sg → Res (Option Int × Sg)) : Sg → Res (Opd × Sg) := fun sg => (f sg).bind fun a => (l a.2).bind fun b => (h b.2).bind fun c => sliceK a.1 b.1 c.1 c.2
theorem cut_whole {α : Type} (xs : List α) (lo hi : Option Int) (h : HT.sIx xs.length 0 lo = 0 ∧ HT.sIx xs.length xs.length hi = xs.length) : cutD xs lo hi = xs := by
  unfold cutD
  rw [h.1, h.2]
  simp
section
variable {C : Ctx} {e : Expr} {f : Sg → Res (Opd × Sg)} {lo hi : Option Expr} {l h : Sg → Res (Option Int × Sg)} {pos p2 : Pos}
theorem dp_no : DP C none fNo := fun X ok W tk sg => po_weak po_none fun σ H Q ⟨G, F, R, q⟩ => q _ _ _ (.refl R)
theorem dp_so (he : DE C e f) : DP C (some e) (fSo f) := by
  intro X ok W tk sg
  refine po_weak (po_some (he X ok W tk sg)) fun σ H Q ⟨G, F, R, q⟩ => ⟨G, F, R, FG.bind q (fun _ e => e) fun a ea q' v G' H' F' fp at' hv => ?_⟩
  cases e : a.1.dat a.2 with
  | none => simp only [e] at q'; exact q'.elim
  | some d =>
    cases d with
    | int i =>
      simp only [e] at q'
      exact ⟨i, dp_int (hv.opn.dp at'.rel e), q' G' H' F' at'⟩
    | _ => simp only [e] at q'; exact q'.elim
theorem de_slice (he : DE C e f) (hl : DP C lo l) (hh : DP C hi h) : DE C (.Subscript e (.Slice lo hi none p2) pos) (fSlice f l h) := by
  intro X ok W tk sg
  refine pe_weak (pe_slice (sl_list.or (sl_tupA.or sl_str)) (he X ok W tk sg) (hl X ok W tk (nxt (f sg))) (hh X ok W tk (nxt (l (nxt (f sg)))))) fun σ H Q ⟨G, F, R, q⟩ => ?_
  refine RE.fst R q fun x s1 v1 G1 H1 F1 f1 e1 q1 a1 h1 => ?_
  rw [e1]
  show RP C W (l s1) s1 σ H1 _
  refine ⟨G1, F1, a1.rel, FG.bind q1 (fun _ e => e.later a1) fun b eb q2 G2 H2 F2 a2 => ?_⟩
  have n2 : nxt (l s1) = b.2 := by
    rw [show l s1 = .ok b from eb]
    rfl
  show RP C W (h (nxt (l s1))) (nxt (l s1)) σ H2 _
  rw [n2]
  refine ⟨G2, F2, a2.rel, FG.bind q2 (fun _ e => e.later (a1.trans a2)) fun c ec q3 G3 H3 F3 a3 => ?_⟩
  have a := (a1.trans a2).trans a3
  have hv := (h1.later a2).later a3
  unfold sliceK at q3
  split at q3
  · rename_i ds eo
    obtain ⟨_, w⟩ := hv.opn.own a3.rel eo
    cases w with
    | f w =>
      cases w with
      | @tup a' vs _ g r =>
        refine .inr (.inl ⟨a', vs, rfl, SqT.of (a3.rel.sub _ _ g), fun z => ?_, fun _ p hp => okE.tup q3 a (r.cut b.1 c.1) hp⟩)
        rw [r.length] at z
        rw [cut_whole ds b.1 c.1 z] at q3
        exact okE.fro q3 a (.tup g r)
  · rename_i z eo
    obtain ⟨g, q4⟩ := q3.guard
    obtain ⟨_, w⟩ := hv.opn.own a3.rel eo
    cases w with
    | f w =>
      cases w
      exact .inr (.inr ⟨z, rfl, Nat.le_of_lt (line g), okE.fro q4 a (.str _)⟩)
  · rename_i od _ _ eo
    obtain ⟨ds, ek, q4⟩ := q3.of
    obtain ⟨_, w⟩ := hv.opn.own a3.rel eo
    obtain ⟨a', vs, rfl, g, r⟩ := w.kid a3.rel.sub ek
    exact .inl ⟨a', vs, rfl, SqL.of g, fun p hp => okE.lst q4 a (r.cut b.1 c.1) hp⟩
  · exact q3.elim
end

/-! ### built-in functions and types -/
def fArgs (g : Sg → Res (List Opd × Sg)) (k : List Opd → Sg → Res (Opd × Sg)) : Sg → Res (Opd × Sg) := fun sg => (g sg).bind fun a => k a.1 a.2
section
variable {C : Ctx} {e x : Expr} {es : List Expr} {g : Sg → Res (List Opd × Sg)} {fa : Sg → Res (Opd × Sg)} {pos p p2 : Pos}
theorem de_args {r : Cx → List V → Hp → VK → Prop} {k : List Opd → Sg → Res (Opd × Sg)} (he : ∀ X, C.Ok X → ∀ t, PA X es t → PE X e (tCB (r X) t)) (ha : DA C es g)
    (hk : ∀ X, C.Ok X → ∀ (E : XD → Prop) (σ : St) (G0 H0 : Hp) (F0 : Ft) (Q : VK) (os : List Opd) (s : Sg) (vs : List V) (G H : Hp) (F : Ft) (fp : List Addr), At C.K G0 H0 F0 s σ G H F → HvAll C.K H0 F0 G H F σ vs os fp →
      FG E (okE C.K G0 H0 F0 σ Q) (k os s) → r X vs H Q) : DE C e (fArgs g k) := by
  intro X ok W tk sg
  exact pe_weak (he X ok _ (ha X ok W tk sg)) fun σ H Q ⟨G, F, R, q⟩ => ⟨G, F, R, FG.bind q (fun _ e => e) fun a ea q' vs G' H' F' fp at' hv => hk X ok _ σ G H F Q a.1 a.2 vs G' H' F' fp at' hv q'⟩
theorem Ctx.Ok.glob {C : Ctx} {X : Cx} (ok : C.Ok X) {x : Str} (h : C.sc.names.lookup x = some .globalImplicit) : Gl X x := by
  show X.env.scope.names.lookup x = _
  rw [ok.sc]
  exact h
/-- f(e, ..), f a built-in function -/
theorem de_callB {x : Str} {id : String} {r : Cx → List V → Hp → VK → Prop} {e : Expr} {es : List Expr} {k : List Opd → Sg → Res (Opd × Sg)} (hg : C.sc.names.lookup x = some .globalImplicit) (hm : C.mg x = none) (hv : bootBuiltins x = some (.builtin id)) (hc : ∀ X, C.Ok X → CallR X (.builtin id) (r X)) (ha : DA C (e :: es) g)
    (hk : ∀ X, C.Ok X → ∀ (E : XD → Prop) (σ : St) (G0 H0 : Hp) (F0 : Ft) (Q : VK) (os : List Opd) (s : Sg) (vs : List V) (G H : Hp) (F : Ft) (fp : List Addr), At C.K G0 H0 F0 s σ G H F → HvAll C.K H0 F0 G H F σ vs os fp →
      FG E (okE C.K G0 H0 F0 σ Q) (k os s) → r X vs H Q) (hn : x ≠ "__name__" := by decide) (hdb : (x == ("__debug__" : Str)) = false := by decide) (he : ∀ env, starEach (e :: es) env = (false, eval e env) :: starEach es env := by intro _; rfl) (hpl : ∀ env, (backTo pos (starEach es env)).any (·.1) = false := by intro _; rfl) :
    DE C (.Call (.Name x p) (e :: es) [] pos) (fArgs g k) :=
  de_args (r := r) (fun X ok t ha => pe_callB (hc X ok) (ok.glob hg) (by rw [ok.mg]; exact hm) hv ha hn hdb (he _) (hpl _)) ha hk
theorem de_callTy {x : Str} {T : String} {r : Cx → List V → Hp → VK → Prop} {e : Expr} {es : List Expr} {k : List Opd → Sg → Res (Opd × Sg)} (hg : C.sc.names.lookup x = some .globalImplicit) (hm : C.mg x = none) (hv : bootBuiltins x = some (.type T)) (hc : ∀ X, C.Ok X → CallR X (.type T) (r X)) (ha : DA C (e :: es) g)
    (hk : ∀ X, C.Ok X → ∀ (E : XD → Prop) (σ : St) (G0 H0 : Hp) (F0 : Ft) (Q : VK) (os : List Opd) (s : Sg) (vs : List V) (G H : Hp) (F : Ft) (fp : List Addr), At C.K G0 H0 F0 s σ G H F → HvAll C.K H0 F0 G H F σ vs os fp →
      FG E (okE C.K G0 H0 F0 σ Q) (k os s) → r X vs H Q) (hn : x ≠ "__name__" := by decide) (hdb : (x == ("__debug__" : Str)) = false := by decide) (he : ∀ env, starEach (e :: es) env = (false, eval e env) :: starEach es env := by intro _; rfl) (hpl : ∀ env, (backTo pos (starEach es env)).any (·.1) = false := by intro _; rfl) :
    DE C (.Call (.Name x p) (e :: es) [] pos) (fArgs g k) :=
  de_args (r := r) (fun X ok t ha => pe_callTy (hc X ok) (ok.glob hg) (by rw [ok.mg]; exact hm) hv ha hn hdb (he _) (hpl _)) ha hk

theorem HvAll.one {K : PySem.W.Frag} {H0 : Hp} {F0 : Ft} {G H : Hp} {F : Ft} {σ : St} {vs : List V} {o : Opd} {fp : List Addr} (h : HvAll K H0 F0 G H F σ vs [o] fp) : ∃ v f1, vs = [v] ∧ Hv K H0 F0 G H F σ v o f1 := by
  cases h with
  | cons a r n =>
    cases r
    exact ⟨_, _, rfl, a⟩
theorem HvAll.pair {K : PySem.W.Frag} {H0 : Hp} {F0 : Ft} {G H : Hp} {F : Ft} {σ : St} {vs : List V} {o o' : Opd} {fp : List Addr} (h : HvAll K H0 F0 G H F σ vs [o, o'] fp) : ∃ v v' f1 f2, vs = [v, v'] ∧ Hv K H0 F0 G H F σ v o f1 ∧ Hv K H0 F0 G H F σ v' o' f2 := by
  cases h with
  | cons a r n =>
    cases r with
    | cons b r m =>
      cases r
      exact ⟨_, _, _, _, rfl, a, b⟩
/-! len -/
def lenK (os : List Opd) (s : Sg) : Res (Opd × Sg) := match os with
  | [o] => match o.od s with
    | some (.f (.str z)) => (guardR (decide (z.length < 1000000))).bind fun _ => .ok (.v (.f (.int z.length)), s)
    | some (.l ods) => .ok (.v (.f (.int ods.length)), s)
    | some od => (Res.of od.kidA).bind fun ds => .ok (.v (.f (.int ds.length)), s)
    | none => .stuck
  | _ => .stuck
theorem de_len (hb : Bi C "len") {e : Expr} (ha : DE C e fa) (he : ∀ env, starEach [e] env = [(false, eval e env)] := by intro _; rfl) : DE C (.Call (.Name "len" p) [e] [] pos) (fArgs (fCons fa fNil) lenK) :=
  de_args (r := fun X xs H Q => (∃ p ys, xs = [.ref p] ∧ (SqL X.K H p ys ∨ SqT X.K H p ys) ∧ Q (.int ys.length) H) ∨ (∃ z : Str, xs = [.str z] ∧ z.length ≤ sizeLine ∧ Q (.int z.length) H))
    (fun X ok t ha => pe_callB (id := "len") (r := fun xs H Q => (∃ p ys, xs = [.ref p] ∧ (SqL X.K H p ys ∨ SqT X.K H p ys) ∧ Q (.int ys.length) H) ∨ (∃ z : Str, xs = [.str z] ∧ z.length ≤ sizeLine ∧ Q (.int z.length) H))
      (fun pins s σ H xs us Q I r h => h.elim (call_len_seq pins s σ H xs us Q I r) (fun ⟨z, e, hz, q⟩ => call_len_str pins s σ H xs us Q I r ⟨z, e, hz, q⟩)) (ok.glob hb.1) (by rw [ok.mg]; exact hb.2) PySem.boot_len ha (by decide) (by decide) (he _) rfl) (da_cons ha da_nil he)
    (fun X ok E σ G0 H0 F0 Q os s vs G H F fp a hv q => by
      unfold lenK at q
      split at q
      · rename_i o
        obtain ⟨v, f1, rfl, h⟩ := hv.one
        split at q
        · rename_i z eo
          obtain ⟨g, q⟩ := q.guard
          obtain ⟨_, w⟩ := h.opn.own a.rel eo
          cases w with
          | f w =>
            cases w
            exact .inr ⟨z, rfl, Nat.le_of_lt (line g), okE.fro q a (.int _)⟩
        · rename_i ods eo
          obtain ⟨_, w⟩ := h.opn.own a.rel eo
          cases w with
          | @l a' vs _ _ h1 h2 h3 h4 => exact .inl ⟨a', vs, rfl, .inl (SqL.of h2), by rw [h3.length]; exact okE.fro q a (.int _)⟩
        · rename_i od _ _ eo
          obtain ⟨ds, ek, q⟩ := q.of
          obtain ⟨_, w⟩ := h.opn.own a.rel eo
          obtain ⟨a', vs, rfl, hs, r⟩ := w.kidA a.rel.sub ek
          rw [← ok.K] at hs
          exact .inl ⟨a', vs, rfl, hs, by rw [r.length]; exact okE.fro q a (.int _)⟩
        · exact q.elim
      · exact q.elim)
/-! abs, min of two ints -/
def absK (os : List Opd) (s : Sg) : Res (Opd × Sg) := match os with
  | [o] => match o.dat s with
    | some (.int i) => .ok (.v (.f (.int (if i < 0 then -i else i))), s)
    | _ => .stuck
  | _ => .stuck
theorem de_abs (hb : Bi C "abs") {e : Expr} (ha : DE C e fa) (he : ∀ env, starEach [e] env = [(false, eval e env)] := by intro _; rfl) : DE C (.Call (.Name "abs" p) [e] [] pos) (fArgs (fCons fa fNil) absK) :=
  de_callB (r := fun X xs H Q => ∃ i, xs = [.int i] ∧ Q (.int (if i < 0 then -i else i)) H) hb.1 hb.2 (by decide +kernel) (fun X ok => call_abs) (da_cons ha da_nil he) (fun X ok E σ G0 H0 F0 Q os s vs G H F fp a hv q => by
      unfold absK at q
      split at q
      · rename_i o
        obtain ⟨v, f1, rfl, h⟩ := hv.one
        split at q
        · rename_i i eo
          exact ⟨i, by rw [dp_int (h.opn.dp a.rel eo)], okE.fro q a (.int _)⟩
        · exact q.elim
      · exact q.elim) (by decide) (by decide) he (by intro _; rfl)
def min2K (os : List Opd) (s : Sg) : Res (Opd × Sg) := match os with
  | [o, o'] => match o.dat s, o'.dat s with
    | some (.int i), some (.int j) => .ok (.v (.f (.int (if j < i then j else i))), s)
    | _, _ => .stuck
  | _ => .stuck
theorem de_min2 (hb : Bi C "min") {e e' : Expr} {fb : Sg → Res (Opd × Sg)} (ha : DE C e fa) (hb2 : DE C e' fb) (he : ∀ env, starEach [e, e'] env = (false, eval e env) :: starEach [e'] env := by intro _; rfl) (he' : ∀ env, starEach [e'] env = [(false, eval e' env)] := by intro _; rfl) (hpl : ∀ env, (backTo pos (starEach [e'] env)).any (·.1) = false := by intro _; rfl) :
    DE C (.Call (.Name "min" p) [e, e'] [] pos) (fArgs (fCons fa (fCons fb fNil)) min2K) :=
  de_callB (r := fun X xs H Q => ∃ i j, xs = [.int i, .int j] ∧ Q (.int (if j < i then j else i)) H) hb.1 hb.2 (by decide +kernel) (fun X ok => call_min2 ok.calm) (da_cons ha (da_cons hb2 da_nil he') he) (fun X ok E σ G0 H0 F0 Q os s vs G H F fp a hv q => by
      unfold min2K at q
      split at q
      · rename_i o o'
        obtain ⟨v, v', f1, f2, rfl, h, h'⟩ := hv.pair
        split at q
        · rename_i i j eo eo'
          exact ⟨i, j, by rw [dp_int (h.opn.dp a.rel eo), dp_int (h'.opn.dp a.rel eo')], okE.fro q a (.int _)⟩
        · exact q.elim
      · exact q.elim) (by decide) (by decide) he hpl
/-! list(x), tuple(x) -/
def listK (os : List Opd) (s : Sg) : Res (Opd × Sg) := match os with
  | [o] => (Res.of ((o.od s).bind OD.kidA)).bind fun ds => .ok (.v (.l (ds.map .f)), s)
  | _ => .stuck
theorem de_list (hb : Bi C "list") {e : Expr} (ha : DE C e fa) (he : ∀ env, starEach [e] env = [(false, eval e env)] := by intro _; rfl) : DE C (.Call (.Name "list" p) [e] [] pos) (fArgs (fCons fa fNil) listK) :=
  de_callTy (r := fun X xs H Q => ∃ p ys, xs = [.ref p] ∧ (SqL X.K H p ys ∨ SqT X.K H p ys) ∧ ∀ l, H l = none → Q (.ref l) (upd H l (.lst ys))) hb.1 hb.2 (by decide +kernel) (fun X ok => call_list_of) (da_cons ha da_nil he) (fun X ok E σ G0 H0 F0 Q os s vs G H F fp a hv q => by
      unfold listK at q
      split at q
      · rename_i o
        obtain ⟨v, f1, rfl, h⟩ := hv.one
        obtain ⟨ds, ek, q⟩ := q.of
        obtain ⟨od, eo, ek⟩ := Option.bind_eq_some_iff.mp ek
        obtain ⟨_, w⟩ := h.opn.own a.rel eo
        obtain ⟨a', vs, rfl, hs, r⟩ := w.kidA a.rel.sub ek
        rw [← ok.K] at hs
        exact ⟨a', vs, rfl, hs, fun l hl => okE.lst q a r hl⟩
      · exact q.elim) (by decide) (by decide) he (by intro _; rfl)
def tupK (os : List Opd) (s : Sg) : Res (Opd × Sg) := match os with
  | [o] => match o.od s with
    | some (.f (.tuple ds)) => .ok (.v (.f (.tuple ds)), s)
    | some od => (Res.of od.kid).bind fun ds => .ok (.v (.f (.tuple ds)), s)
    | none => .stuck
  | _ => .stuck
theorem de_tuple (hb : Bi C "tuple") {e : Expr} (ha : DE C e fa) (he : ∀ env, starEach [e] env = [(false, eval e env)] := by intro _; rfl) : DE C (.Call (.Name "tuple" p) [e] [] pos) (fArgs (fCons fa fNil) tupK) :=
  de_callTy (r := fun X xs H Q => ∃ p ys, xs = [.ref p] ∧ ((SqL X.K H p ys ∧ ∀ l, H l = none → Q (.ref l) (upd H l (.tup ys))) ∨ (SqT X.K H p ys ∧ Q (.ref p) H))) hb.1 hb.2 (by decide +kernel) (fun X ok => call_tuple_of) (da_cons ha da_nil he) (fun X ok E σ G0 H0 F0 Q os s vs G H F fp a hv q => by
      unfold tupK at q
      split at q
      · rename_i o
        obtain ⟨v, f1, rfl, h⟩ := hv.one
        split at q
        · rename_i ds eo
          obtain ⟨_, w⟩ := h.opn.own a.rel eo
          cases w with
          | f w =>
            cases w with
            | @tup a' vs _ g r => exact ⟨a', vs, rfl, .inr ⟨SqT.of (a.rel.sub _ _ g), okE.fro q a (.tup g r)⟩⟩
        · rename_i od _ eo
          obtain ⟨ds, ek, q⟩ := q.of
          obtain ⟨_, w⟩ := h.opn.own a.rel eo
          obtain ⟨a', vs, rfl, g, r⟩ := w.kid a.rel.sub ek
          exact ⟨a', vs, rfl, .inl ⟨SqL.of g, fun l hl => okE.tup q a r hl⟩⟩
        · exact q.elim
      · exact q.elim) (by decide) (by decide) he (by intro _; rfl)
end
end DL
set_option Elab.async false
set_option linter.all false
set_option maxRecDepth 100000
set_option maxHeartbeats 4000000
namespace DL
open PySem PySem.Spec PyProof.Rows L2

/-! ### isinstance(x, T) -/
def IsaR (T : String) (f : PyData → Bool) : Prop := ∀ {prog : Program} {w : World} {A : Around} {E : Value → Shared → Prop} {s : Shared} {v : Value} {d : PyData} {as : List Addr} {Q : Value → Shared → Prop}, Reads s.heap v d as → (∀ tk, s.toks ≤ tk → Q (.bool (f d)) { s with toks := tk }) →
  wpAny (model prog w) A (call (.builtin "isinstance") [v, .type T]) Q E s
def isaK (f : PyData → Bool) (fe : Sg → Res (Opd × Sg)) : Sg → Res (Opd × Sg) := fun sg => (fe sg).bind fun a => (Res.of (a.1.dat a.2)).bind fun d => .ok (.v (.f (.bool (f d))), a.2)
theorem pe_isa {X : Cx} {T : String} {x : Str} {f : PyData → Bool} (hR : IsaR T f) {e : Expr} {te : TE} {p p2 pos : Pos} (he : PE X e te) (hg : Gl X "isinstance") (hm : X.mg "isinstance" = none) (hg2 : Gl X x) (hm2 : X.mg x = none) (hv2 : bootBuiltins x = some (.type T))
    (hn2 : x ≠ "__name__") (hd2 : (x == ("__debug__" : Str)) = false) (hs : ∀ env, starEach [e, .Name x p2] env = (false, eval e env) :: starEach [.Name x p2] env) :
    PE X (.Call (.Name "isinstance" p) [e, .Name x p2] [] pos) (fun σ H Q => te σ H fun v H1 => ∃ v' d, [v, V.ty T] = [v', V.ty T] ∧ Dp X.K H1 v' d ∧ Q (.bl (f d)) H1) := by
  have hc : CallR X (.builtin "isinstance") (fun xs H Q => ∃ v d, xs = [v, .ty T] ∧ Dp X.K H v d ∧ Q (.bl (f d)) H) := by
    intro pins s σ H xs us Q I r h
    obtain ⟨v, d, rfl, hd, q⟩ := h
    obtain ⟨u, u2, rfl, ru, ru2⟩ := Vals.two r
    obtain rfl : u2 = Value.type T := ru2
    obtain ⟨as, rd⟩ := Dp.reads I d v u hd ru
    exact hR rd fun tk _ => ⟨.bl _, H, I.tok tk, rfl, q⟩
  exact pe_callB hc hg hm PyProof.Rows.boot_isinstance (pa_cons he (pa_cons (pe_bltn (v := .ty T) hg2 hm2 hv2 rfl hn2 hd2) pa_nil) (hs _)) (by decide) (by decide) (hs _) rfl
section
variable {C : Ctx} {e : Expr} {fa : Sg → Res (Opd × Sg)} {p p2 pos : Pos}
theorem de_isa {T : String} {x : Str} {f : PyData → Bool} (hR : IsaR T f) (h1 : Bi C "isinstance") (h2 : Bi C x) (hv2 : bootBuiltins x = some (.type T)) (ha : DE C e fa) (hn2 : x ≠ "__name__" := by decide) (hd2 : (x == ("__debug__" : Str)) = false := by decide)
    (hs : ∀ env, starEach [e, .Name x p2] env = (false, eval e env) :: starEach [.Name x p2] env := by intro _; rfl) : DE C (.Call (.Name "isinstance" p) [e, .Name x p2] [] pos) (isaK f fa) := by
  intro X ok W tk sg
  refine pe_weak (pe_isa hR (ha X ok W tk sg) (ok.glob h1.1) (by rw [ok.mg]; exact h1.2) (ok.glob h2.1) (by rw [ok.mg]; exact h2.2) hv2 hn2 hd2 hs) fun σ H Q ⟨G, F, R, q⟩ => ⟨G, F, R, FG.bind q (fun _ e => e) fun a ea q' v G' H' F' fp at' hv => ?_⟩
  obtain ⟨d, ed, q1⟩ := q'.of
  exact ⟨v, d, rfl, by rw [ok.K]; exact hv.opn.dp at'.rel ed, okE.fro q1 at' (.bl _)⟩
theorem isa_int : IsaR "int" PyData.isInt := fun r h => PySem.W.isinstance_int_data r h
theorem isa_bool : IsaR "bool" PyData.isBool := fun r h => PySem.W.isinstance_bool_data r h
theorem isa_tuple : IsaR "tuple" PyData.isTuple := fun r h => PySem.W.isinstance_tuple_data r h
theorem isa_list : IsaR "list" PyData.isList := fun r h => PySem.W.isinstance_list_data r h
theorem isa_str : IsaR "str" PyData.isStr := fun r h => PySem.W.isinstance_str_data r h
end

/-! ### calls of defs -/
def frOD : OD → Bool
  | .f _ => true
  | .g _ _ => true
  | .s _ => true
  | _ => false
inductive FrAll (K : PySem.W.Frag) (G H : Hp) : List V → List OD → Prop
  | nil : FrAll K G H [] []
  | cons {v : V} {vs : List V} {od : OD} {ods : List OD} : Own K G H v od [] → FrAll K G H vs ods → FrAll K G H (v :: vs) (od :: ods)
theorem OwnAll.fr {K : PySem.W.Frag} {G H : Hp} : ∀ {vs : List V} {ods : List OD} {fp : List Addr}, OwnAll K G H vs ods fp → ods.all frOD = true → FrAll K G H vs ods
  | _, _, _, .nil, _ => .nil
  | _, _, _, .cons (od := od) a r n, h => by
    rw [List.all_cons, Bool.and_eq_true] at h
    refine .cons ?_ (OwnAll.fr r h.2)
    cases a with
    | f a => exact .f a
    | g a b c d => exact .g a b c d
    | s a b => exact .s a b
    | _ => exact absurd h.1 (by simp [frOD])
theorem FrAll.len {K : PySem.W.Frag} {G H : Hp} : ∀ {vs : List V} {ods : List OD}, FrAll K G H vs ods → vs.length = ods.length
  | _, _, .nil => rfl
  | _, _, .cons _ r => congrArg (· + 1) (FrAll.len r)
/-- what a pure def promises -/
def spP (K : PySem.W.Frag) (xc : Nat → Addr) (n : Nat) (sem : List OD → Res OD) : Sp := fun vs H Q E => ∃ G ods, Same G H ∧ vs.length = n ∧ FrAll K G H vs ods ∧
  FG (fun x => ∀ G' H' d, Ext (fun _ => False) G H G' H' → Same G' H' → PayOk K G' H' d x.pay → E (.ref (xc x.c)) d H')
    (fun r => ∀ v G' H' fp, Ext (fun _ => False) G H G' H' → Same G' H' → Own K G' H' v r fp → (∀ b ∈ fp, H b = none) → Q v H') (sem ods)
/-- .. a def that changes its first argument -/
def spD (K : PySem.W.Frag) (xc : Nat → Addr) (n : Nat) (sem : OD → List OD → Res (OD × OD)) : Sp := fun vs H Q E => ∃ G v0 vs' od0 fp0 ods, Same G H ∧ vs = v0 :: vs' ∧ vs.length = n ∧ Own K G H v0 od0 fp0 ∧ FrAll K G H vs' ods ∧
  FG (fun x => ∀ G' H' d, Ext (· ∈ fp0) G H G' H' → Same G' H' → PayOk K G' H' d x.pay → E (.ref (xc x.c)) d H') (fun r => ∀ v G' H' fp fp', Ext (· ∈ fp0) G H G' H' → Same G' H' → Own K G' H' v r.1 fp → Own K G' H' v0 r.2 fp' → (∀ b ∈ fp, b ∉ fp') → (∀ b ∈ fp, b ∈ fp0 ∨ H b = none) → (∀ b ∈ fp', b ∈ fp0 ∨ H b = none) → Q v H') (sem od0 ods)
structure Bs where
  P : Program
  w : World
  K : PySem.W.Frag
  mg : Str → Option Value
  base : Heap
  xc : Nat → Addr
abbrev Ctx.bs (C : Ctx) : Bs := ⟨C.P, C.w, C.K, C.mg, C.base, C.xc⟩
abbrev Bs.cx (B : Bs) (N : List Str) (sc : Scope) (k : Nat) (io : Bool) : Ctx := ⟨B.P, B.w, B.K, B.mg, B.base, N, sc, k, B.xc, io, fun _ => true⟩
/-- the def x stands in the module, and keeps sp -/
structure FnAt (B : Bs) (k : Nat) (x : Str) (sp : Sp) : Prop where
  ex : ∃ f fd ps, FnOk B.P B.w B.K B.mg B.base (L2.CX B.P B.w) k f fd ps sp ∧ B.mg x = some (.ref f) ∧ PySem.W.keepIn B.K (.ref f) = true ∧ Binds B.K fd ps []
abbrev FnP (B : Bs) (k : Nat) (x : Str) (n : Nat) (sem : List OD → Res OD) : Prop := FnAt B k x (spP B.K B.xc n sem)
abbrev FnD (B : Bs) (k : Nat) (x : Str) (n : Nat) (sem : OD → List OD → Res (OD × OD)) : Prop := FnAt B k x (spD B.K B.xc n sem)
theorem ok_cast {C : Ctx} {X : Cx} (ok : C.Ok X) {k : Nat} {f : Addr} {fd : FuncData} {ps : List Str} {sp : Sp} (F : FnOk C.P C.w C.K C.mg C.base (L2.CX C.P C.w) k f fd ps sp) : FnOk X.prog X.w X.K X.mg X.base (L2.CX X.prog X.w) k f fd ps sp := by
  rw [ok.P, ok.w, ok.K, ok.mg, ok.base]
  exact F
def frzAll (ods : List OD) : Option (List OD) := if ods.all frOD = true then some ods else none
def fCall (sem : List OD → Res OD) (g : Sg → Res (List Opd × Sg)) : Sg → Res (Opd × Sg) := fun sg => (g sg).bind fun a => (Res.of ((valsO a.1).bind frzAll)).bind fun ods => (sem ods).bind fun r => .ok (.v r, a.2)
theorem ext_false {U : Addr → Prop} {G H G' H' : Hp} (x : Ext (fun _ => False) G H G' H') : Ext U G H G' H' := x.mono fun _ z => z.elim
section
variable {C : Ctx} {e : Expr} {es : List Expr} {g : Sg → Res (List Opd × Sg)} {p pos : Pos} {k : Nat} {x : Str}
theorem de_call {n : Nat} {sem : List OD → Res OD} (F : FnP C.bs k x n sem) (hk : k ≤ C.k) (hg : C.sc.names.lookup x = some .globalImplicit) (ha : DA C (e :: es) g) (hn : (e :: es).length = n) (hlen : ∀ sg a, g sg = .ok a → a.1.length = n)
    (hdb : (x == ("__debug__" : Str)) = false := by decide) (he : ∀ env, starEach (e :: es) env = (false, eval e env) :: starEach es env := by intro _; rfl) (hpl : ∀ env, (backTo pos (starEach es env)).any (·.1) = false := by intro _; rfl) :
    DE C (.Call (.Name x p) (e :: es) [] pos) (fCall sem g) := by
  intro X ok W tk sg
  obtain ⟨f, fd, ps, F, hm, hkp, hb⟩ := F.ex
  refine pe_weak (pe_callS (ok_cast ok F) (ok.room.mono hk) (ok.glob hg) (by rw [ok.mg]; exact hm) (by rw [ok.K]; exact hkp) (by rw [ok.K]; exact hb) (fun σ => passAt tk σ) (ha X ok W tk sg) hdb (he _) (hpl _)) fun σ H Q ⟨G, F0, R, q⟩ =>
    ⟨G, F0, R, FG.bind q (fun _ e => e) fun a ea q' vs G' H' F' fp at' hv => ?_⟩
  obtain ⟨ods, eo, q1⟩ := q'.of
  obtain ⟨ods', e1, e2⟩ := Option.bind_eq_some_iff.mp eo
  unfold frzAll at e2
  split at e2
  · rename_i hf
    cases e2
    obtain ⟨w, m⟩ := hv.own e1
    refine ⟨G', ods, at'.rel.sub, by rw [hv.len]; exact hlen sg a ea, w.fr hf, FG.bind q1 (fun x hx G2 H2 d x2 s2 p2 => ?_) fun r er q2 v G2 H2 fp2 x2 s2 w2 n2 => ?_⟩
    · exact hx.later at' G2 H2 d (ext_false x2) s2 p2
    · have step : At C.K G' H' F' a.2 σ G2 H2 F' := ⟨ext_false x2, at'.rel.ext x2 s2 (fun _ _ z => z), fun _ h => .inl h⟩
      exact q2 v G2 H2 F' fp2 (at'.trans step) ⟨.v w2 fun b hb z => fresh_foot at'.rel (n2 b hb) z, fun b hb => .inr (at'.ext.fresh (n2 b hb))⟩
  · cases e2
/-- f(d, ..), d a slot that f changes -/
def fCallD (sem : OD → List OD → Res (OD × OD)) (g : Sg → Res (List Opd × Sg)) : Sg → Res (Opd × Sg) := fun sg => (g sg).bind fun a => match a.1 with
  | .i n :: os => (Res.of ((valsO os).bind frzAll)).bind fun ods => (Res.of (Opd.od a.2 (.i n))).bind fun od0 => (sem od0 ods).bind fun r => .ok (.v r.1, a.2.set n (some r.2))
  | _ => .stuck
theorem slot_of {K : PySem.W.Frag} {G H : Hp} {sg : Sg} {σ : St} {F : Ft} (r : Rel K G H sg σ F) {n : Nat} {od : OD} (e : Opd.od sg (.i n) = some od) : sg[n]? = some (some od) ∧ n < sg.length ∧ ∃ v, σ[n]? = some (some v) ∧ Own K G H v od (F n) := by
  unfold Opd.od at e
  cases q : sg[n]? with
  | none => simp only [q] at e; cases e
  | some x =>
    cases x with
    | none => simp only [q] at e; cases e
    | some od' =>
      simp only [q] at e
      cases e
      exact ⟨rfl, (List.getElem?_eq_some_iff.mp q).1, r.get n od q⟩
theorem de_callD {n : Nat} {sem : OD → List OD → Res (OD × OD)} (F : FnD C.bs k x n sem) (hk : k ≤ C.k) (hg : C.sc.names.lookup x = some .globalImplicit) (ha : DA C (e :: es) g) (hlen : ∀ sg a, g sg = .ok a → a.1.length = n)
    (hdb : (x == ("__debug__" : Str)) = false := by decide) (he : ∀ env, starEach (e :: es) env = (false, eval e env) :: starEach es env := by intro _; rfl) (hpl : ∀ env, (backTo pos (starEach es env)).any (·.1) = false := by intro _; rfl) :
    DE C (.Call (.Name x p) (e :: es) [] pos) (fCallD sem g) := by
  intro X ok W tk sg
  obtain ⟨f, fd, ps, F, hm, hkp, hb⟩ := F.ex
  refine pe_weak (pe_callS (ok_cast ok F) (ok.room.mono hk) (ok.glob hg) (by rw [ok.mg]; exact hm) (by rw [ok.K]; exact hkp) (by rw [ok.K]; exact hb) (fun σ => passAt tk σ) (ha X ok W tk sg) hdb (he _) (hpl _)) fun σ H Q ⟨G, F0, R, q⟩ =>
    ⟨G, F0, R, FG.bind q (fun _ e => e) fun a ea q' vs G' H' F' fp at' hv => ?_⟩
  obtain ⟨os, s1⟩ := a
  have hln := hlen sg _ ea
  cases os with
  | nil => exact q'.elim
  | cons o os =>
    cases o with
    | v od => exact q'.elim
    | i m =>
      obtain ⟨ods, eo, q1⟩ := q'.of
      obtain ⟨ods', e1, e2⟩ := Option.bind_eq_some_iff.mp eo
      obtain ⟨od0, e0, q2⟩ := q1.of
      unfold frzAll at e2
      split at e2
      · rename_i hf
        cases e2
        have hl := hv.len
        cases hv with
        | @cons v0 vs' _ _ f1 f2 h0 hr nd =>
          obtain ⟨w, _⟩ := hr.own e1
          obtain ⟨z1, z2, v0', z3, z4⟩ := slot_of at'.rel e0
          have h0' := h0.opn
          cases h0' with
          | i h0' =>
            rw [h0'] at z3
            cases z3
            refine ⟨G', v0, vs', od0, F' m, ods, at'.rel.sub, rfl, by rw [hl]; exact hln, z4, w.fr hf, FG.bind q2 (fun x hx G2 H2 d x2 s2 p2 => ?_) fun r er q3 v G2 H2 fp2 fp3 x2 s2 w2 w3 nd2 n2 n3 => ?_⟩
            · exact hx.later at' G2 H2 d (x2.mono fun b hb => ⟨m, hb⟩) s2 p2
            · have step := at'.write x2 s2 z2 h0' w3 fun b hb => (n3 b hb).imp id fun z => ⟨fresh_foot at'.rel z, .inr (at'.ext.fresh z)⟩
              refine q3 v G2 H2 (F'.put m fp3) fp2 step ⟨.v w2 fun b hb z => ?_, fun b hb => ?_⟩
              · rcases foot_put2 z with z | ⟨j, jm, z⟩
                · exact nd2 b hb z
                · rcases n2 b hb with y | y
                  · exact at'.rel.dis j m jm b z y
                  · exact fresh_foot at'.rel y ⟨j, z⟩
              · rcases n2 b hb with z | z
                · exact at'.sub b ⟨m, z⟩
                · exact .inr (at'.ext.fresh z)
      · cases e2
end
end DL
set_option Elab.async false
set_option linter.all false
set_option maxRecDepth 100000
set_option maxHeartbeats 4000000
namespace DL
open PySem PySem.Spec PyProof.Rows L2

/-! ### methods of lists -/
def fMeth (ty : OD → Bool) (fo : Sg → Res (Opd × Sg)) (ga : Sg → Res (List Opd × Sg)) (k : Opd → List Opd → Sg → Res (Opd × Sg)) : Sg → Res (Opd × Sg) := fun sg => (fo sg).bind fun a => (Res.of (a.1.od a.2)).bind fun od => (guardR (ty od)).bind fun _ => (ga a.2).bind fun b => k a.1 b.1 b.2
def fMeth0 (ty : OD → Bool) (fo : Sg → Res (Opd × Sg)) (k : Opd → List Opd → Sg → Res (Opd × Sg)) : Sg → Res (Opd × Sg) := fun sg => (fo sg).bind fun a => (Res.of (a.1.od a.2)).bind fun od => (guardR (ty od)).bind fun _ => k a.1 [] a.2
structure MSt (C : Ctx) (G0 H0 : Hp) (F0 : Ft) (s : Sg) (σ : St) (x : Opd) (os : List Opd) (v : V) (vs : List V) (G H : Hp) (F : Ft) (f1 f2 : List Addr) : Prop where
  at2 : At C.K G0 H0 F0 s σ G H F
  h1 : Hv C.K H0 F0 G H F σ v x f1
  h2 : HvAll C.K H0 F0 G H F σ vs os f2
  dis : ∀ b ∈ f1, b ∉ f2
section
variable {C : Ctx} {o e : Expr} {es : List Expr} {fo : Sg → Res (Opd × Sg)} {ga : Sg → Res (List Opd × Sg)} {name : Str} {apos cpos : Pos} {T id : String} {ty : OD → Bool} {k : Opd → List Opd → Sg → Res (Opd × Sg)} {r : Cx → V → List V → Hp → VK → Prop}
theorem de_meth (pa : PlainAttrs T) (slot : Slot T name id) (hty : typeOf (.builtin id) = pure (.type "method_descriptor")) (hm : ∀ X, C.Ok X → MtR X id (r X)) (hT : ∀ {G H : Hp} {v : V} {od : OD} {fp : List Addr}, Same G H → Own C.K G H v od fp → ty od = true → tyV C.K T v H)
    (ho : DE C o fo) (ha : DA C (e :: es) ga)
    (hk : ∀ X, C.Ok X → ∀ (E : XD → Prop) (σ : St) (G0 H0 : Hp) (F0 : Ft) (Q : VK) (x : Opd) (os : List Opd) (s : Sg) (v : V) (vs : List V) (G H : Hp) (F : Ft) (f1 f2 : List Addr), MSt C G0 H0 F0 s σ x os v vs G H F f1 f2 → FG E (okE C.K G0 H0 F0 σ Q) (k x os s) → r X v vs H Q)
    (hbase : ∀ env, attributeBase o name env (eval o env) = eval o env := by intro _; rfl)
    (hfew : ∀ env, ((backTo cpos (starEach (e :: es) env)).all (fun x => !x.1) && (backToKw cpos (keywordEach [] env)).all (fun x => x.1.isSome)
      && decide ((e :: es).length + ([] : List Keyword).length + (if ([] : List Keyword).isEmpty then 0 else 1) < 30)) = true := by intro _; rfl)
    (hline : (apos.endLine == cpos.line) = true := by rfl) (hs : ∀ env, starEach (e :: es) env = (false, eval e env) :: starEach es env := by intro _; rfl) (hplain : ∀ env, (backTo cpos (starEach es env)).any (·.1) = false := by intro _; rfl) :
    DE C (.Call (.Attribute o name apos) (e :: es) [] cpos) (fMeth ty fo ga k) := by
  intro X ok W tk sg
  refine pe_weak (pe_bm pa slot hty (hm X ok) (ho X ok W tk sg) (ha X ok W tk (nxt (fo sg))) (hbase _) (hfew _) hline (hs _) (hplain _)) fun σ H Q ⟨G, F, R, q⟩ => ?_
  refine RE.fst R q fun x s1 v1 G1 H1 F1 f1 e1 q1 a1 h1 => ?_
  obtain ⟨od, eo, q1⟩ := q1.of
  obtain ⟨g, q1⟩ := q1.guard
  obtain ⟨_, w⟩ := h1.opn.own a1.rel eo
  refine ⟨by rw [ok.K]; exact hT a1.rel.sub w g, ?_⟩
  rw [e1]
  refine ⟨G1, F1, a1.rel, FG.bind q1 (fun _ e => e.later a1) fun b eb q2 vs G2 H2 F2 f2 a2 h2 => ?_⟩
  exact hk X ok _ σ G H F Q x b.1 b.2 v1 vs G2 H2 F2 f1 f2 ⟨a1.trans a2, h1.later a2, h2.early a1, fun c hc z => by
    obtain ⟨_, ⟨u, e⟩, n⟩ := h1.opn.foot c hc
    rcases h2.fps c z with q | q
    · exact n q
    · rw [e] at q; cases q⟩ q2
theorem de_meth0 (pa : PlainAttrs T) (slot : Slot T name id) (hty : typeOf (.builtin id) = pure (.type "method_descriptor")) (hm : ∀ X, C.Ok X → MtR X id (r X)) (hT : ∀ {G H : Hp} {v : V} {od : OD} {fp : List Addr}, Same G H → Own C.K G H v od fp → ty od = true → tyV C.K T v H)
    (ho : DE C o fo)
    (hk : ∀ X, C.Ok X → ∀ (E : XD → Prop) (σ : St) (G0 H0 : Hp) (F0 : Ft) (Q : VK) (x : Opd) (s : Sg) (v : V) (G H : Hp) (F : Ft) (f1 : List Addr), MSt C G0 H0 F0 s σ x [] v [] G H F f1 [] → FG E (okE C.K G0 H0 F0 σ Q) (k x [] s) → r X v [] H Q)
    (hbase : ∀ env, attributeBase o name env (eval o env) = eval o env := by intro _; rfl) (hline : (apos.endLine == cpos.line) = true := by rfl) :
    DE C (.Call (.Attribute o name apos) [] [] cpos) (fMeth0 ty fo k) := by
  intro X ok W tk sg
  refine pe_weak (pe_bm0 pa slot hty (hm X ok) (ho X ok W tk sg) (hbase _) hline) fun σ H Q ⟨G, F, R, q⟩ => ?_
  refine RE.fst R q fun x s1 v1 G1 H1 F1 f1 e1 q1 a1 h1 => ?_
  obtain ⟨od, eo, q1⟩ := q1.of
  obtain ⟨g, q1⟩ := q1.guard
  obtain ⟨_, w⟩ := h1.opn.own a1.rel eo
  exact ⟨by rw [ok.K]; exact hT a1.rel.sub w g, hk X ok _ σ G H F Q x s1 v1 G1 H1 F1 f1 ⟨a1, h1, .nil, fun _ _ z => by cases z⟩ q1⟩
end
def isL : OD → Bool
  | .l _ => true
  | .f (.list _) => true
  | _ => false
theorem tyL {K : PySem.W.Frag} {G H : Hp} {v : V} {od : OD} {fp : List Addr} (s : Same G H) (w : Own K G H v od fp) (h : isL od = true) : tyV K "list" v H := by
  cases w with
  | f w =>
    cases w with
    | lst h1 h2 => exact .inl ⟨rfl, _, SqL.of (s _ _ h1)⟩
    | _ => cases h
  | l h1 h2 h3 h4 => exact .inl ⟨rfl, _, SqL.of h2⟩
  | _ => cases h
theorem OwnAll.append {K : PySem.W.Frag} {G H : Hp} : ∀ {vs ws : List V} {ods es : List OD} {f1 f2 : List Addr}, OwnAll K G H vs ods f1 → OwnAll K G H ws es f2 → (∀ b ∈ f1, b ∉ f2) → OwnAll K G H (vs ++ ws) (ods ++ es) (f1 ++ f2)
  | _, _, _, _, _, _, .nil, b, _ => b
  | _, _, _, _, _, f2, .cons (f1 := g1) (f2 := g2) a r n, b, d => by
    rw [List.append_assoc]
    exact .cons a (OwnAll.append r b fun c hc => d c (List.mem_append_right _ hc)) fun c hc z => (List.mem_append.mp z).elim (n c hc) (d c (List.mem_append_left _ hc))
theorem ext_upd {G H : Hp} {p : Addr} {o o' : HO} (hp : H p = some o) {U : Addr → Prop} (hU : U p) : Ext U G H G (upd H p o') :=
  ⟨Same.refl _, fun b u e n => by rw [upd_ne (fun z => n (by rw [z]; exact hU))]; exact e, fun b u e => by
    by_cases h : b = p
    · subst h; exact ⟨o', upd_same⟩
    · exact ⟨u, by rw [upd_ne h]; exact e⟩, fun _ _ e => .inl e⟩
theorem same_upd' {G H : Hp} {p : Addr} {o : HO} (g : G p = none) (s : Same G H) : Same G (upd H p o) := fun b u e => by
  rw [upd_ne (fun z => by rw [z, g] at e; cases e)]
  exact s b u e
/-- a slot's own list -/
structure LSlot (K : PySem.W.Frag) (G0 H0 : Hp) (F0 : Ft) (s : Sg) (σ : St) (G H : Hp) (F : Ft) (n : Nat) (ods : List OD) (p : Addr) (vs : List V) (fp : List Addr) : Prop where
  sl : σ[n]? = some (some (.ref p))
  hp : H p = some (.lst vs)
  gp : G p = none
  own : OwnAll K G H vs ods fp
  fpn : F n = p :: fp
  nin : p ∉ fp
  set : ∀ vs' ods' fp', OwnAll K G H vs' ods' fp' → (∀ b ∈ fp', b ∈ fp ∨ (¬ foot F b ∧ (foot F0 b ∨ H0 b = none))) → At K G0 H0 F0 (s.set n (some (.l ods'))) σ G (upd H p (.lst vs')) (F.put n (p :: fp'))
theorem At.lslot {K : PySem.W.Frag} {G0 H0 : Hp} {F0 : Ft} {s : Sg} {σ : St} {G H : Hp} {F : Ft} (a : At K G0 H0 F0 s σ G H F) {n : Nat} {ods : List OD} (e : s[n]? = some (some (.l ods))) : ∃ p vs fp, LSlot K G0 H0 F0 s σ G H F n ods p vs fp := by
  obtain ⟨v, e1, w⟩ := a.rel.get n _ e
  generalize hF : F n = ff at w
  cases w with
  | @l p vs _ fp g h r nn =>
    have hn : n < s.length := (List.getElem?_eq_some_iff.mp e).1
    have pf : p ∈ F n := by rw [hF]; exact List.mem_cons_self
    refine ⟨p, vs, fp, e1, h, g, r, hF, nn, fun vs' ods' fp' w' hf => ?_⟩
    have np : p ∉ fp' := fun z => (hf p z).elim nn fun q => q.1 ⟨n, pf⟩
    have x : Ext (· = p) G H G (upd H p (.lst vs')) := ext_upd h rfl
    refine a.write (x.mono fun b hb => by rw [hb]; exact pf) (same_upd' g a.rel.sub) hn e1 (.l g upd_same (w'.ext x fun b hb z => np (z ▸ hb)) np) fun b hb => ?_
    rcases List.mem_cons.mp hb with rfl | hb
    · exact .inl pf
    · exact (hf b hb).imp (fun z => by rw [hF]; exact List.mem_cons_of_mem _ z) id
theorem LSlot.is {K : PySem.W.Frag} {G0 H0 : Hp} {F0 : Ft} {s : Sg} {σ : St} {G H : Hp} {F : Ft} {n : Nat} {ods : List OD} {p : Addr} {vs : List V} {fp : List Addr} (L : LSlot K G0 H0 F0 s σ G H F n ods p vs fp) {v : V} {f1 : List Addr} (h : Opn K G H F σ v (.i n) f1) : v = .ref p := by
  cases h with
  | i h =>
    rw [L.sl] at h
    cases h
    rfl
def onList (x : Opd) (s : Sg) (k : Nat → List OD → Res (Opd × Sg)) : Res (Opd × Sg) := match x with
  | .i n => match s[n]? with
    | some (some (.l ods)) => k n ods
    | _ => .stuck
  | _ => .stuck
theorem FG.onList {E : XD → Prop} {p : Opd × Sg → Prop} {x : Opd} {s : Sg} {k : Nat → List OD → Res (Opd × Sg)} (h : FG E p (onList x s k)) : ∃ n ods, x = .i n ∧ s[n]? = some (some (.l ods)) ∧ FG E p (k n ods) := by
  unfold DL.onList at h
  cases x with
  | v od => exact h.elim
  | i n =>
    cases e : s[n]? with
    | none => simp only [e] at h; exact h.elim
    | some y =>
      cases y with
      | none => simp only [e] at h; exact h.elim
      | some od =>
        cases od with
        | l ods =>
          simp only [e] at h
          exact ⟨n, ods, rfl, e, h⟩
        | _ => simp only [e] at h; exact h.elim
/-- x.append(e) -/
def appendK (x : Opd) (os : List Opd) (s : Sg) : Res (Opd × Sg) := onList x s fun n ods => match os with
  | [.v od] => (guardR (decide (ods.length < 1000000))).bind fun _ => .ok (.v (.f .none), s.set n (some (.l (ods ++ [od]))))
  | _ => .stuck
/-- x.extend(e) -/
def extendK (x : Opd) (os : List Opd) (s : Sg) : Res (Opd × Sg) := onList x s fun n ods => match os with
  | [o] => (Res.of ((o.od s).bind OD.kid)).bind fun ds => (guardR (decide (ods.length + ds.length < 1000000))).bind fun _ => .ok (.v (.f .none), s.set n (some (.l (ods ++ ds.map .f))))
  | _ => .stuck
/-- x.pop(i) -/
def popK (x : Opd) (os : List Opd) (s : Sg) : Res (Opd × Sg) := onList x s fun n ods => match os with
  | [o] => match o.dat s with
    | some (.int i) => (Res.of (frsO ods)).bind fun ds => (Res.of (ixN ds.length i)).bind fun j => (Res.of ds[j]?).bind fun d => (guardR (decide (ds.length < 1000000))).bind fun _ => .ok (.v (.f d), s.set n (some (.l ((ds.eraseIdx j).map .f))))
    | _ => .stuck
  | _ => .stuck
/-- x.remove(e) -/
def removeK (x : Opd) (os : List Opd) (s : Sg) : Res (Opd × Sg) := onList x s fun n ods => match os with
  | [o] => (Res.of (o.dat s)).bind fun d => (Res.of (frsO ods)).bind fun ds => (Res.of (SeqAt.dataPlace ds d)).bind fun j => (guardR (decide (min (PyData.depthAll ds) d.depth ≤ 50))).bind fun _ => .ok (.v (.f .none), s.set n (some (.l ((ds.eraseIdx j).map .f))))
  | _ => .stuck
def clearK (x : Opd) (os : List Opd) (s : Sg) : Res (Opd × Sg) := onList x s fun n ods => .ok (.v (.f .none), s.set n (some (.l [])))
def reverseK (x : Opd) (os : List Opd) (s : Sg) : Res (Opd × Sg) := onList x s fun n ods => (Res.of (frsO ods)).bind fun ds => .ok (.v (.f .none), s.set n (some (.l (ds.reverse.map .f))))
theorem OwnAll.fp0 {K : PySem.W.Frag} {G H : Hp} : ∀ {vs : List V} {ods : List OD} {fp : List Addr}, OwnAll K G H vs ods fp → ∀ {ds : List PyData}, frsO ods = some ds → fp = [] ∧ ods = ds.map .f
  | _, _, _, .nil, ds, e => by cases e; exact ⟨rfl, rfl⟩
  | _, _, _, .cons (od := od) a r n, ds, e => by
    cases od with
    | f d =>
      obtain ⟨ds', e1, rfl⟩ := Option.map_eq_some_iff.mp (show (frsO _).map (d :: ·) = some ds from e)
      obtain ⟨h1, h2⟩ := OwnAll.fp0 r e1
      cases a with
      | f a => exact ⟨by rw [h1]; rfl, by rw [h2]; rfl⟩
    | _ => cases e
/-- list.remove over data -/
def rRemD (K : PySem.W.Frag) : V → List V → Hp → VK → Prop := fun x xs H Q => ∃ (l : Addr) (vs : List V) (ds : List PyData) (y : V) (d : PyData) (j : Nat), x = .ref l ∧ xs = [y] ∧ H l = some (.lst vs) ∧ DpAll K H vs ds ∧ Dp K H y d ∧ min (PyData.depthAll ds) d.depth ≤ 50 ∧ SeqAt.dataPlace ds d = some j ∧ Q .non (upd H l (.lst (vs.eraseIdx j)))
theorem mt_removeD {C : Ctx} {X : Cx} (ok : C.Ok X) : MtR X "list.remove" (rRemD X.K) := by
  intro pins s σ H x xs v us Q I rx rxs h
  obtain ⟨l, vs, ds, y, d, j, rfl, rfl, hH, hd, hy, hu, hp, q⟩ := h
  cases rx
  obtain ⟨u, rfl, ru⟩ := Vals.one rxs
  obtain ⟨z, its, n, r, hl, e⟩ := I.lstM hH
  obtain ⟨as, rs⟩ := Dp.readsAll I ds vs its hd r
  obtain ⟨bs, rx⟩ := Dp.reads I d y u hy ru
  refine SeqAt.remove_list_data (vs := its.toArray) ⟨_, e, rfl, _, rfl⟩ (by simpa using rs) rx (dp_plainAll _ _ hd) (dp_plain _ _ hy) (room_of1 ok hu) hp (by rw [List.size_toArray, ← hl]; exact z) ?_
  refine ⟨.non, _, I.lset (its' := its.eraseIdx j) (t' := s.toks) hH e ?_ (r.eraseIdx j) ?_, rfl, q⟩
  · show its.toArray.eraseIdxIfInBounds j = (its.eraseIdx j).toArray
    rw [List.eraseIdxIfInBounds_toArray]
  · have := len_erase vs j
    omega
section
variable {C : Ctx} {o e : Expr} {fo fa : Sg → Res (Opd × Sg)} {apos cpos : Pos}
/-- what is shown of a call's text -/
structure Mx (o e : Expr) (name : Str) (apos cpos : Pos) : Prop where
  base : ∀ env, attributeBase o name env (eval o env) = eval o env
  few : ∀ env, ((backTo cpos (starEach [e] env)).all (fun x => !x.1) && (backToKw cpos (keywordEach [] env)).all (fun x => x.1.isSome) && decide (([e] : List Expr).length + ([] : List Keyword).length + (if ([] : List Keyword).isEmpty then 0 else 1) < 30)) = true
  line : (apos.endLine == cpos.line) = true
  one : ∀ env, starEach [e] env = [(false, eval e env)]
theorem de_append (ho : DE C o fo) (ha : DE C e fa) (m : Mx o e "append" apos cpos) : DE C (.Call (.Attribute o "append" apos) [e] [] cpos) (fMeth isL fo (fCons (fTk fa) fNil) appendK) :=
  de_meth (r := fun X => rAppend) PySem.F.plainAttrs_list PySem.F.slot_list_append PySem.F.type_list_append (fun X ok => mt_append) tyL ho (da_cons (de_tk ha) da_nil m.one) (fun X ok E σ G0 H0 F0 Q x os s v vs G H F f1 f2 t q => by
    obtain ⟨n, ods, rfl, e1, q⟩ := q.onList
    split at q
    · rename_i od
      obtain ⟨g, q⟩ := q.guard
      obtain ⟨p, ws, fp, L⟩ := t.at2.lslot e1
      have hv := L.is t.h1.opn
      subst hv
      cases t.h2 with
      | @cons v1 _ _ _ g1 g2 h1 hr nd =>
        cases hr
        obtain ⟨hn, hf⟩ := h1
        cases hn with
        | v w m =>
          have nn : ∀ b ∈ fp, b ∉ g1 := fun b hb z => m b z ⟨n, by rw [L.fpn]; exact List.mem_cons_of_mem _ hb⟩
          have st := L.set (ws ++ [v1]) (ods ++ [_]) (fp ++ (g1 ++ [])) (L.own.append (.cons w .nil (fun _ _ z => by cases z)) (by rw [List.append_nil]; exact nn)) fun b hb => by
            rw [List.append_nil] at hb
            rcases List.mem_append.mp hb with z | z
            · exact .inl z
            · exact .inr ⟨m b z, hf b z⟩
          exact ⟨p, ws, v1, rfl, rfl, L.hp, by rw [L.own.length]; exact line g, okE.fro q st .non⟩
    · exact q.elim) m.base m.few m.line m.one (by intro _; rfl)
theorem de_extend (ho : DE C o fo) (ha : DE C e fa) (m : Mx o e "extend" apos cpos) : DE C (.Call (.Attribute o "extend" apos) [e] [] cpos) (fMeth isL fo (fCons fa fNil) extendK) :=
  de_meth (r := fun X => rExtend) PySem.F.plainAttrs_list PySem.F.slot_list_extend PySem.F.type_list_extend (fun X ok => mt_extend) tyL ho (da_cons ha da_nil m.one) (fun X ok E σ G0 H0 F0 Q x os s v vs G H F f1 f2 t q => by
    obtain ⟨n, ods, rfl, e1, q⟩ := q.onList
    split at q
    · rename_i o'
      obtain ⟨ds, ek, q⟩ := q.of
      obtain ⟨g, q⟩ := q.guard
      obtain ⟨p, ws, fp, L⟩ := t.at2.lslot e1
      have hv := L.is t.h1.opn
      subst hv
      obtain ⟨v1, g1, rfl, h1⟩ := t.h2.one
      obtain ⟨od, eo, ek⟩ := Option.bind_eq_some_iff.mp ek
      obtain ⟨_, w⟩ := h1.opn.own t.at2.rel eo
      obtain ⟨p2, zs, rfl, hp2, r2⟩ := w.kid t.at2.rel.sub ek
      have st := L.set (ws ++ zs) (ods ++ ds.map .f) (fp ++ []) (L.own.append (ownAll_f r2) (fun _ _ z => by cases z)) fun b hb => .inl (by rw [List.append_nil] at hb; exact hb)
      exact ⟨p, p2, ws, zs, rfl, rfl, L.hp, hp2, by rw [L.own.length, r2.length]; exact Nat.le_of_lt (line g), okE.fro q st .non⟩
    · exact q.elim) m.base m.few m.line m.one (by intro _; rfl)
theorem de_pop (ho : DE C o fo) (ha : DE C e fa) (m : Mx o e "pop" apos cpos) : DE C (.Call (.Attribute o "pop" apos) [e] [] cpos) (fMeth isL fo (fCons fa fNil) popK) :=
  de_meth (r := fun X => rPopAt) PySem.F.plainAttrs_list PySem.F.slot_list_pop PySem.F.type_list_pop (fun X ok => mt_popAt) tyL ho (da_cons ha da_nil m.one) (fun X ok E σ G0 H0 F0 Q x os s v vs G H F f1 f2 t q => by
    obtain ⟨n, ods, rfl, e1, q⟩ := q.onList
    split at q
    · rename_i o'
      split at q
      · rename_i i ei
        obtain ⟨ds, ed, q⟩ := q.of
        obtain ⟨j, ej, q⟩ := q.of
        obtain ⟨d, edj, q⟩ := q.of
        obtain ⟨g, q⟩ := q.guard
        obtain ⟨p, ws, fp, L⟩ := t.at2.lslot e1
        have hv := L.is t.h1.opn
        subst hv
        obtain ⟨v1, g1, rfl, h1⟩ := t.h2.one
        have ei := dp_int (h1.opn.dp t.at2.rel ei)
        subst ei
        have rr := L.own.frs ed
        obtain ⟨y, ey, iy⟩ := rr.get edj
        obtain ⟨j1, j2, j3, j4⟩ := ixN_seq ej
        have hb : ds.length < 1000000 := of_decide_eq_true g
        have st := L.set (ws.eraseIdx j) ((ds.eraseIdx j).map .f) [] (ownAll_f (rr.eraseIdx j)) fun b hb => by cases hb
        refine ⟨p, ws, i, j, y, rfl, rfl, L.hp, by omega, by omega, by rw [rr.length]; exact j1, ey, okE.fro q st iy⟩
      · exact q.elim
    · exact q.elim) m.base m.few m.line m.one (by intro _; rfl)
theorem de_remove (ho : DE C o fo) (ha : DE C e fa) (m : Mx o e "remove" apos cpos) : DE C (.Call (.Attribute o "remove" apos) [e] [] cpos) (fMeth isL fo (fCons fa fNil) removeK) :=
  de_meth (r := fun X => rRemD X.K) PySem.F.plainAttrs_list PySem.F.slot_list_remove PySem.F.type_list_remove (fun X ok => mt_removeD ok) tyL ho (da_cons ha da_nil m.one) (fun X ok E σ G0 H0 F0 Q x os s v vs G H F f1 f2 t q => by
    obtain ⟨n, ods, rfl, e1, q⟩ := q.onList
    split at q
    · rename_i o'
      obtain ⟨d, ed, q⟩ := q.of
      obtain ⟨ds, eds, q⟩ := q.of
      obtain ⟨j, ej, q⟩ := q.of
      obtain ⟨g, q⟩ := q.guard
      obtain ⟨p, ws, fp, L⟩ := t.at2.lslot e1
      have hv := L.is t.h1.opn
      subst hv
      obtain ⟨v1, g1, rfl, h1⟩ := t.h2.one
      have rr := L.own.frs eds
      have st := L.set (ws.eraseIdx j) ((ds.eraseIdx j).map .f) [] (ownAll_f (rr.eraseIdx j)) fun b hb => by cases hb
      exact ⟨p, ws, ds, v1, d, j, rfl, rfl, L.hp, (rr.same t.at2.rel.sub).dp, by rw [ok.K]; exact h1.opn.dp t.at2.rel ed, of_decide_eq_true g, ej, okE.fro q st .non⟩
    · exact q.elim) m.base m.few m.line m.one (by intro _; rfl)
theorem de_clear (ho : DE C o fo) (hbase : ∀ env, attributeBase o "clear" env (eval o env) = eval o env := by intro _; rfl) (hline : (apos.endLine == cpos.line) = true := by rfl) : DE C (.Call (.Attribute o "clear" apos) [] [] cpos) (fMeth0 isL fo clearK) :=
  de_meth0 (r := fun X => rClear) PySem.F.plainAttrs_list PySem.F.slot_list_clear PySem.F.type_list_clear (fun X ok => mt_clear) tyL ho (fun X ok E σ G0 H0 F0 Q x s v G H F f1 t q => by
    obtain ⟨n, ods, rfl, e1, q⟩ := q.onList
    obtain ⟨p, ws, fp, L⟩ := t.at2.lslot e1
    have hv := L.is t.h1.opn
    subst hv
    exact ⟨p, ws, rfl, rfl, L.hp, okE.fro q (L.set [] [] [] .nil fun b hb => by cases hb) .non⟩) hbase hline
theorem de_reverse (ho : DE C o fo) (hbase : ∀ env, attributeBase o "reverse" env (eval o env) = eval o env := by intro _; rfl) (hline : (apos.endLine == cpos.line) = true := by rfl) : DE C (.Call (.Attribute o "reverse" apos) [] [] cpos) (fMeth0 isL fo reverseK) :=
  de_meth0 (r := fun X => rReverse) PySem.F.plainAttrs_list PySem.F.slot_list_reverse PySem.F.type_list_reverse (fun X ok => mt_reverse) tyL ho (fun X ok E σ G0 H0 F0 Q x s v G H F f1 t q => by
    obtain ⟨n, ods, rfl, e1, q⟩ := q.onList
    obtain ⟨ds, ed, q⟩ := q.of
    obtain ⟨p, ws, fp, L⟩ := t.at2.lslot e1
    have hv := L.is t.h1.opn
    subst hv
    exact ⟨p, ws, rfl, rfl, L.hp, okE.fro q (L.set ws.reverse (ds.reverse.map .f) [] (ownAll_f (L.own.frs ed).reverse) fun b hb => by cases hb) .non⟩) hbase hline

/-! ### d.get(k), d.get(k, x) -/
theorem pe_get1 {X : Cx} {o e : Expr} {td ty : TE} {apos cpos : Pos} (hu : X.A.units + 1 < cLine) (ho : PE X o td) (he : PE X e ty) (m : M1 X o "get" apos e cpos) : PE X (.Call (.Attribute o "get" apos) [e] [] cpos) (tDGet1 td ty) := pe_dget1 hu ho he m
def get1K (x y : Opd) (s : Sg) : Res (Opd × Sg) := (Res.of ((x.od s).bind fun od => (y.er s).bind fun k => od.dk k)).bind fun r => .ok (.v (.f (r.getD .none)), s)
def isD : OD → Bool
  | .m _ _ => true
  | .g _ _ => true
  | _ => false
theorem isD_of {K : PySem.W.Frag} {G H : Hp} {v : V} {od : OD} {fp : List Addr} (s : Same G H) (w : Own K G H v od fp) (h : isD od = true) : ∃ a, v = .ref a ∧ IsD H a := by
  have key : ∀ {t : Bool} {a : Addr} {o : HO} {kvs : List (PyData × V)}, Rd H a o → HD t o kvs → IsD H a := fun r h => by
    cases h with
    | k kvs => exact .inl ⟨kvs, r⟩
    | t kvs => exact .inr ⟨kvs, r⟩
  cases w with
  | m h1 h2 h3 => exact ⟨_, rfl, key (.inl h2) h3⟩
  | g h1 h2 => exact ⟨_, rfl, key (.inr ⟨_, s _ _ h1⟩) h2⟩
  | _ => cases h
def fGet1 (fo fa : Sg → Res (Opd × Sg)) : Sg → Res (Opd × Sg) := fun sg => (fo sg).bind fun a => (Res.of (a.1.od a.2)).bind fun od => (guardR (isD od)).bind fun _ => (fa a.2).bind fun b => get1K a.1 b.1 b.2
theorem de_get1 (ho : DE C o fo) (ha : DE C e fa) (m : ∀ X, M1 X o "get" apos e cpos) : DE C (.Call (.Attribute o "get" apos) [e] [] cpos) (fGet1 fo fa) := by
  intro X ok W tk sg
  refine pe_weak (pe_dget1 (hu_of ok.room) (ho X ok W tk sg) (ha X ok W tk (nxt (fo sg))) (m X)) fun σ H Q ⟨G, F, R, q⟩ => ?_
  refine RE.fst R q fun x s1 v1 G1 H1 F1 f1 e1 q1 a1 h1 => ?_
  obtain ⟨od, eo, q1⟩ := q1.of
  obtain ⟨g, q1⟩ := q1.guard
  obtain ⟨_, w⟩ := h1.opn.own a1.rel eo
  obtain ⟨a, ea, ia⟩ := isD_of a1.rel.sub w g
  refine ⟨a, ea, ia, ?_⟩
  rw [e1]
  refine ⟨G1, F1, a1.rel, FG.bind q1 (fun _ e => e.later a1) fun b eb q2 v2 G2 H2 F2 f2 a2 h2 => ?_⟩
  obtain ⟨r, er, q3⟩ := q2.of
  obtain ⟨od2, eo2, er⟩ := Option.bind_eq_some_iff.mp er
  obtain ⟨k, ek, er⟩ := Option.bind_eq_some_iff.mp er
  obtain ⟨_, w2⟩ := (h1.later a2).opn.own a2.rel eo2
  obtain ⟨a', rv, ea', dg, dr⟩ := w2.dk a2.rel.sub (h2.opn.is a2.rel ek) er
  rw [ea] at ea'
  cases ea'
  refine ⟨rv, dg, ?_⟩
  cases r with
  | none =>
    rw [show rv = none from dr]
    exact okE.fro q3 (a1.trans a2) .non
  | some d =>
    obtain ⟨u, eu, iu⟩ := dr
    rw [eu]
    exact okE.fro q3 (a1.trans a2) iu
def get2K (x y z : Opd) (s : Sg) : Res (Opd × Sg) := (Res.of ((x.od s).bind fun od => (y.er s).bind fun k => od.dk k)).bind fun r => match r with
  | some d => .ok (.v (.f d), s)
  | none => match z with
    | .v (.f d) => .ok (.v (.f d), s)
    | _ => .stuck
def fGet2 (fo fa fb : Sg → Res (Opd × Sg)) : Sg → Res (Opd × Sg) := fun sg => (fo sg).bind fun a => (Res.of (a.1.od a.2)).bind fun od => (guardR (isD od)).bind fun _ => (fa a.2).bind fun b => (fb b.2).bind fun c => get2K a.1 b.1 c.1 c.2
theorem de_get2 {e2 : Expr} {fb : Sg → Res (Opd × Sg)} (ho : DE C o fo) (ha : DE C e fa) (hb : DE C e2 fb) (m : ∀ X, M2 X o "get" apos e e2 cpos) : DE C (.Call (.Attribute o "get" apos) [e, e2] [] cpos) (fGet2 fo fa (fFz fb)) := by
  intro X ok W tk sg
  refine pe_weak (pe_dget2 (hu_of ok.room) (ho X ok W tk sg) (ha X ok W tk (nxt (fo sg))) (de_fz hb X ok W tk (nxt (fa (nxt (fo sg))))) (m X)) fun σ H Q ⟨G, F, R, q⟩ => ?_
  refine RE.fst R q fun x s1 v1 G1 H1 F1 f1 e1 q1 a1 h1 => ?_
  obtain ⟨od, eo, q1⟩ := q1.of
  obtain ⟨g, q1⟩ := q1.guard
  obtain ⟨_, w⟩ := h1.opn.own a1.rel eo
  obtain ⟨a, ea, ia⟩ := isD_of a1.rel.sub w g
  refine ⟨a, ea, ia, ?_⟩
  rw [e1]
  refine ⟨G1, F1, a1.rel, FG.bind q1 (fun _ e => e.later a1) fun b eb q2 v2 G2 H2 F2 f2 a2 h2 => ?_⟩
  have n2 : nxt (fa s1) = b.2 := by
    rw [show fa s1 = .ok b from eb]
    rfl
  show RE C W (fFz fb (nxt (fa s1))) (nxt (fa s1)) σ H2 _
  rw [n2]
  have a12 := a1.trans a2
  refine ⟨G2, F2, a2.rel, FG.bind q2 (fun _ e => e.later a12) fun c ec q3 v3 G3 H3 F3 f3 a3 h3 => ?_⟩
  obtain ⟨r, er, q3⟩ := q3.of
  obtain ⟨od2, eo2, er⟩ := Option.bind_eq_some_iff.mp er
  obtain ⟨k, ek, er⟩ := Option.bind_eq_some_iff.mp er
  obtain ⟨_, w2⟩ := ((h1.later a2).later a3).opn.own a3.rel eo2
  obtain ⟨a', rv, ea', dg, dr⟩ := w2.dk a3.rel.sub ((h2.later a3).opn.is a3.rel ek) er
  rw [ea] at ea'
  cases ea'
  refine ⟨rv, dg, ?_⟩
  cases r with
  | none =>
    rw [show rv = none from dr]
    obtain ⟨z, s3⟩ := c
    cases z with
    | i n => exact q3.elim
    | v od3 =>
      cases od3 with
      | f d =>
        have h3' := h3.opn
        cases h3' with
        | v w3 _ =>
          cases w3 with
          | f w3 => exact okE.fro q3 (a12.trans a3) w3
      | _ => exact q3.elim
  | some d =>
    obtain ⟨u, eu, iu⟩ := dr
    rw [eu]
    exact okE.fro q3 (a12.trans a3) iu
end
end DL
set_option Elab.async false
set_option linter.all false
set_option maxRecDepth 100000
set_option maxHeartbeats 4000000
namespace DL
open PySem PySem.Spec PyProof.Rows L2

/-! ### statements -/
inductive Ou where
  | nx (sg : Sg)
  | rt (od : OD) (sg : Sg)
structure Ctx.OkS (C : Ctx) (X : Cx) : Prop extends C.Ok X where
  po : PassesOwn (model X.prog X.w) X.A X.env X.xe
def Keeps (C : Ctx) (σ σ' : St) : Prop := C.io = true → σ'[0]? = σ[0]?
def okS (C : Ctx) (G0 H0 : Hp) (F0 : Ft) (σ : St) (D : Ends) : Ou → Prop
  | .nx sg' => ∀ σ' G H F, At C.K G0 H0 F0 sg' σ' G H F → Keeps C σ σ' → D.nx σ' H
  | .rt od sg' => ∀ v σ' G H F fp, At C.K G0 H0 F0 sg' σ' G H F → Keeps C σ σ' → Own C.K G H v od fp → (∀ b ∈ fp, ¬ foot F b) → (∀ b ∈ fp, foot F0 b ∨ H0 b = none) → D.rt v H
def ExcS (C : Ctx) (W : WX) (G0 H0 : Hp) (F0 : Ft) (x : XD) : Prop := ∀ σ, ExcW C W G0 H0 F0 σ x
def RS (C : Ctx) (W : WX) (r : Res Ou) (sg : Sg) : TS := fun D σ H => ∃ G F, Rel C.K G H sg σ F ∧ FG (ExcS C W G H F) (okS C G H F σ D) r
def DS (C : Ctx) (st : Stmt) (f : Sg → Res Ou) : Prop := ∀ X, C.OkS X → ∀ W, Takes X W → ∀ sg, PS X st (RS C W (f sg) sg)
def DSs (C : Ctx) (st : List Stmt) (f : Sg → Res Ou) : Prop := ∀ X, C.OkS X → ∀ W, Takes X W → ∀ sg, PSs X st (RS C W (f sg) sg)
theorem ExcS.later {C : Ctx} {W : WX} {G0 H0 G1 H1 : Hp} {F0 F1 : Ft} {s1 : Sg} {σ1 : St} {x : XD} (h : ExcS C W G0 H0 F0 x) (a : At C.K G0 H0 F0 s1 σ1 G1 H1 F1) : ExcS C W G1 H1 F1 x := fun σ => (h σ).later a
theorem Keeps.refl (C : Ctx) (σ : St) : Keeps C σ σ := fun _ => rfl
theorem Keeps.trans {C : Ctx} {σ σ1 σ2 : St} (a : Keeps C σ σ1) (b : Keeps C σ1 σ2) : Keeps C σ σ2 := fun h => (b h).trans (a h)
theorem Rel.assign {K : PySem.W.Frag} {G H : Hp} {sg : Sg} {σ : St} {F : Ft} {i : Nat} {v : V} {od : OD} {fp : List Addr} (r : Rel K G H sg σ F) (hi : i < sg.length) (w : Own K G H v od fp) (n : ∀ b ∈ fp, ¬ foot F b) : Rel K G H (sg.set i (some od)) (σ.set i (some v)) (F.put i fp) where
  sub := r.sub
  get := fun j od' e => by
    rw [set_get] at e
    by_cases h : j = i
    · subst h
      rw [if_pos rfl, if_pos hi] at e
      cases e
      rw [F.put_same]
      exact ⟨v, by rw [set_get, if_pos rfl, if_pos (by rw [r.len]; exact hi)], w⟩
    · rw [if_neg h] at e
      rw [F.put_ne fp h]
      obtain ⟨u, e1, w1⟩ := r.get j od' e
      exact ⟨u, by rw [set_get, if_neg h]; exact e1, w1⟩
  non := fun j e => by
    by_cases h : j = i
    · subst h
      exact absurd (by rw [set_get, if_pos rfl, if_pos hi]) (e od)
    · rw [F.put_ne fp h]
      exact r.non j fun od' q => e od' (by rw [set_get, if_neg h]; exact q)
  dis := fun a b hab c hc => by
    by_cases h1 : a = i
    · subst h1
      rw [F.put_same] at hc
      rw [F.put_ne fp (Ne.symm hab)]
      exact fun z => n c hc ⟨b, z⟩
    · rw [F.put_ne fp h1] at hc
      by_cases h2 : b = i
      · subst h2
        rw [F.put_same]
        exact fun z => n c z ⟨a, hc⟩
      · rw [F.put_ne fp h2]
        exact r.dis a b hab c hc
  len := by rw [List.length_set, List.length_set]; exact r.len
theorem At.assign {K : PySem.W.Frag} {G0 H0 G H : Hp} {F0 F : Ft} {sg : Sg} {σ : St} {i : Nat} {v : V} {od : OD} {fp : List Addr} (a : At K G0 H0 F0 sg σ G H F) (hi : i < sg.length) (w : Own K G H v od fp) (n : ∀ b ∈ fp, ¬ foot F b) (f : ∀ b ∈ fp, foot F0 b ∨ H0 b = none) :
    At K G0 H0 F0 (sg.set i (some od)) (σ.set i (some v)) G H (F.put i fp) :=
  ⟨a.ext, a.rel.assign hi w n, fun b hb => (foot_put hb).elim (f b) (a.sub b)⟩
theorem keeps_set {C : Ctx} {σ : St} {i : Nat} {v : V} (h : C.io = false ∨ i ≠ 0) : Keeps C σ (σ.set i (some v)) := fun e => by
  rcases h with h | h
  · rw [h] at e; cases e
  · rw [set_get, if_neg (Ne.symm h)]
/-- a slot is emptied -/
theorem Rel.drop {K : PySem.W.Frag} {G H : Hp} {sg : Sg} {σ : St} {F : Ft} (i : Nat) (r : Rel K G H sg σ F) : Rel K G H (sg.set i none) σ (F.put i []) where
  sub := r.sub
  get := fun j od' e => by
    rw [set_get] at e
    by_cases h : j = i
    · subst h
      rw [if_pos rfl] at e
      split at e <;> cases e
    · rw [if_neg h] at e
      rw [F.put_ne [] h]
      exact r.get j od' e
  non := fun j e => by
    by_cases h : j = i
    · subst h
      exact F.put_same j []
    · rw [F.put_ne [] h]
      exact r.non j fun od' q => e od' (by rw [set_get, if_neg h]; exact q)
  dis := fun a b hab c hc => by
    by_cases h1 : a = i
    · subst h1
      rw [F.put_same] at hc
      cases hc
    · rw [F.put_ne [] h1] at hc
      by_cases h2 : b = i
      · subst h2
        rw [F.put_same]
        exact fun z => by cases z
      · rw [F.put_ne [] h2]
        exact r.dis a b hab c hc
  len := by rw [List.length_set]; exact r.len

section
variable {C : Ctx} {e : Expr} {f : Sg → Res (Opd × Sg)} {pos pos' : Pos}
/-- x = e -/
def fSet (i : Nat) (f : Sg → Res (Opd × Sg)) : Sg → Res Ou := fun sg => (fTk f sg).bind fun a => match a.1 with
  | .v od => (guardR (decide (i < a.2.length))).bind fun _ => .ok (.nx (a.2.set i (some od)))
  | .i _ => .stuck
theorem ds_set (i : Nat) {x : Str} (h : DE C e f) (hN : C.N[i]? = some x) (hx : Loc C.sc x) (hio : C.io = false ∨ i ≠ 0) (hf : C.fn x = true) (hs : ∀ env, swapsWith e (some (.Name x pos')) pos.line env = pure false := by intro _; rfl) : DS C (.Assign [.Name x pos'] e pos) (fSet i f) := by
  intro X ok W tk sg
  refine ps_weak (ps_set (by rw [ok.N]; exact ok.nd) (i := i) (by rw [ok.N]; exact hN) (by rw [ok.sc]; exact hx) (de_tk h X ok.toOk W tk sg) (hs _) (.inl (ok.fn x hf))) fun D σ H ⟨G, F, R, q⟩ => ⟨G, F, R, FG.bind q (fun _ e => e σ) fun a ea q' v G' H' F' fp at' hv => ?_⟩
  obtain ⟨o, s1⟩ := a
  cases o with
  | i n => exact q'.elim
  | v od =>
    obtain ⟨g, q1⟩ := q'.guard
    obtain ⟨hn, hf⟩ := hv
    cases hn with
    | v w n => exact q1 (σ.set i (some v)) G' H' _ (at'.assign (of_decide_eq_true g) w n hf) (keeps_set hio)
/-- e; -/
def fExpr (f : Sg → Res (Opd × Sg)) : Sg → Res Ou := fun sg => (f sg).bind fun a => .ok (.nx a.2)
theorem ds_expr (h : DE C e f) (hs : ∀ env, swapsWith e none pos.line env = pure false := by intro _; rfl) : DS C (.Expr e pos) (fExpr f) := by
  intro X ok W tk sg
  exact ps_weak (ps_expr (h X ok.toOk W tk sg) (hs _)) fun D σ H ⟨G, F, R, q⟩ => ⟨G, F, R, FG.bind q (fun _ e => e σ) fun a ea q' v G' H' F' fp at' hv => q' σ G' H' F' at' (Keeps.refl C σ)⟩
/-- return e -/
def fRet (io : Bool) (f : Sg → Res (Opd × Sg)) : Sg → Res Ou := fun sg => (f sg).bind fun a => match a.1 with
  | .v od => .ok (.rt od a.2)
  | .i n => (guardR (!(io && n == 0))).bind fun _ => (Res.of (Opd.od a.2 (.i n))).bind fun od => .ok (.rt od (a.2.set n none))
theorem ds_ret (h : DE C e f) : DS C (.Return (some e) pos) (fRet C.io f) := by
  intro X ok W tk sg
  refine ps_weak (ps_ret (h X ok.toOk W tk sg)) fun D σ H ⟨G, F, R, q⟩ => ⟨G, F, R, FG.bind q (fun _ e => e σ) fun a ea q' v G' H' F' fp at' hv => ?_⟩
  obtain ⟨o, s1⟩ := a
  obtain ⟨hn, hf⟩ := hv
  cases hn with
  | v w n => exact q' v σ G' H' F' fp at' (Keeps.refl C σ) w n hf
  | @i n hσ =>
    obtain ⟨g, q1⟩ := q'.guard
    obtain ⟨od, eo, q2⟩ := q1.of
    obtain ⟨z1, z2, v', z3, z4⟩ := slot_of at'.rel eo
    rw [hσ] at z3
    cases z3
    refine q2 v σ G' H' (F'.put n []) (F' n) ⟨at'.ext, at'.rel.drop n, fun b hb => (foot_put hb).elim (fun z => by cases z) (at'.sub b)⟩ (Keeps.refl C σ) z4 (fun b hb z => ?_) fun b hb => at'.sub b ⟨n, hb⟩
    rcases foot_put2 z with z | ⟨j, jn, z⟩
    · cases z
    · exact at'.rel.dis j n jn b z hb
def fRetN : Sg → Res Ou := fun sg => .ok (.rt (.f .none) sg)
theorem ds_retN : DS C (.Return none pos) fRetN := by
  intro X ok W tk sg
  exact ps_weak ps_retN fun D σ H ⟨G, F, R, q⟩ => q .non σ G H F [] (.refl R) (Keeps.refl C σ) (.f .non) (fun _ z => by cases z) (fun _ z => by cases z)
def fPass : Sg → Res Ou := fun sg => .ok (.nx sg)
theorem ds_pass : DS C (.Pass pos) fPass := by
  intro X ok W tk sg
  exact ps_weak ps_pass fun D σ H ⟨G, F, R, q⟩ => q σ G H F (.refl R) (Keeps.refl C σ)
theorem ds_doc {x j} : DS C (.Expr (.Constant (.str x) j pos) pos') fPass := by
  intro X ok W tk sg
  exact ps_weak ps_doc fun D σ H ⟨G, F, R, q⟩ => q σ G H F (.refl R) (Keeps.refl C σ)
def fStuck {α : Type} : Sg → Res α := fun _ => .stuck
theorem ds_never {st : Stmt} : DS C st fStuck := by
  intro X ok W tk sg
  exact ps_weak ps_never fun D σ H ⟨G, F, R, q⟩ => q.elim
end
/-! blocks -/
def fSeq (f g : Sg → Res Ou) : Sg → Res Ou := fun sg => (f sg).bind fun o => match o with
  | .nx s => g s
  | .rt od s => .ok (.rt od s)
def nxo : Res Ou → Sg
  | .ok (.nx s) => s
  | _ => []
section
variable {C : Ctx} {st : Stmt} {rest : List Stmt} {f g : Sg → Res Ou} {pos : Pos}
theorem okS.later {G0 H0 G1 H1 : Hp} {F0 F1 : Ft} {s1 : Sg} {σ σ1 : St} {D : Ends} {o : Ou} (a : At C.K G0 H0 F0 s1 σ1 G1 H1 F1) (k : Keeps C σ σ1) (h : okS C G0 H0 F0 σ D o) : okS C G1 H1 F1 σ1 D o := by
  cases o with
  | nx s => exact fun σ' G H F at2 k2 => h σ' G H F (a.trans at2) (k.trans k2)
  | rt od s => exact fun v σ' G H F fp at2 k2 w n f => h v σ' G H F fp (a.trans at2) (k.trans k2) w n fun b hb => fresh_sub a.ext a.sub (f b hb)
theorem dss_nil : DSs C [] fPass := by
  intro X ok W tk sg
  exact pss_weak pss_nil fun D σ H ⟨G, F, R, q⟩ => q σ G H F (.refl R) (Keeps.refl C σ)
theorem dss_cons (h : DS C st f) (hr : DSs C rest g) : DSs C (st :: rest) (fSeq f g) := by
  intro X ok W tk sg
  refine pss_weak (pss_cons (h X ok W tk sg) (hr X ok W tk (nxo (f sg)))) fun D σ H ⟨G, F, R, q⟩ => ⟨G, F, R, FG.bind q (fun _ e => e) fun o eo q' => ?_⟩
  cases o with
  | nx s =>
    intro σ' G' H' F' at' k
    rw [eo]
    exact ⟨G', F', at'.rel, q'.mono (fun _ e => e.later at') fun _ e => e.later at' k⟩
  | rt od s => exact q'
theorem dss_one (h : DS C st f) : DSs C [st] f := fun X ok W tk sg => pss_one (h X ok W tk sg)
def fIfS (t : Sg → Res (Bool × Sg)) (f g : Sg → Res Ou) : Sg → Res Ou := fun sg => (t sg).bind fun a => if a.1 = true then f a.2 else g a.2
theorem ds_if {c : Expr} {a b : List Stmt} {t : Sg → Res (Bool × Sg)} (hc : DT C c t) (ha : DSs C a f) (hb : DSs C b g) : DS C (.If c a b pos) (fIfS t f g) := by
  intro X ok W tk sg
  refine ps_weak (ps_if (hc X ok.toOk W tk sg) (ha X ok W tk (nxt (t sg))) (hb X ok W tk (nxt (t sg)))) fun D σ H ⟨G, F, R, q⟩ => ⟨G, F, R, FG.bind q (fun _ e => e σ) fun r er q' G' H' F' at' => ?_⟩
  have n : nxt (t sg) = r.2 := by rw [er]; rfl
  obtain ⟨b, s1⟩ := r
  cases b with
  | true =>
    show if true = true then RS C W (f (nxt (t sg))) (nxt (t sg)) D σ H' else _
    rw [if_pos rfl] at q' ⊢
    rw [n]
    exact ⟨G', F', at'.rel, q'.mono (fun _ e => e.later at') fun _ e => e.later at' (Keeps.refl C σ)⟩
  | false =>
    show if false = true then _ else RS C W (g (nxt (t sg))) (nxt (t sg)) D σ H'
    rw [if_neg Bool.false_ne_true] at q' ⊢
    rw [n]
    exact ⟨G', F', at'.rel, q'.mono (fun _ e => e.later at') fun _ e => e.later at' (Keeps.refl C σ)⟩
/-! while, with so many turns at most -/
def fWhile : Nat → (Sg → Res (Bool × Sg)) → (Sg → Res Ou) → Sg → Res Ou
  | 0, _, _, _ => .stuck
  | n + 1, t, b, sg => (t sg).bind fun a => if a.1 = true then (b a.2).bind fun o => match o with
    | .nx s => fWhile n t b s
    | .rt od s => .ok (.rt od s) else .ok (.nx a.2)
theorem ds_while {c : Expr} {body : List Stmt} {t : Sg → Res (Bool × Sg)} (n : Nat) (hc : DT C c t) (hb : DSs C body f) : DS C (.While c body [] pos) (fWhile n t f) := by
  intro X ok W tk sg
  refine ⟨fun pins s σ H D I ⟨G, F, R, q⟩ => ?_⟩
  refine wpAny_While (codeAny_whileLoop (fun m s' => ∃ sg1 σ1 G1 H1 F1, Inv X pins σ1 H1 s' ∧ At C.K G H F sg1 σ1 G1 H1 F1 ∧ Keeps C σ σ1 ∧ FG (ExcS C W G H F) (okS C G H F σ D) (fWhile m t f sg1)) ?_ n ⟨sg, σ, G, H, F, I, .refl R, Keeps.refl C σ, q⟩)
  rintro m s1 ⟨sg1, σ1, G1, H1, F1, I1, a1, k1, q1⟩
  cases m with
  | zero => exact q1.elim
  | succ m =>
    refine wpAny_passesOwn ok.po (thn ((hc X ok.toOk W tk sg1).run pins s1 σ1 H1 (fun b H2 => ∃ sg2 G2 F2, At C.K G H F sg2 σ1 G2 H2 F2 ∧ FG (ExcS C W G H F) (okS C G H F σ D) (if b = true then (f sg2).bind fun o => match o with
      | .nx s => fWhile m t f s
      | .rt od s => .ok (.rt od s) else .ok (.nx sg2))) I1 ⟨G1, F1, a1.rel, FG.bind q1 (fun x e => (e.later a1) σ1) fun r er q2 G2 H2 F2 a2 => ⟨r.2, G2, F2, a1.trans a2, q2⟩⟩) fun b s2 ⟨H2, I2, sg2, G2, F2, a2, q2⟩ => ?_)
    cases b with
    | true =>
      rw [if_pos rfl] at q2 ⊢
      refine wpAny_passesOwn ok.po (thn ((hb X ok W tk sg2).run pins s2 σ1 H2 { D with nx := fun σ3 H3 => ∃ sg3 G3 F3, At C.K G H F sg3 σ3 G3 H3 F3 ∧ Keeps C σ σ3 ∧ FG (ExcS C W G H F) (okS C G H F σ D) (fWhile m t f sg3), bk := fun _ _ => False, ct := fun _ _ => False } I2
        ⟨G2, F2, a2.rel, FG.bind q2 (fun x e => e.later a2) fun o eo q3 => ?_⟩) fun fl s3 q3 => ?_)
      · cases o with
        | nx s => exact fun σ3 G3 H3 F3 a3 k3 => ⟨s, G3, F3, a2.trans a3, k1.trans k3, q3⟩
        | rt od s => exact okS.later a2 k1 q3
      · cases fl with
        | next =>
          obtain ⟨σ3, H3, I3, sg3, G3, F3, a3, k3, q3⟩ := q3
          exact ⟨m, Nat.lt_succ_self m, sg3, σ3, G3, H3, F3, I3, a3, k3, q3⟩
        | cont =>
          obtain ⟨_, _, _, z⟩ := q3
          exact z.elim
        | brk =>
          obtain ⟨_, _, _, z⟩ := q3
          exact z.elim
        | ret v => exact q3
    | false =>
      rw [if_neg Bool.false_ne_true] at q2 ⊢
      exact wpAny_execs_nil ⟨σ1, H2, I2, q2 σ1 G2 H2 F2 a2 k1⟩
end
end DL
set_option Elab.async false
set_option linter.all false
set_option maxRecDepth 100000
set_option maxHeartbeats 4000000
namespace DL
open PySem PySem.Spec PyProof.Rows L2

/-! ### targets -/
abbrev GT := PyData → Sg → Option Sg
def RG (C : Ctx) (ws : List Nat) (g : GT) : TG := fun v σ H Q => ∃ G F sg d sg', Rel C.K G H sg σ F ∧ Is G v d ∧ g d sg = some sg' ∧ ∀ σ' F', Rel C.K G H sg' σ' F' → (∀ b, foot F' b → foot F b) → (∀ j, j ∉ ws → σ'[j]? = σ[j]?) → σ'.length = σ.length → Q σ' H
def DG (C : Ctx) (tg : Expr) (ws : List Nat) (g : GT) : Prop := ∀ X, C.Ok X → PG X tg (RG C ws g)
theorem pg_weak {X : Cx} {e : Expr} {t t' : TG} (h : PG X e t) (w : ∀ v σ H Q, t' v σ H Q → t v σ H Q) : PG X e t' := ⟨fun pins s σ H v u Q I r q => h.run pins s σ H v u Q I r (w v σ H Q q)⟩
def gN (i : Nat) : GT := fun d sg => if i < sg.length then some (sg.set i (some (.f d))) else none
theorem Rel.store {K : PySem.W.Frag} {G H : Hp} {sg : Sg} {σ : St} {F : Ft} {i : Nat} {v : V} {d : PyData} (r : Rel K G H sg σ F) (hi : i < sg.length) (w : Is G v d) : Rel K G H (sg.set i (some (.f d))) (σ.set i (some v)) (F.put i []) := r.assign hi (.f w) fun _ z => by cases z
section
variable {C : Ctx} {pos : Pos}
theorem dg_name (i : Nat) {x : Str} (hN : C.N[i]? = some x) (hx : Loc C.sc x) (hf : C.fn x = true ∨ C.sc.names.lookup x = some .local) : DG C (.Name x pos) [i] (gN i) := by
  intro X ok
  refine pg_weak (pg_name (by rw [ok.N]; exact ok.nd) (i := i) (by rw [ok.N]; exact hN) (by rw [ok.sc]; exact hx) (hf.imp (ok.fn x) fun z => by rw [ok.sc]; exact z)) fun v σ H Q ⟨G, F, sg, d, sg', R, w, e, q⟩ => ?_
  unfold gN at e
  split at e
  · rename_i hi
    cases e
    exact q _ _ (R.store hi w) (fun b hb => (foot_put hb).elim (fun z => by cases z) id) (fun j hj => by rw [set_get, if_neg (by simpa using hj)]) (List.length_set ..)
  · cases e
/-- several -/
def RGs (C : Ctx) (ws : List Nat) (g : List PyData → Sg → Option Sg) : TGs := fun vs σ H Q => ∃ G F sg ds sg', Rel C.K G H sg σ F ∧ IsAll G vs ds ∧ g ds sg = some sg' ∧ ∀ σ' F', Rel C.K G H sg' σ' F' → (∀ b, foot F' b → foot F b) → (∀ j, j ∉ ws → σ'[j]? = σ[j]?) → σ'.length = σ.length → Q σ' H
def DGs (C : Ctx) (ts : List Expr) (ws : List Nat) (g : List PyData → Sg → Option Sg) : Prop := ∀ X, C.Ok X → PGs X ts (RGs C ws g)
theorem pgs_weak {X : Cx} {es : List Expr} {t t' : TGs} (h : PGs X es t) (w : ∀ v σ H Q, t' v σ H Q → t v σ H Q) : PGs X es t' := ⟨fun pins s σ H v u Q I r q => h.run pins s σ H v u Q I r (w v σ H Q q)⟩
def gsNil : List PyData → Sg → Option Sg
  | [], sg => some sg
  | _, _ => none
def gsCons (g : GT) (gs : List PyData → Sg → Option Sg) : List PyData → Sg → Option Sg
  | d :: ds, sg => (g d sg).bind (gs ds)
  | _, _ => none
theorem dgs_nil : DGs C [] [] gsNil := by
  intro X ok
  refine pgs_weak pgs_nil fun vs σ H Q ⟨G, F, sg, ds, sg', R, w, e, q⟩ => ?_
  cases w with
  | nil =>
    cases e
    exact ⟨rfl, q σ F R (fun _ h => h) (fun _ _ => rfl) rfl⟩
  | cons => cases e
theorem dgs_cons {e : Expr} {es : List Expr} {ws ws' : List Nat} {g : GT} {gs : List PyData → Sg → Option Sg} (h : DG C e ws g) (hr : DGs C es ws' gs) (hs : ∀ env, (assignEach (e :: es) env).map (·.2) = assign e env :: (assignEach es env).map (·.2) := by intro _; rfl) : DGs C (e :: es) (ws ++ ws') (gsCons g gs) := by
  intro X ok
  refine pgs_weak (pgs_cons (h X ok) (hr X ok) (hs _)) fun vs σ H Q ⟨G, F, sg, ds, sg', R, w, e, q⟩ => ?_
  cases w with
  | nil => cases e
  | @cons v vs d ds a r =>
    obtain ⟨s1, e1, e2⟩ := Option.bind_eq_some_iff.mp (show (g d sg).bind (gs ds) = some sg' from e)
    refine ⟨v, vs, rfl, G, F, sg, d, s1, R, a, e1, fun σ1 F1 R1 f1 k1 l1 => ?_⟩
    exact ⟨G, F1, s1, ds, sg', R1, r, e2, fun σ2 F2 R2 f2 k2 l2 => q σ2 F2 R2 (fun b hb => f1 b (f2 b hb)) (fun j hj => (k2 j fun z => hj (List.mem_append_right _ z)).trans (k1 j fun z => hj (List.mem_append_left _ z))) (l2.trans l1)⟩
def gTu (n : Nat) (gs : List PyData → Sg → Option Sg) : GT := fun d sg => match d with
  | .tuple ds => if ds.length = n then gs ds sg else none
  | _ => none
theorem dg_tup {es : List Expr} {k n : Nat} {ws : List Nat} {gs : List PyData → Sg → Option Sg} (h : DGs C es ws gs) (hn : ∀ env, (assignEach es env).length = n := by intro _; rfl) (hst : ∀ env, (assignEach es env).findIdx? (·.1) = none := by intro _; rfl) : DG C (.Tuple es k pos) ws (gTu n gs) := by
  intro X ok
  refine pg_weak (pg_tup ok.calm (h X ok) (hn _) (hst _)) fun v σ H Q ⟨G, F, sg, d, sg', R, w, e, q⟩ => ?_
  unfold gTu at e
  cases w with
  | @tup a vs ds hg r =>
    by_cases hl : ds.length = n
    · simp only [hl, if_true] at e
      exact ⟨a, vs, rfl, SqT.of (R.sub _ _ hg), r.length.trans hl, G, F, sg, ds, sg', R, r, e, q⟩
    · simp only [hl, if_false] at e
      cases e
  | _ => cases e
/-- a, b = e -/
def fUnp (g : GT) (f : Sg → Res (Opd × Sg)) : Sg → Res Ou := fun sg => (fFz f sg).bind fun a => match a.1 with
  | .v (.f d) => (Res.of (g d a.2)).bind fun s => .ok (.nx s)
  | _ => .stuck
theorem ds_unp {tg e : Expr} {ws : List Nat} {g : GT} {f : Sg → Res (Opd × Sg)} (h : DE C e f) (hg : DG C tg ws g) (hio : C.io = false ∨ 0 ∉ ws) (hs : ∀ env, swapsWithSole [tg] e pos.line env = pure false := by intro _; rfl) (hw : ∀ env, swappedStores [tg] e env = pure none := by intro _; rfl)
    (h1 : ∀ env, (assignEach [tg] env).map (·.2) = [assign tg env] := by intro _; rfl) : DS C (.Assign [tg] e pos) (fUnp g f) := by
  intro X ok W tk sg
  refine ps_weak (ps_asg (de_fz h X ok.toOk W tk sg) (hg X ok.toOk) (hs _) (hw _) (h1 _)) fun D σ H ⟨G, F, R, q⟩ => ⟨G, F, R, FG.bind q (fun _ e => e σ) fun a ea q' v G' H' F' fp at' hv => ?_⟩
  obtain ⟨o, s1⟩ := a
  cases o with
  | i n => exact q'.elim
  | v od =>
    cases od with
    | f d =>
      obtain ⟨s, es, q1⟩ := q'.of
      have hn := hv.opn
      cases hn with
      | v w n =>
        cases w with
        | f w => exact ⟨G', F', s1, d, s, at'.rel, w, es, fun σ' F2 R2 f2 k2 l2 => q1 σ' G' H' F2 ⟨at'.ext, R2, fun b hb => at'.sub b (f2 b hb)⟩ fun e => k2 0 (hio.elim (fun z => by rw [z] at e; cases e) id)⟩
    | _ => exact q'.elim
/-- a, b = x, y -/
def fPar (i j : Nat) (g : Sg → Res (List Opd × Sg)) : Sg → Res Ou := fun sg => (g sg).bind fun a => match a.1 with
  | [.v (.f d), .v (.f e)] => (guardR (decide (i < a.2.length ∧ j < a.2.length))).bind fun _ => .ok (.nx ((a.2.set i (some (.f d))).set j (some (.f e))))
  | _ => .stuck
theorem ds_par (i j : Nat) {x y : Str} {a b : Expr} {px py pt : Pos} {kt k2 pt2} {fa fb : Sg → Res (Opd × Sg)} (ha : DE C a fa) (hb : DE C b fb) (hi : C.N[i]? = some x) (hj : C.N[j]? = some y) (hij : i ≠ j) (hx : C.sc.names.lookup x = some .local) (hy : C.sc.names.lookup y = some .local) (hio : C.io = false ∨ (i ≠ 0 ∧ j ≠ 0))
    (hw : ∀ env : Env, env.scope = C.sc → swappedStores [.Tuple [.Name x px, .Name y py] kt pt] (.Tuple [a, b] k2 pt2) env = pure (some [x, y])) (hs : ∀ env, swapsWithSole [.Tuple [.Name x px, .Name y py] kt pt] (.Tuple [a, b] k2 pt2) pos.line env = pure false := by intro _; rfl)
    (hs1 : ∀ env, starEach [a, b] env = (false, eval a env) :: starEach [b] env := by intro _; rfl) (hs2 : ∀ env, starEach [b] env = [(false, eval b env)] := by intro _; rfl) :
    DS C (.Assign [.Tuple [.Name x px, .Name y py] kt pt] (.Tuple [a, b] k2 pt2) pos) (fPar i j (fCons (fFz fa) (fCons (fFz fb) fNil))) := by
  intro X ok W tk sg
  refine ps_weak (ps_par (i := i) (j := j) ok.calm (by rw [ok.N]; exact ok.nd) (by rw [ok.N]; exact hi) (by rw [ok.N]; exact hj) hij (by rw [ok.sc]; exact hx) (by rw [ok.sc]; exact hy) (da_cons (de_fz ha) (da_cons (de_fz hb) da_nil hs2) hs1 X ok.toOk W tk sg) (hw _ ok.sc) (hs _)) fun D σ H ⟨G, F, R, q⟩ =>
    ⟨G, F, R, FG.bind q (fun _ e => e σ) fun r er q' vs G' H' F' fp at' hv => ?_⟩
  obtain ⟨os, s1⟩ := r
  split at q'
  · rename_i d e eo
    obtain ⟨g, q1⟩ := q'.guard
    have g := of_decide_eq_true g
    have eo : os = [.v (.f d), .v (.f e)] := eo
    subst eo
    obtain ⟨v, v', g1, g2, rfl, h1, h2⟩ := hv.pair
    have h1' := h1.opn
    have h2' := h2.opn
    cases h1' with
    | v w1 _ =>
      cases w1 with
      | f w1 =>
        cases h2' with
        | v w2 _ =>
          cases w2 with
          | f w2 =>
            have R1 := at'.rel.store g.1 w1
            have R2 := R1.store (i := j) (by rw [List.length_set]; exact g.2) w2
            refine ⟨v, v', rfl, q1 _ G' H' _ ⟨at'.ext, R2, fun b hb => ?_⟩ fun io => ?_⟩
            · rcases foot_put hb with z | z
              · cases z
              · rcases foot_put z with z | z
                · cases z
                · exact at'.sub b z
            · rcases hio with z | ⟨z1, z2⟩
              · rw [z] at io; cases io
              · rw [set_get, if_neg (Ne.symm z2), set_get, if_neg (Ne.symm z1)]
  · exact q'.elim
end

/-! ### what is walked -/
structure Src where
  ds : List PyData
  on : Option Nat
def Src.Same (S : Src) (sg : Sg) (σ0 σ : St) : Prop := match S.on with
  | none => True
  | some n => (Opd.od sg (.i n)).bind OD.kid = some S.ds ∧ σ[n]? = σ0[n]?
def Wlk (K : PySem.W.Frag) (J : It) (S : Src) (σ1 : St) (G1 H1 : Hp) (F1 : Ft) : Prop := ∀ σ2 sg2 G2 H2 F2, At K G1 H1 F1 sg2 σ2 G2 H2 F2 → S.Same sg2 σ1 σ2 →
  (∀ i, S.ds.length ≤ i → J.stop i H2) ∧ ∀ i d, S.ds[i]? = some d → J.go i H2 ∧ ∀ x H', J.yld i H2 x H' → ∃ G', Ext (fun _ => False) G2 H2 G' H' ∧ Same G' H' ∧ Is G' x d
def okI (K : PySem.W.Frag) (G0 H0 : Hp) (F0 : Ft) (σ : St) (R : It → Hp → Prop) (r : Src × Sg) : Prop := ∀ J G H F, At K G0 H0 F0 r.2 σ G H F → Wlk K J r.1 σ G H F → R J H
def RI (C : Ctx) (W : WX) (r : Res (Src × Sg)) (sg : Sg) : TI := fun σ H R => ∃ G F, Rel C.K G H sg σ F ∧ FG (ExcW C W G H F σ) (okI C.K G H F σ R) r
def DI (C : Ctx) (tg iter : Expr) (f : Sg → Res (Src × Sg)) : Prop := ∀ X, C.Ok X → ∀ W, Takes X W → ∀ sg, PI X tg iter (RI C W (f sg) sg)
theorem pi_weak {X : Cx} {tg e : Expr} {t t' : TI} (h : PI X tg e t) (w : ∀ σ H R, t' σ H R → t σ H R) : PI X tg e t' := ⟨fun pins s σ H R I q => h.run pins s σ H R I (w σ H R q)⟩
/-- a list or a tuple -/
theorem pi_seq {X : Cx} {tg l : Expr} {tl : TE} (hl : PE X l tl) : PI X tg l (fun σ H R => tl σ H fun x H1 => ∃ a, x = .ref a ∧ ((∃ xs, SqL X.K H1 a xs) ∧ R (Itl X.K a) H1 ∨ (∃ xs, SqT X.K H1 a xs) ∧ R (Itt X.K a) H1)) := by
  refine ⟨fun pins s σ H R I h => ?_⟩
  refine thn (hl.run pins s σ H _ I h) fun v s1 ⟨x, H1, I1, r1, a, e, q1⟩ => ?_
  subst e; cases r1
  have kp : Inv X pins σ H1 s1 := I1
  have own : ∀ b ∈ [s1.heap.objs.size], FpOk X pins H1 b := fun b hb => by
    obtain rfl : b = s1.heap.objs.size := by simpa using hb
    exact I1.fpOk (Nat.le_refl _) (I1.hok.fresh (Nat.le_refl _))
  rcases q1 with ⟨⟨xs, hq⟩, q⟩ | ⟨⟨xs, hq⟩, q⟩
  · obtain ⟨its, rv, p, hz⟩ := I1.list hq
    exact wpAny_pyIter_list p.isList ⟨s1.heap.objs.size, [s1.heap.objs.size], _, _, H1, rfl, I1.kept (t' := s1.toks) (fun b o e => Heap.get?_push_of_some _ e), turn_list a _, ⟨_, Heap.get?_push_size _ rfl, rfl, rfl⟩, own, q⟩
  · obtain ⟨its, rv, p, hz⟩ := I1.tuple hq
    exact wpAny_pyIter_tuple (show s1.heap.IsTuple a its.toArray from p) ⟨s1.heap.objs.size, [s1.heap.objs.size], _, _, H1, rfl, I1.kept (t' := s1.toks) (fun b o e => Heap.get?_push_of_some _ e), turn_tuple a _, ⟨_, Heap.get?_push_size _ rfl, rfl, rfl⟩, own, q⟩
theorem sqL_inj {K : PySem.W.Frag} {H : Hp} {a : Addr} {xs ys : List V} (h : H a = some (.lst xs)) (h' : Rd H a (.lst ys)) : xs = ys := by
  rcases h' with q | ⟨o, q⟩
  · rw [h] at q; cases q; rfl
  · rw [h] at q; cases q
section
variable {C : Ctx} {tg e : Expr} {f : Sg → Res (Opd × Sg)} {pos p : Pos}
/-- frozen: it stays -/
def iFz (f : Sg → Res (Opd × Sg)) : Sg → Res (Src × Sg) := fun sg => (fFz f sg).bind fun a => match a.1 with
  | .v od => (Res.of od.kidA).bind fun ds => .ok (⟨ds, none⟩, a.2)
  | .i _ => .stuck
end
end DL
set_option Elab.async false
set_option linter.all false
set_option maxRecDepth 100000
set_option maxHeartbeats 4000000
namespace DL
open PySem PySem.Spec PyProof.Rows L2

theorem Own.kidG {K : PySem.W.Frag} {G H : Hp} {v : V} {od : OD} {fp : List Addr} (w : Own K G H v od fp) (hf : frOD od = true) {ds : List PyData} (e : od.kidA = some ds) : ∃ a vs, v = .ref a ∧ (SqL K G a vs ∨ SqT K G a vs) ∧ IsAll G vs ds := by
  cases w with
  | f h =>
    cases h with
    | lst h1 h2 => cases e; exact ⟨_, _, rfl, .inl (SqL.of h1), h2⟩
    | tup h1 h2 => cases e; exact ⟨_, _, rfl, .inr (SqT.of h1), h2⟩
    | _ => cases e
  | s h1 h2 => cases e; exact ⟨_, _, rfl, .inl h1, h2⟩
  | l => cases hf
  | m => cases hf
  | g => cases e
theorem sqT_same {K : PySem.W.Frag} {G G' : Hp} {a : Addr} {xs : List V} (s : Same G G') (q : SqT K G a xs) : SqT K G' a xs := by
  rcases q with (q | ⟨o, q⟩) | q
  · exact .inl (.inl (s _ _ q))
  · exact .inl (.inr ⟨o, s _ _ q⟩)
  · exact .inr q
theorem wlk_list {K : PySem.W.Frag} {a : Addr} {vs : List V} {ds : List PyData} {on : Option Nat} {σ1 : St} {G1 H1 : Hp} {F1 : Ft} (h : ∀ σ2 sg2 G2 H2 F2, At K G1 H1 F1 sg2 σ2 G2 H2 F2 → Src.Same ⟨ds, on⟩ sg2 σ1 σ2 → ∃ vs, SqL K H2 a vs ∧ IsAll G2 vs ds) : Wlk K (Itl K a) ⟨ds, on⟩ σ1 G1 H1 F1 := by
  intro σ2 sg2 G2 H2 F2 at2 sm
  obtain ⟨vs, q, r⟩ := h σ2 sg2 G2 H2 F2 at2 sm
  refine ⟨fun i hi => ⟨vs, q, by rw [r.length]; exact hi⟩, fun i d e => ?_⟩
  obtain ⟨v, ev, iv⟩ := r.get e
  refine ⟨⟨vs, v, q, ev⟩, fun x H' y => ?_⟩
  obtain ⟨e1, y⟩ := y
  subst e1
  have ex := y vs q
  rw [ev] at ex
  cases ex
  exact ⟨G2, Ext.refl _ _ _, at2.rel.sub, iv⟩
theorem wlk_tup {K : PySem.W.Frag} {a : Addr} {ds : List PyData} {on : Option Nat} {σ1 : St} {G1 H1 : Hp} {F1 : Ft} (h : ∀ σ2 sg2 G2 H2 F2, At K G1 H1 F1 sg2 σ2 G2 H2 F2 → Src.Same ⟨ds, on⟩ sg2 σ1 σ2 → ∃ vs, SqT K H2 a vs ∧ IsAll G2 vs ds) : Wlk K (Itt K a) ⟨ds, on⟩ σ1 G1 H1 F1 := by
  intro σ2 sg2 G2 H2 F2 at2 sm
  obtain ⟨vs, q, r⟩ := h σ2 sg2 G2 H2 F2 at2 sm
  refine ⟨fun i hi => ⟨vs, q, by rw [r.length]; exact hi⟩, fun i d e => ?_⟩
  obtain ⟨v, ev, iv⟩ := r.get e
  refine ⟨⟨vs, v, q, ev⟩, fun x H' y => ?_⟩
  obtain ⟨e1, y⟩ := y
  subst e1
  have ex := y vs q
  rw [ev] at ex
  cases ex
  exact ⟨G2, Ext.refl _ _ _, at2.rel.sub, iv⟩
section
variable {C : Ctx} {tg e e2 : Expr} {f f2 : Sg → Res (Opd × Sg)} {pos p : Pos}
theorem frz_fr {o : Opd} {s : Sg} {b : OD × Sg} (h : frzO o s = some b) : frOD b.1 = true := by
  have key : ∀ {od od' : OD}, od.fz = some od' → frOD od' = true := fun {od od'} h => by
    cases od with
    | f d => cases h; rfl
    | l xs => obtain ⟨_, _, rfl⟩ := Option.map_eq_some_iff.mp h; rfl
    | m t kvs => cases h
    | g t kvs => cases h; rfl
    | s ds => cases h; rfl
  cases o with
  | v od =>
    obtain ⟨od', e1, rfl⟩ := Option.map_eq_some_iff.mp (show od.fz.map (fun od' => (od', s)) = some b from h)
    exact key e1
  | i n =>
    have h : (match s[n]? with
      | some (some od) => od.fz.map fun od' => (od', s.set n (some od'))
      | _ => none) = some b := h
    cases q : s[n]? with
    | none => simp only [q] at h; cases h
    | some x =>
      cases x with
      | none => simp only [q] at h; cases h
      | some od =>
        simp only [q] at h
        obtain ⟨od', e1, rfl⟩ := Option.map_eq_some_iff.mp h
        exact key e1
theorem fFz_fr {sg : Sg} {a : Opd × Sg} (h : fFz f sg = .ok a) : ∃ od, a.1 = .v od ∧ frOD od = true := by
  unfold fFz at h
  cases e1 : f sg with
  | ok b =>
    rw [e1] at h
    cases e2 : frzO b.1 b.2 with
    | none => rw [show ((Res.ok b).bind fun a => (Res.of (frzO a.1 a.2)).bind fun b => Res.ok (Opd.v b.1, b.2)) = (Res.of (frzO b.1 b.2)).bind fun b => Res.ok (Opd.v b.1, b.2) from rfl, e2] at h; cases h
    | some c =>
      rw [show ((Res.ok b).bind fun a => (Res.of (frzO a.1 a.2)).bind fun b => Res.ok (Opd.v b.1, b.2)) = (Res.of (frzO b.1 b.2)).bind fun b => Res.ok (Opd.v b.1, b.2) from rfl, e2] at h
      cases h
      exact ⟨c.1, rfl, frz_fr e2⟩
  | exc x => rw [e1] at h; cases h
  | stuck => rw [e1] at h; cases h
theorem di_fz (h : DE C e f) : DI C tg e (iFz f) := by
  intro X ok W tk sg
  refine pi_weak (pi_seq (de_fz h X ok W tk sg)) fun σ H R ⟨G, F, Rr, q⟩ => ⟨G, F, Rr, FG.bind q (fun _ e => e) fun a ea q' v G' H' F' fp at' hv => ?_⟩
  obtain ⟨od, eo, fr⟩ := fFz_fr ea
  obtain ⟨o, s1⟩ := a
  have eo : o = .v od := eo
  subst eo
  obtain ⟨ds, ek, q1⟩ := q'.of
  have hn := hv.opn
  cases hn with
  | v w n =>
    obtain ⟨a, vs, rfl, hs, r⟩ := w.kidG fr ek
    refine ⟨a, rfl, ?_⟩
    rw [ok.K]
    rcases hs with hs | hs
    · exact .inl ⟨⟨vs, at'.rel.sub.seq hs⟩, q1 _ G' H' F' at' (wlk_list (vs := vs) fun σ2 sg2 G2 H2 F2 a2 _ => ⟨vs, a2.rel.sub.seq (a2.ext.gg.seq hs), r.same a2.ext.gg⟩)⟩
    · exact .inr ⟨⟨vs, sqT_same at'.rel.sub hs⟩, q1 _ G' H' F' at' (wlk_tup fun σ2 sg2 G2 H2 F2 a2 _ => ⟨vs, sqT_same a2.rel.sub (sqT_same a2.ext.gg hs), r.same a2.ext.gg⟩)⟩
/-- a slot's own list, as it stands -/
def iVar (n : Nat) : Sg → Res (Src × Sg) := fun sg => (Res.of ((Opd.od sg (.i n)).bind OD.kid)).bind fun ds => .ok (⟨ds, some n⟩, sg)
theorem di_var (i : Nat) {x : Str} (hN : C.N[i]? = some x) (hv : Vis C.sc x) (hd : (x == ("__debug__" : Str)) = false := by decide) (hcd : (x == ("__classdict__" : Str)) = false := by decide) : DI C tg (.Name x pos) (iVar i) := by
  intro X ok W tk sg
  refine pi_weak (pi_list (pe_var (i := i) (by rw [ok.N]; exact hN) (by rw [ok.sc]; exact hv) hd hcd)) fun σ H R ⟨G, F, Rr, q⟩ => ?_
  obtain ⟨ds, ek, q1⟩ := q.of
  obtain ⟨od, eo, ek⟩ := Option.bind_eq_some_iff.mp ek
  obtain ⟨z1, z2, v, z3, w⟩ := slot_of Rr eo
  obtain ⟨a, vs, rfl, hp, r⟩ := w.kid Rr.sub ek
  refine ⟨.ref a, z3, a, rfl, ⟨vs, SqL.of hp⟩, ?_⟩
  rw [ok.K]
  refine q1 _ G H F (.refl Rr) (wlk_list (vs := vs) fun σ2 sg2 G2 H2 F2 a2 sm => ?_)
  obtain ⟨e1, e2⟩ := (show (Opd.od sg2 (.i i)).bind OD.kid = some ds ∧ σ2[i]? = σ[i]? from sm)
  obtain ⟨od2, eo2, ek2⟩ := Option.bind_eq_some_iff.mp e1
  obtain ⟨y1, y2, v2, y3, w2⟩ := slot_of a2.rel eo2
  obtain ⟨a', vs', rfl, hp', r'⟩ := w2.kid a2.rel.sub ek2
  rw [e2, z3] at y3
  cases y3
  exact ⟨vs', SqL.of hp', r'⟩
/-- range(n), range(a, b) -/
def rngD (lo : Int) (n : Nat) : List PyData := (List.range n).map fun (i : Nat) => .int (lo + (i : Int))
theorem wlk_rng {K : PySem.W.Frag} {lo : Int} {n : Nat} {σ1 : St} {G1 H1 : Hp} {F1 : Ft} : Wlk K (Itr lo n) ⟨rngD lo n, none⟩ σ1 G1 H1 F1 := by
  intro σ2 sg2 G2 H2 F2 a2 _
  have hl : (rngD lo n).length = n := by unfold rngD; rw [List.length_map, List.length_range]
  refine ⟨fun i hi => by rw [hl] at hi; exact hi, fun i d e => ?_⟩
  unfold rngD at e
  rw [List.getElem?_map] at e
  obtain ⟨j, e1, rfl⟩ := Option.map_eq_some_iff.mp e
  obtain ⟨h1, h2⟩ := List.getElem?_eq_some_iff.mp e1
  rw [List.getElem_range] at h2
  subst h2
  refine ⟨by rw [List.length_range] at h1; exact h1, fun x H' y => ?_⟩
  obtain ⟨e2, rfl⟩ := y
  subst e2
  exact ⟨G2, Ext.refl _ _ _, a2.rel.sub, .int _⟩
def iRng1 (f : Sg → Res (Opd × Sg)) : Sg → Res (Src × Sg) := fun sg => (f sg).bind fun a => match a.1.dat a.2 with
  | some (.int j) => (guardR (decide (-1000000 ≤ j ∧ j ≤ 1000000))).bind fun _ => .ok (⟨rngD 0 j.toNat, none⟩, a.2)
  | _ => .stuck
theorem di_rng1 (hb : Bi C "range") (h : DE C e f) (hs : ∀ env, starEach [e] env = [(false, eval e env)] := by intro _; rfl) : DI C tg (.Call (.Name "range" p) [e] [] pos) (iRng1 f) := by
  intro X ok W tk sg
  refine pi_weak (pi_range1 (ok.glob hb.1) (by rw [ok.mg]; exact hb.2) (pa_cons (h X ok W tk sg) pa_nil (hs _)) (hs _)) fun σ H R ⟨G, F, Rr, q⟩ => ⟨G, F, Rr, FG.bind q (fun _ e => e) fun a ea q' v G' H' F' fp at' hv => ?_⟩
  split at q'
  · rename_i j ej
    obtain ⟨g, q1⟩ := q'.guard
    have g := of_decide_eq_true g
    have ev := dp_int (hv.opn.dp at'.rel ej)
    subst ev
    exact ⟨j, rfl, by omega, by omega, q1 _ G' H' F' at' wlk_rng⟩
  · exact q'.elim
def iRng2 (f f2 : Sg → Res (Opd × Sg)) : Sg → Res (Src × Sg) := fun sg => (f sg).bind fun a => (f2 a.2).bind fun b => match a.1.dat b.2, b.1.dat b.2 with
  | some (.int i), some (.int j) => (guardR (decide ((-1000000 ≤ i ∧ i ≤ 1000000) ∧ (-1000000 ≤ j ∧ j ≤ 1000000)))).bind fun _ => .ok (⟨rngD i (j - i).toNat, none⟩, b.2)
  | _, _ => .stuck
theorem di_rng2 (hb : Bi C "range") (h : DE C e f) (h2 : DE C e2 f2) (hs : ∀ env, starEach [e, e2] env = [(false, eval e env), (false, eval e2 env)] := by intro _; rfl) (hs2 : ∀ env, starEach [e2] env = [(false, eval e2 env)] := by intro _; rfl) : DI C tg (.Call (.Name "range" p) [e, e2] [] pos) (iRng2 f f2) := by
  intro X ok W tk sg
  refine pi_weak (pi_range2 (ok.glob hb.1) (by rw [ok.mg]; exact hb.2) (pa_cons (h X ok W tk sg) (pa_cons (h2 X ok W tk (nxt (f sg))) pa_nil (hs2 _)) (by rw [hs, hs2])) (hs _) (hs2 _)) fun σ H R ⟨G, F, Rr, q⟩ => ?_
  refine RE.fst Rr q fun x s1 v1 G1 H1 F1 f1 e1 q1 a1 h1 => ?_
  rw [e1]
  refine ⟨G1, F1, a1.rel, FG.bind q1 (fun _ e => e.later a1) fun b eb q2 v2 G2 H2 F2 f2 a2 h2 => ?_⟩
  split at q2
  · rename_i i j ei ej
    obtain ⟨g, q3⟩ := q2.guard
    have g := of_decide_eq_true g
    have ev := dp_int ((h1.later a2).opn.dp a2.rel ei)
    have ev2 := dp_int (h2.opn.dp a2.rel ej)
    subst ev ev2
    exact ⟨i, j, rfl, by omega, q3 _ G2 H2 F2 (a1.trans a2) wlk_rng⟩
  · exact q2.elim
end

/-! ### for -/
def forL (g : GT) (b : Sg → Res Ou) : List PyData → Sg → Res Ou
  | [], sg => .ok (.nx sg)
  | d :: ds, sg => (Res.of (g d sg)).bind fun s1 => (b s1).bind fun o => match o with
    | .nx s => forL g b ds s
    | .rt od s => .ok (.rt od s)
def fFor (src : Sg → Res (Src × Sg)) (g : GT) (b : Sg → Res Ou) : Sg → Res Ou := fun sg => (src sg).bind fun a => match a.1.on with
  | none => forL g b a.1.ds a.2
  | some _ => .stuck
section
variable {C : Ctx} {tg it : Expr} {body : List Stmt} {src : Sg → Res (Src × Sg)} {g : GT} {ws : List Nat} {b : Sg → Res Ou} {pos : Pos}
theorem At.step {K : PySem.W.Frag} {G H G' H' : Hp} {sg : Sg} {σ : St} {F : Ft} (r : Rel K G H sg σ F) (x : Ext (fun _ => False) G H G' H') (s : Same G' H') : At K G H F sg σ G' H' F := ⟨ext_false x, r.ext x s (fun _ _ z => z), fun _ h => .inl h⟩
theorem pss_any {X : Cx} {W : WX} (ok : C.OkS X) (tk : Takes X W) (hb : DSs C body b) : PSs X body (fun D σ H => ∃ sg, RS C W (b sg) sg D σ H) := ⟨fun pins s σ H D I ⟨sg, q⟩ => (hb X ok W tk sg).run pins s σ H D I q⟩
theorem ds_for (hi : DI C tg it src) (hg : DG C tg ws g) (hb : DSs C body b) (hio : C.io = false ∨ 0 ∉ ws) (hs : ∀ env x, foldedSetIterable it env x = pure x := by intro _ _; rfl) : DS C (.For tg it body [] pos) (fFor src g b) := by
  intro X ok W tk sg
  refine ps_weak (ps_for ok.po ok.calm (hi X ok.toOk W tk sg) (hg X ok.toOk) (pss_any ok tk hb) (hs _)) fun D σ H ⟨G, F, Rr, q⟩ => ⟨G, F, Rr, FG.bind q (fun _ e => e σ) fun a ea q' J G1 H1 F1 a1 wk => ?_⟩
  obtain ⟨⟨ds, on⟩, sg1⟩ := a
  cases on with
  | some n => exact q'.elim
  | none =>
    refine ⟨fun i m σ2 H2 => m = ds.length - i ∧ i ≤ ds.length ∧ ∃ sg2 G2 F2, At C.K G1 H1 F1 sg2 σ2 G2 H2 F2 ∧ Keeps C σ σ2 ∧ FG (ExcS C W G H F) (okS C G H F σ D) (forL g b (ds.drop i) sg2), ⟨ds.length, by simp, Nat.zero_le _, sg1, G1, F1, .refl a1.rel, Keeps.refl C σ, q'⟩, ?_⟩
    rintro i m σ2 H2 ⟨rfl, hi, sg2, G2, F2, a2, k2, q2⟩
    obtain ⟨w1, w2⟩ := wk σ2 sg2 G2 H2 F2 a2 trivial
    by_cases hlt : i < ds.length
    · obtain ⟨go, yl⟩ := w2 i ds[i] (List.getElem?_eq_getElem hlt)
      refine .inr ⟨go, fun σ3 H3 => i < ds.length ∧ ∃ sg3 G3 F3, At C.K G1 H1 F1 sg3 σ3 G3 H3 F3 ∧ Keeps C σ σ3 ∧ FG (ExcS C W G H F) (okS C G H F σ D) (forL g b (ds.drop (i + 1)) sg3), fun σ3 H3 ⟨_, sg3, G3, F3, a3, k3, q3⟩ => ⟨ds.length - (i + 1), by omega, rfl, hlt, sg3, G3, F3, a3, k3, q3⟩, fun x H3 y => ?_⟩
      obtain ⟨G3, x3, s3, iv⟩ := yl x H3 y
      rw [List.drop_eq_getElem_cons hlt] at q2
      obtain ⟨s4, e4, q4⟩ := q2.of
      have a3 := a2.trans (At.step a2.rel x3 s3)
      refine ⟨G3, F2, sg2, ds[i], s4, a3.rel, iv, e4, fun σ4 F4 R4 f4 k4 l4 => ?_⟩
      have a4 : At C.K G1 H1 F1 s4 σ4 G3 H3 F4 := ⟨a3.ext, R4, fun b hb => a3.sub b (f4 b hb)⟩
      have k24 : Keeps C σ σ4 := k2.trans fun io => k4 0 (hio.elim (fun z => by rw [z] at io; cases io) id)
      refine ⟨s4, G3, F4, R4, FG.bind q4 (fun _ e => e.later (a1.trans a4)) fun o eo q5 => ?_⟩
      cases o with
      | nx s => exact fun σ5 G5 H5 F5 a5 k5 => ⟨hlt, s, G5, F5, a4.trans a5, k24.trans k5, q5⟩
      | rt od s => exact okS.later (a1.trans a4) k24 q5
    · have e : i = ds.length := by omega
      subst e
      rw [List.drop_length] at q2
      exact .inl ⟨w1 _ (Nat.le_refl _), q2 σ2 G2 H2 F2 (a1.trans a2) k2⟩
end

/-! ### comprehensions -/
def Ctx.blk (C : Ctx) (scope : Scope) : Ctx := { C with sc := relS scope C.sc, fn := fun x => scope.names.lookup x == some .cell }
theorem blk_ok {C : Ctx} {X : Cx} (ok : C.Ok X) (scope : Scope) (s : Shared) (H : Hp) (D : Addr) (cl : List (Str × Addr)) (fp : List Addr) : (C.blk scope).Ok (X.blk s H scope (compEnvC scope cl D X.env) fp) where
  P := ok.P
  w := ok.w
  K := ok.K
  mg := ok.mg
  base := ok.base
  N := ok.N
  sc := by
    show relS scope X.env.scope = relS scope C.sc
    rw [ok.sc]
  calm := ok.calm
  room := ok.room
  nd := ok.nd
  fn := fun x h => h
def wipeS (sg : Sg) : List Nat → Sg
  | [] => sg
  | v :: vs => (wipeS sg vs).set v none
/-- the block's own slots as they were -/
def restS (sg sg0 : Sg) : List Nat → Sg
  | [] => sg
  | v :: vs => (restS sg sg0 vs).set v (match sg0[v]? with
    | some x => x
    | none => none)
def okOwn (sg : Sg) (vs : List Nat) : Bool := vs.all fun v => match sg[v]? with
  | some (some od) => frOD od
  | _ => true
theorem Rel.wipe {K : PySem.W.Frag} {G H : Hp} {sg : Sg} {σ : St} {F : Ft} (r : Rel K G H sg σ F) : ∀ vs : List Nat, ∃ F', Rel K G H (wipeS sg vs) (wipe σ vs) F' ∧ ∀ b, foot F' b → foot F b
  | [] => ⟨F, r, fun _ h => h⟩
  | v :: vs => by
    obtain ⟨F1, r1, h1⟩ := Rel.wipe r vs
    refine ⟨F1.put v [], ⟨r1.sub, fun j od e => ?_, fun j e => ?_, (r1.drop v).dis, ?_⟩, fun b hb => (foot_put hb).elim (fun z => by cases z) (h1 b)⟩
    · obtain ⟨u, e1, w⟩ := (r1.drop v).get j od e
      refine ⟨u, ?_, w⟩
      have hj : j ≠ v := fun z => by
        have e : ((wipeS sg vs).set v none)[j]? = some (some od) := e
        rw [set_get, if_pos z] at e
        split at e <;> cases e
      show ((L2.wipe σ vs).set v none)[j]? = some (some u)
      rw [set_get, if_neg hj]
      exact e1
    · exact (r1.drop v).non j e
    · show ((L2.wipe σ vs).set v none).length = ((wipeS sg vs).set v none).length
      rw [List.length_set, List.length_set]
      exact r1.len
theorem wipeS_out {sg : Sg} : ∀ {vs : List Nat} {i : Nat}, i ∉ vs → (wipeS sg vs)[i]? = sg[i]?
  | [], _, _ => rfl
  | v :: vs, i, h => by
    have h1 : i ≠ v := fun z => h (z ▸ List.mem_cons_self)
    show ((wipeS sg vs).set v none)[i]? = _
    rw [set_get, if_neg h1]
    exact wipeS_out fun z => h (List.mem_cons_of_mem _ z)
theorem wipe_out' {σ : St} : ∀ {vs : List Nat} {i : Nat}, i ∉ vs → (wipe σ vs)[i]? = σ[i]?
  | [], _, _ => rfl
  | v :: vs, i, h => by
    have h1 : i ≠ v := fun z => h (z ▸ List.mem_cons_self)
    show ((wipe σ vs).set v none)[i]? = _
    rw [set_get, if_neg h1]
    exact wipe_out' fun z => h (List.mem_cons_of_mem _ z)
theorem restS_len {sg sg0 : Sg} : ∀ vs : List Nat, (restS sg sg0 vs).length = sg.length
  | [] => rfl
  | v :: vs => by
    show ((restS sg sg0 vs).set v _).length = _
    rw [List.length_set]
    exact restS_len vs
theorem restS_get {sg sg0 : Sg} (hl : sg.length = sg0.length) : ∀ (vs : List Nat) (i : Nat), (restS sg sg0 vs)[i]? = if i ∈ vs then sg0[i]? else sg[i]?
  | [], _ => by simp [restS]
  | v :: vs, i => by
    show ((restS sg sg0 vs).set v _)[i]? = _
    rw [set_get]
    by_cases h : i = v
    · subst h
      rw [if_pos rfl, if_pos List.mem_cons_self, restS_len, hl]
      by_cases hi : i < sg0.length
      · rw [if_pos hi, List.getElem?_eq_getElem hi]
      · rw [if_neg hi, List.getElem?_eq_none (by omega)]
    · rw [if_neg h, restS_get hl vs i]
      have : (i ∈ v :: vs) ↔ i ∈ vs := by simp [h]
      simp only [this]
end DL
set_option Elab.async false
set_option linter.all false
set_option maxRecDepth 100000
set_option maxHeartbeats 4000000
namespace DL
open PySem PySem.Spec PyProof.Rows L2

/-! ### comprehensions, behind the preliminaries -/
def noX {α : Type} : Res α → Res α
  | .ok a => .ok a
  | _ => .stuck
@[simp] theorem noX_ok {α : Type} (a : α) : noX (.ok a : Res α) = .ok a := rfl
theorem FG.noX {α β : Type} {E E' : XD → Prop} {p : β → Prop} {p' : α → Prop} {r : Res α} {k : α → Res β} (h : FG E p ((noX r).bind k)) (hk : ∀ a, r = .ok a → FG E p (k a) → p' a) : FG E' p' r := by
  cases r with
  | ok a => exact hk a rfl h
  | exc x => exact h.elim
  | stuck => exact h.elim
theorem FG.noX' {α β : Type} {E E' : XD → Prop} {p : β → Prop} {p' : α → Prop} {r : Res α} {k : α → Res β} (h : FG E p ((DL.noX r).bind k)) (hk : ∀ a, r = .ok a → FG E p (k a) → p' a) : FG E' p' r := h.noX hk
theorem Res.bind_assoc {α β γ : Type} (r : Res α) (k : α → Res β) (l : β → Res γ) : (r.bind k).bind l = r.bind fun a => (k a).bind l := by cases r <;> rfl
open Classical in
noncomputable def sameR (vs : List Nat) (on : Option Nat) (ds : List PyData) (sg : Sg) : Res Unit := match on with
  | none => .ok ()
  | some n => if n ∉ vs ∧ (Opd.od sg (.i n)).bind OD.kid = some ds then .ok () else .stuck
@[simp] theorem sameR_none (vs : List Nat) (ds : List PyData) (sg : Sg) : sameR vs none ds sg = .ok () := rfl
theorem FG.same {β : Type} {E : XD → Prop} {p : β → Prop} {vs : List Nat} {on : Option Nat} {ds : List PyData} {sg : Sg} {k : Unit → Res β} (h : FG E p ((sameR vs on ds sg).bind k)) : (∀ n, on = some n → n ∉ vs ∧ (Opd.od sg (.i n)).bind OD.kid = some ds) ∧ FG E p (k ()) := by
  cases on with
  | none => exact ⟨fun _ z => (by cases z), h⟩
  | some n =>
    unfold sameR at h
    dsimp only at h
    split at h
    · rename_i q
      exact ⟨fun m z => by cases z; exact q, h⟩
    · exact h.elim
noncomputable def compL (vs : List Nat) (on : Option Nat) (ds0 : List PyData) (g : GT) (t : Sg → Res (Bool × Sg)) (el : Sg → Res (Opd × Sg)) : List PyData → Sg → Res (List OD × Sg)
  | [], sg => (sameR vs on ds0 sg).bind fun _ => .ok ([], sg)
  | d :: ds, sg => (sameR vs on ds0 sg).bind fun _ => (Res.of (g d (wipeS sg vs))).bind fun s1 => (noX (t s1)).bind fun b => if b.1 = true then
      (noX (fTk el b.2)).bind fun o => match o.1 with
        | .v od => (compL vs on ds0 g t el ds o.2).bind fun r => .ok (od :: r.1, r.2)
        | .i _ => .stuck
    else compL vs on ds0 g t el ds b.2
noncomputable def fComp (vs : List Nat) (src : Sg → Res (Src × Sg)) (g : GT) (t : Sg → Res (Bool × Sg)) (el : Sg → Res (Opd × Sg)) : Sg → Res (Opd × Sg) := fun sg => (src sg).bind fun a =>
  (guardR (okOwn a.2 vs && decide (a.1.ds.length < 1000000))).bind fun _ => (compL vs a.1.on a.1.ds g t el a.1.ds a.2).bind fun r => .ok (.v (.l r.1), restS r.2 a.2 vs)
/-- the tests -/
def DTs (C : Ctx) (ifs : List Expr) (f : Sg → Res (Bool × Sg)) : Prop := ∀ X, C.Ok X → ∀ W, Takes X W → ∀ sg, PTs X ifs (RT C W (f sg) sg)
theorem pts_weak {X : Cx} {es : List Expr} {t t' : TT} (h : PTs X es t) (w : ∀ σ H Q, t' σ H Q → t σ H Q) : PTs X es t' := ⟨fun pins s σ H Q I q => h.run pins s σ H Q I (w σ H Q q)⟩
def fYes : Sg → Res (Bool × Sg) := fun sg => .ok (true, sg)
theorem dts_nil {C : Ctx} : DTs C [] fYes := fun X ok W tk sg => pts_weak pts_nil fun σ H Q ⟨G, F, R, q⟩ => q G H F (.refl R)
theorem dts_one {C : Ctx} {c : Expr} {t : Sg → Res (Bool × Sg)} (h : DT C c t) : DTs C [c] t := fun X ok W tk sg => pts_one (h X ok W tk sg)

theorem pe_any {X : Cx} {e : Expr} {T : Sg → TE} (h : ∀ sg, PE X e (T sg)) : PE X e (fun σ H Q => ∃ sg, T sg σ H Q) := ⟨fun pins s σ H Q I ⟨sg, q⟩ => (h sg).run pins s σ H Q I q⟩
theorem pts_any {X : Cx} {e : List Expr} {T : Sg → TT} (h : ∀ sg, PTs X e (T sg)) : PTs X e (fun σ H Q => ∃ sg, T sg σ H Q) := ⟨fun pins s σ H Q I ⟨sg, q⟩ => (h sg).run pins s σ H Q I q⟩
def noW : WX := fun _ _ _ _ => False
theorem takes_no (X : Cx) : Takes X noW := fun u s' ⟨a, B, sI, pins, σ, H, cls, d, e, I, nb, up, sky, na, os, ag, w⟩ => w.elim
theorem OwnAll.snoc {K : PySem.W.Frag} {G H : Hp} : ∀ {vs : List V} {ods : List OD} {fp : List Addr}, OwnAll K G H vs ods fp → ∀ {v : V} {od : OD} {f1 : List Addr}, Own K G H v od f1 → (∀ b ∈ fp, b ∉ f1) → OwnAll K G H (vs ++ [v]) (ods ++ [od]) (fp ++ f1)
  | _, _, _, .nil, v, od, f1, w, n => by
    have := OwnAll.cons w (OwnAll.nil (K := K) (G := G) (H := H)) (fun _ _ z => by cases z)
    simpa using this
  | _, _, _, .cons a r n, v, od, f1, w, m => by
    have q := OwnAll.snoc r w fun b hb => m b (List.mem_append_right _ hb)
    have := OwnAll.cons a q fun b hb z => (List.mem_append.mp z).elim (n b hb) (m b (List.mem_append_left _ hb))
    rw [List.append_assoc]
    exact this
theorem frOD_own {K : PySem.W.Frag} {G H : Hp} {v : V} {od : OD} {fp : List Addr} (w : Own K G H v od fp) (h : frOD od = true) : fp = [] := by
  cases w with
  | f => rfl
  | g => rfl
  | s => rfl
  | l => cases h
  | m => cases h
section
variable {C : Ctx} {elt tg it : Expr} {ifs : List Expr} {scope : Scope} {own : List (Str × Nat)} {pos : Pos} {src : Sg → Res (Src × Sg)} {g : GT} {ws : List Nat} {t : Sg → Res (Bool × Sg)} {el : Sg → Res (Opd × Sg)}
def teC (C : Ctx) (el : Sg → Res (Opd × Sg)) : TE := fun σ H Q => ∃ sg, RE C noW (fTk el sg) sg σ H Q
def ttC (C : Ctx) (t : Sg → Res (Bool × Sg)) : TT := fun σ H Q => ∃ sg, RT C noW (t sg) sg σ H Q
/-- a turn's state -/
structure CpT (K : PySem.W.Frag) (G1 H1 : Hp) (F1 : Ft) (D : Addr) (sg : Sg) (σ : St) (G H : Hp) (F : Ft) (acc : List V) (ods : List OD) (fp : List Addr) : Prop where
  a : At K G1 H1 F1 sg σ G H F
  fr : H1 D = none
  d : H D = some (.lst acc)
  gd : G D = none
  nd : ¬ foot F D
  dp : D ∉ fp
  w : OwnAll K G H acc ods fp
  n : ∀ b ∈ fp, ¬ foot F b
  f : ∀ b ∈ fp, foot F1 b ∨ H1 b = none
theorem CpT.later {K : PySem.W.Frag} {G1 H1 : Hp} {F1 : Ft} {D : Addr} {s1 s2 : Sg} {σ1 σ2 : St} {G H G' H' : Hp} {F F' : Ft} {acc : List V} {ods : List OD} {fp : List Addr}
    (c : CpT K G1 H1 F1 D s1 σ1 G H F acc ods fp) (b : At K G H F s2 σ2 G' H' F') : CpT K G1 H1 F1 D s2 σ2 G' H' F' acc ods fp where
  a := c.a.trans b
  fr := c.fr
  d := b.ext.keep _ _ c.d c.nd
  gd := b.ext.gfree c.gd c.d c.nd (fun _ z => by cases z)
  nd := fun z => (b.sub D z).elim c.nd fun q => by rw [c.d] at q; cases q
  dp := c.dp
  w := c.w.ext b.ext c.n
  n := fun x hx z => (b.sub x z).elim (c.n x hx) fun q => by
    obtain ⟨_, u, e⟩ := c.w.foot x hx
    rw [q] at e; cases e
  f := c.f
theorem wipe_get {σ : St} : ∀ {vs : List Nat} {i : Nat}, i ∈ vs → (wipe σ vs)[i]? = if i < σ.length then some none else none
  | v :: vs, i, h => by
    show ((wipe σ vs).set v none)[i]? = _
    rw [set_get]
    by_cases e : i = v
    · rw [if_pos e, wipe_length, e]
    · rw [if_neg e]
      exact wipe_get ((List.mem_cons.mp h).resolve_left e)
theorem wipe_eq {σ σ' : St} {vs : List Nat} (h : ∀ j, j ∉ vs → σ'[j]? = σ[j]?) (l : σ'.length = σ.length) : wipe σ' vs = wipe σ vs := by
  refine List.ext_getElem? fun i => ?_
  by_cases q : i ∈ vs
  · rw [wipe_get q, wipe_get q, l]
  · rw [wipe_out' q, wipe_out' q]
    exact h i q
theorem CpT.wipe {K : PySem.W.Frag} {G1 H1 : Hp} {F1 : Ft} {D : Addr} {s1 : Sg} {σ1 : St} {G H : Hp} {F : Ft} {acc : List V} {ods : List OD} {fp : List Addr}
    (c : CpT K G1 H1 F1 D s1 σ1 G H F acc ods fp) (vs : List Nat) : ∃ F', CpT K G1 H1 F1 D (wipeS s1 vs) (L2.wipe σ1 vs) G H F' acc ods fp := by
  obtain ⟨F', r, f⟩ := c.a.rel.wipe vs
  exact ⟨F', ⟨c.a.ext, r, fun b hb => c.a.sub b (f b hb)⟩, c.fr, c.d, c.gd, fun z => c.nd (f D z), c.dp, c.w, fun b hb z => c.n b hb (f b z), c.f⟩
theorem CpT.push {K : PySem.W.Frag} {G1 H1 : Hp} {F1 : Ft} {D : Addr} {s1 : Sg} {σ1 : St} {G H : Hp} {F : Ft} {acc : List V} {ods : List OD} {fp f1 : List Addr} {v : V} {od : OD}
    (c : CpT K G1 H1 F1 D s1 σ1 G H F acc ods fp) (w : Own K G H v od f1) (nf : ∀ b ∈ f1, ¬ foot F b) (nD : D ∉ f1) (np : ∀ b ∈ fp, b ∉ f1) (ff : ∀ b ∈ f1, foot F1 b ∨ H1 b = none) : CpT K G1 H1 F1 D s1 σ1 G (upd H D (.lst (acc ++ [v]))) F (acc ++ [v]) (ods ++ [od]) (fp ++ f1) where
  a := ⟨c.a.ext.trans (ext_upd (U := (· = D)) c.d rfl) fun b e => .inr (by rw [e]; exact c.fr), c.a.rel.ext (U := (· = D)) (ext_upd c.d rfl) (same_upd' c.gd c.a.rel.sub) (fun b hb e => c.nd (by rw [← e]; exact hb)), c.a.sub⟩
  fr := c.fr
  d := upd_same
  gd := c.gd
  nd := c.nd
  dp := fun z => (List.mem_append.mp z).elim c.dp nD
  w := (c.w.ext (ext_upd (U := (· = D)) c.d rfl) fun b hb e => c.dp (by rw [← e]; exact hb)).snoc (w.ext (ext_upd (U := (· = D)) c.d rfl) fun b hb e => nD (by rw [← e]; exact hb)) np
  n := fun b hb => (List.mem_append.mp hb).elim (c.n b) (nf b)
  f := fun b hb => (List.mem_append.mp hb).elim (c.f b) (ff b)
theorem wipeS_len {sg : Sg} : ∀ vs : List Nat, (wipeS sg vs).length = sg.length
  | [] => rfl
  | v :: vs => by
    show ((wipeS sg vs).set v none).length = _
    rw [List.length_set]
    exact wipeS_len vs
/-- the end: the block's own names as they were -/
theorem CpT.done {K : PySem.W.Frag} {vs : List Nat} {G1 H1 : Hp} {F1 : Ft} {σ : St} {D : Addr} {sg sg1 : Sg} {G H : Hp} {F : Ft} {acc : List V} {ods : List OD} {fp : List Addr}
    (c : CpT K G1 H1 F1 D (wipeS sg vs) (L2.wipe σ vs) G H F acc ods fp) (r : Rel K G1 H1 sg1 σ F1) (o : okOwn sg1 vs = true) : ∃ F', At K G1 H1 F1 (restS sg sg1 vs) σ G H F' ∧ ∀ b, foot F' b → foot F b := by
  have hl : sg.length = sg1.length := by
    rw [← r.len, ← wipe_length σ vs, c.a.rel.len, wipeS_len]
  have e1 : ∀ i ∈ vs, ∀ od, sg1[i]? = some (some od) → frOD od = true := fun i hi od e => by
    have q := (List.all_eq_true.mp o) i hi
    rw [e] at q
    exact q
  have fz : ∀ i ∈ vs, F1 i = [] := fun i hi => by
    by_cases q : ∃ od, sg1[i]? = some (some od)
    · obtain ⟨od, q⟩ := q
      obtain ⟨v, _, w⟩ := r.get i od q
      exact frOD_own w (e1 i hi od q)
    · exact r.non i fun od z => q ⟨od, z⟩
  refine ⟨fun i => if i ∈ vs then [] else F i, ⟨c.a.ext, ⟨c.a.rel.sub, fun i od e => ?_, fun i e => ?_, fun i j hij b hb => ?_, ?_⟩, fun b ⟨i, hb⟩ => ?_⟩, fun b ⟨i, hb⟩ => ?_⟩
  · rw [restS_get hl] at e
    by_cases h : i ∈ vs
    · rw [if_pos h] at e
      rw [if_pos h]
      obtain ⟨v, ev, w⟩ := r.get i od e
      rw [fz i h] at w
      exact ⟨v, ev, w.ext c.a.ext fun _ z => by cases z⟩
    · rw [if_neg h] at e
      rw [if_neg h]
      obtain ⟨v, ev, w⟩ := c.a.rel.get i od (by rw [wipeS_out h]; exact e)
      rw [wipe_out' h] at ev
      exact ⟨v, ev, w⟩
  · by_cases h : i ∈ vs
    · simp only [if_pos h]
    · simp only [if_neg h]
      refine c.a.rel.non i fun od z => e od ?_
      rw [restS_get hl, if_neg h, ← wipeS_out h]
      exact z
  · by_cases h : i ∈ vs
    · simp only [if_pos h] at hb; cases hb
    · simp only [if_neg h] at hb
      by_cases h2 : j ∈ vs
      · simp only [if_pos h2]; exact fun z => by cases z
      · simp only [if_neg h2]; exact c.a.rel.dis i j hij b hb
  · rw [restS_len, hl, r.len]
  · by_cases h : i ∈ vs
    · simp only [if_pos h] at hb; cases hb
    · simp only [if_neg h] at hb; exact c.a.sub b ⟨i, hb⟩
  · by_cases h : i ∈ vs
    · simp only [if_pos h] at hb; cases hb
    · simp only [if_neg h] at hb; exact ⟨i, hb⟩

theorem rd_lc {W : WX} {sg : Sg} {σ : St} {H : Hp} {Q : VK} (hws : ∀ j ∈ ws, j ∈ own.map (·.2))
    (h : ∃ G F, Rel C.K G H sg σ F ∧ FG (ExcW C W G H F σ) (okE C.K G H F σ Q) (fComp (own.map (·.2)) src g t el sg)) :
    tLc (RI C W (src sg) sg) (RG (C.blk scope) ws g) (ttC (C.blk scope) t) (teC (C.blk scope) el) (own.map (·.2)) σ H Q := by
  obtain ⟨G, F, R, q⟩ := h
  refine ⟨G, F, R, FG.bind q (fun _ e => e) fun a ea q1 J G1 H1 F1 a1 wk D hD => ?_⟩
  obtain ⟨⟨ds, on⟩, sg1⟩ := a
  obtain ⟨gd, q2⟩ := q1.guard
  rw [Bool.and_eq_true] at gd
  obtain ⟨g1, g2⟩ := gd
  have gl : ds.length < sizeLine := line g2
  generalize hvs : own.map (·.2) = vs at *
  obtain ⟨F0, r0, f0⟩ := a1.rel.wipe vs
  have c0 : CpT C.K G1 H1 F1 D (wipeS sg1 vs) (L2.wipe σ vs) G1 (upd H1 D (.lst [])) F0 [] [] [] :=
    ⟨⟨ext_push hD, r0.ext (U := fun _ => False) (ext_push hD) (same_push hD r0.sub) (fun _ _ z => z), fun b hb => .inl (f0 b hb)⟩, hD, upd_same, gnone a1.rel.sub hD, fun z => fresh_foot a1.rel hD (f0 D z), (by simp), .nil, (fun _ z => by cases z), (fun _ z => by cases z)⟩
  refine ⟨fun i m H' => m = ds.length - i ∧ i ≤ ds.length ∧ ∃ sg2 G2 F2 acc ods fp, CpT C.K G1 H1 F1 D (wipeS sg2 vs) (L2.wipe σ vs) G2 H' F2 acc ods fp ∧ acc.length ≤ i ∧ FG (ExcW C W G H F σ) (okE C.K G H F σ Q) ((compL vs on ds g t el (ds.drop i) sg2).bind fun r => .ok (.v (.l (ods ++ r.1)), restS r.2 sg1 vs)),
    ⟨ds.length, by simp, Nat.zero_le _, sg1, G1, F0, [], [], [], c0, Nat.zero_le _, q2⟩, ?_⟩
  rintro i m H2 ⟨rfl, hi, sg2, G2, F2, acc, ods, fp, c2, la, q3⟩
  have sm : (∀ n, on = some n → n ∉ vs ∧ (Opd.od sg2 (.i n)).bind OD.kid = some ds) → Src.Same ⟨ds, on⟩ (wipeS sg2 vs) σ (L2.wipe σ vs) := fun h => by
    cases on with
    | none => trivial
    | some n =>
      obtain ⟨h1, h2⟩ := h n rfl
      have e : Opd.od (wipeS sg2 vs) (.i n) = Opd.od sg2 (.i n) := by
        unfold Opd.od
        simp only [wipeS_out h1]
      exact ⟨by rw [e]; exact h2, wipe_out' h1⟩
  by_cases hlt : i < ds.length
  · rw [List.drop_eq_getElem_cons hlt] at q3
    have q3 : FG (ExcW C W G H F σ) (okE C.K G H F σ Q) (((sameR vs on ds sg2).bind fun _ => (Res.of (g ds[i] (wipeS sg2 vs))).bind fun s1 => (noX (t s1)).bind fun b => if b.1 = true then
      (noX (fTk el b.2)).bind fun o => match o.1 with
        | .v od => (compL vs on ds g t el (ds.drop (i + 1)) o.2).bind fun r => .ok (od :: r.1, r.2)
        | .i _ => .stuck
      else compL vs on ds g t el (ds.drop (i + 1)) b.2).bind fun r => .ok (.v (.l (ods ++ r.1)), restS r.2 sg1 vs)) := q3
    rw [Res.bind_assoc] at q3
    obtain ⟨s0, q3⟩ := q3.same
    obtain ⟨w1, w2⟩ := wk _ _ _ _ _ c2.a (sm s0)
    obtain ⟨go, yl⟩ := w2 i ds[i] (List.getElem?_eq_getElem hlt)
    refine .inr ⟨go, fun H' => i < ds.length ∧ ∃ sg2 G2 F2 acc ods fp, CpT C.K G1 H1 F1 D (wipeS sg2 vs) (L2.wipe σ vs) G2 H' F2 acc ods fp ∧ acc.length ≤ i + 1 ∧ FG (ExcW C W G H F σ) (okE C.K G H F σ Q) ((compL vs on ds g t el (ds.drop (i + 1)) sg2).bind fun r => .ok (.v (.l (ods ++ r.1)), restS r.2 sg1 vs)), fun H' ⟨_, z⟩ => ⟨ds.length - (i + 1), by omega, rfl, hlt, z⟩, fun x H3 y => ?_⟩
    obtain ⟨G3, x3, s3, iv⟩ := yl x H3 y
    have c3 := c2.later (At.step c2.a.rel x3 s3)
    rw [Res.bind_assoc] at q3
    obtain ⟨s4, e4, q4⟩ := q3.of
    refine ⟨G3, F2, _, ds[i], s4, c3.a.rel, iv, e4, fun σ4 F4 R4 f4 k4 l4 => ?_⟩
    have we : L2.wipe σ4 vs = L2.wipe σ vs := (wipe_eq (σ := L2.wipe σ vs) (σ' := σ4) (vs := vs) (fun j hj => k4 j fun z => hj (hws j z)) l4).trans (wipe_eq (fun j hj => wipe_out' hj) (wipe_length _ _))
    refine ⟨we, ?_⟩
    have c4 := c3.later (⟨Ext.refl _ _ _, R4, fun b hb => .inl (f4 b hb)⟩ : At C.K G3 H3 F2 s4 σ4 G3 H3 F4)
    rw [Res.bind_assoc] at q4
    refine ⟨s4, G3, F4, R4, q4.noX' fun b eb q5 G5 H5 F5 a5 => ?_⟩
    have c5 := c4.later a5
    obtain ⟨b, s5⟩ := b
    cases b with
    | false =>
      obtain ⟨F6, c6⟩ := c5.wipe vs
      rw [we] at c6
      exact ⟨hlt, s5, G5, F6, acc, ods, fp, c6, by omega, q5⟩
    | true =>
      have q5 : FG (ExcW C W G H F σ) (okE C.K G H F σ Q) (((noX (fTk el s5)).bind fun o => match o.1 with
        | .v od => (compL vs on ds g t el (ds.drop (i + 1)) o.2).bind fun r => .ok (od :: r.1, r.2)
        | .i _ => .stuck).bind fun r => .ok (.v (.l (ods ++ r.1)), restS r.2 sg1 vs)) := q5
      rw [Res.bind_assoc] at q5
      refine ⟨s5, G5, F5, c5.a.rel, q5.noX' fun o eo q6 v G6 H6 F6 f6 a6 h6 => ?_⟩
      obtain ⟨o, s6⟩ := o
      cases o with
      | i n => exact q6.elim
      | v od =>
        have q6 : FG (ExcW C W G H F σ) (okE C.K G H F σ Q) (((compL vs on ds g t el (ds.drop (i + 1)) s6).bind fun r => .ok (od :: r.1, r.2)).bind fun r => .ok (.v (.l (ods ++ r.1)), restS r.2 sg1 vs)) := q6
        rw [Res.bind_assoc] at q6
        have c6 := c5.later a6
        have hn := h6.opn
        cases hn with
        | v w nf =>
          have nD : D ∉ f6 := fun z => (h6.fps D z).elim c5.nd fun q => by rw [c5.d] at q; cases q
          have np : ∀ b ∈ fp, b ∉ f6 := fun b hb z => (h6.fps b z).elim (c5.n b hb) fun q => by
            obtain ⟨_, u, e⟩ := c5.w.foot b hb
            rw [q] at e; cases e
          have c7 := c6.push w nf nD np fun b hb => fresh_sub c5.a.ext c5.a.sub (h6.fps b hb)
          obtain ⟨F7, c7⟩ := c7.wipe vs
          rw [we] at c7
          refine ⟨acc, c6.d, by omega, hlt, s6, G6, F7, acc ++ [v], ods ++ [od], fp ++ f6, c7, by simp; omega, ?_⟩
          have e : (fun (r : List OD × Sg) => (Res.ok (Opd.v (.l ((ods ++ [od]) ++ r.1)), restS r.2 sg1 vs) : Res (Opd × Sg))) = fun r => (Res.ok (od :: r.1, r.2)).bind fun r => .ok (.v (.l (ods ++ r.1)), restS r.2 sg1 vs) := by
            funext r
            simp
          rw [e]
          exact q6
  · have e : i = ds.length := by omega
    subst e
    rw [List.drop_length] at q3
    have q3 : FG (ExcW C W G H F σ) (okE C.K G H F σ Q) (((sameR vs on ds sg2).bind fun _ => .ok ([], sg2)).bind fun r => .ok (.v (.l (ods ++ r.1)), restS r.2 sg1 vs)) := q3
    rw [Res.bind_assoc] at q3
    obtain ⟨s0, q3⟩ := q3.same
    obtain ⟨w1, w2⟩ := wk _ _ _ _ _ c2.a (sm s0)
    refine .inl ⟨w1 _ (Nat.le_refl _), ?_⟩
    have q3 : okE C.K G H F σ Q (.v (.l (ods ++ [])), restS sg2 sg1 vs) := q3
    rw [List.append_nil] at q3
    obtain ⟨F', a', f'⟩ := c2.done a1.rel g1
    refine q3 (.ref D) G2 H2 F' (D :: fp) (a1.trans a') ⟨.v (.l c2.gd c2.d c2.w c2.dp) fun b hb z => ?_, fun b hb => ?_⟩
    · rcases List.mem_cons.mp hb with rfl | hb
      · exact c2.nd (f' _ z)
      · exact c2.n b hb (f' _ z)
    · rcases List.mem_cons.mp hb with rfl | hb
      · exact .inr (a1.ext.fresh hD)
      · exact fresh_sub a1.ext a1.sub (c2.f b hb)

theorem pg_blk (hg : DG (C.blk scope) tg ws g) {X : Cx} (ok : C.Ok X) : ∀ (s : Shared) (H : Hp) (D : Addr) (cl : List (Str × Addr)) (fp : List Addr), PG (X.blk s H scope (compEnvC scope cl D X.env) fp) tg (RG (C.blk scope) ws g) :=
  fun s H D cl fp => hg _ (blk_ok ok scope s H D cl fp)
theorem pts_blk (ht : DTs (C.blk scope) ifs t) {X : Cx} (ok : C.Ok X) : ∀ (s : Shared) (H : Hp) (D : Addr) (cl : List (Str × Addr)) (fp : List Addr), PTs (X.blk s H scope (compEnvC scope cl D X.env) fp) ifs (ttC (C.blk scope) t) :=
  fun s H D cl fp => pts_any (ht _ (blk_ok ok scope s H D cl fp) noW (takes_no _))
theorem pe_blk (he : DE (C.blk scope) elt el) {X : Cx} (ok : C.Ok X) : ∀ (s : Shared) (H : Hp) (D : Addr) (cl : List (Str × Addr)) (fp : List Addr), PE (X.blk s H scope (compEnvC scope cl D X.env) fp) elt (teC (C.blk scope) el) :=
  fun s H D cl fp => pe_any (de_tk he _ (blk_ok ok scope s H D cl fp) noW (takes_no _))
theorem de_comp (own : List (Str × Nat)) (hi : DI C tg it src) (hb : blkC C.N C.sc scope own = true) (hg : DG (C.blk scope) tg ws g) (ht : DTs (C.blk scope) ifs t) (he : DE (C.blk scope) elt el) (hws : ∀ j ∈ ws, j ∈ own.map (·.2) := by decide) (hs : ∀ env x, foldedSetIterable it env x = pure x := by intro _ _; rfl) :
    DE C (.ListComp elt [⟨tg, it, ifs, 0⟩] scope pos) (fComp (own.map (·.2)) src g t el) := by
  intro X ok W tk sg
  exact pe_weak (pe_lc (own := own) ok.calm (by rw [ok.N]; exact ok.nd) (hi X ok W tk sg) (by rw [ok.N, ok.sc]; exact blkOk_by hb) (pg_blk hg ok) (pts_blk ht ok) (pe_blk he ok) (hs _)) fun σ H Q h => rd_lc hws h
theorem ds_setComp (i : Nat) {y : Str} {py spos : Pos} (own : List (Str × Nat)) (hN : C.N[i]? = some y) (hy : C.sc.names.lookup y = some .local) (hk : C.sc.kind = .function) (hl : (py.line == pos.line) = true)
    (ha : (scope.names.any fun (n, k) => n == y && (k == .local || k == .cell)) = false) (hio : C.io = false ∨ i ≠ 0) (hi : DI C tg it src) (hb : blkC C.N C.sc scope own = true) (hg : DG (C.blk scope) tg ws g) (ht : DTs (C.blk scope) ifs t) (he : DE (C.blk scope) elt el) (hws : ∀ j ∈ ws, j ∈ own.map (·.2) := by decide) (hs : ∀ env x, foldedSetIterable it env x = pure x := by intro _ _; rfl) :
    DS C (.Assign [.Name y py] (.ListComp elt [⟨tg, it, ifs, 0⟩] scope pos) spos) (fSet i (fComp (own.map (·.2)) src g t el)) := by
  intro X ok W tk sg
  refine ps_weak (ps_setLc (i := i) (own := own) ok.calm (by rw [ok.N]; exact ok.nd) (by rw [ok.N]; exact hN) (by rw [ok.sc]; exact hy) (sw_true (by rw [ok.sc]; exact hk) (by rw [ok.sc]; exact hy) hl ha) (hi X ok.toOk W tk sg) (by rw [ok.N, ok.sc]; exact blkOk_by hb) (pg_blk hg ok.toOk) (pts_blk ht ok.toOk) (pe_blk he ok.toOk) (hs _)) fun D σ H ⟨G, F, R, q⟩ => ?_
  refine rd_lc hws ⟨G, F, R, ?_⟩
  have q : FG (ExcS C W G H F) (okS C G H F σ D) (((fComp (own.map (·.2)) src g t el sg).bind fun a => (Res.of (takeO a.1 a.2)).bind fun b => Res.ok (Opd.v b.1, b.2)).bind fun a => match a.1 with
  | .v od => (guardR (decide (i < a.2.length))).bind fun _ => .ok (.nx (a.2.set i (some od)))
  | .i _ => .stuck) := q
  rw [Res.bind_assoc] at q
  cases e : fComp (own.map (·.2)) src g t el sg with
  | exc x => rw [e] at q; exact q σ
  | stuck => rw [e] at q; exact q
  | ok a =>
    rw [e] at q
    obtain ⟨o, s1⟩ := a
    have q : FG (ExcS C W G H F) (okS C G H F σ D) (((Res.of (takeO o s1)).bind fun b => Res.ok (Opd.v b.1, b.2)).bind fun a => match a.1 with
    | .v od => (guardR (decide (i < a.2.length))).bind fun _ => .ok (.nx (a.2.set i (some od)))
    | .i _ => .stuck) := q
    rw [Res.bind_assoc] at q
    intro v G' H' F' fp at' hv
    obtain ⟨b, eb, q1⟩ := q.of
    obtain ⟨G2, F2, fp2, at2, w, n, fps⟩ := At.take at'.rel hv eb
    have q1 : FG (ExcS C W G H F) (okS C G H F σ D) ((guardR (decide (i < b.2.length))).bind fun _ => .ok (.nx (b.2.set i (some b.1)))) := q1
    obtain ⟨g, q2⟩ := q1.guard
    exact q2 (σ.set i (some v)) G2 H' _ ((at'.trans at2).assign (of_decide_eq_true g) w n fps) (keeps_set hio)
end
end DL
set_option Elab.async false
set_option linter.all false
set_option maxRecDepth 100000
set_option maxHeartbeats 4000000
namespace DL
open PySem PySem.Spec PyProof.Rows L2

/-! ### a def by its body -/
def st0 (N : List Str) (ods : List OD) : Sg := ods.map some ++ List.replicate (N.length - ods.length) none
def semP (N : List Str) (body : Sg → Res Ou) (ods : List OD) : Res OD := (body (st0 N ods)).bind fun o => match o with
  | .nx _ => .ok (.f .none)
  | .rt od _ => .ok od
def semD (N : List Str) (body : Sg → Res Ou) (od0 : OD) (ods : List OD) : Res (OD × OD) := (body (st0 N (od0 :: ods))).bind fun o => match o with
  | .nx sg => (Res.of (Opd.od sg (.i 0))).bind fun d => .ok (.f .none, d)
  | .rt od sg => (Res.of (Opd.od sg (.i 0))).bind fun d => .ok (od, d)
theorem FrAll.get {K : PySem.W.Frag} {G H : Hp} : ∀ {vs : List V} {ods : List OD}, FrAll K G H vs ods → ∀ {i : Nat} {od : OD}, ods[i]? = some od → ∃ v, vs[i]? = some v ∧ Own K G H v od []
  | _, _, .nil, i, od, e => by simp at e
  | _, _, .cons (v := v) a r, 0, od, e => by
    have e' := Option.some.inj e
    exact ⟨v, rfl, e' ▸ a⟩
  | _, _, .cons a r, i + 1, od, e => FrAll.get r (i := i) (by simpa using e)
theorem start_get {α : Type} {l : List α} {n i : Nat} {x : α} (h : (l.map some ++ List.replicate n none)[i]? = some (some x)) : l[i]? = some x := by
  by_cases hi : i < l.length
  · rw [List.getElem?_append_left (by rw [List.length_map]; exact hi), List.getElem?_map] at h
    obtain ⟨y, e1, e2⟩ := Option.map_eq_some_iff.mp h
    cases e2
    exact e1
  · rw [List.getElem?_append_right (by rw [List.length_map]; omega)] at h
    obtain ⟨h1, h2⟩ := List.getElem?_eq_some_iff.mp h
    rw [List.getElem_replicate] at h2
    cases h2
theorem start_put {α : Type} {l : List α} {n i : Nat} {x : α} (h : l[i]? = some x) : (l.map some ++ List.replicate n none)[i]? = some (some x) := by
  have hi := (List.getElem?_eq_some_iff.mp h).1
  rw [List.getElem?_append_left (by rw [List.length_map]; exact hi), List.getElem?_map, h]
  rfl
section
variable {B : Bs} {k n : Nat} {x : Str} {params : Arguments} {bd : List Stmt} {scope : Scope} {f : Addr} {fd : FuncData} {N ps : List Str} {body : Sg → Res Ou}
theorem oks_cx {qual : Str} {cdv : Value} {A : Around} {outer : List Env} {s : Shared} {H : Hp} {E : XK} {io : Bool} (S : FnScope N ps scope) (hr : Room k (A.deeper (envOfC qual scope s.heap.objs.size f cdv))) :
    (B.cx N scope k io).OkS (cxOf (L2.CX B.P B.w) B.P B.w B.K B.mg B.base N qual scope f cdv A outer s H E) where
  P := rfl
  w := rfl
  K := rfl
  mg := rfl
  base := rfl
  N := rfl
  sc := rfl
  calm := rfl
  room := hr
  nd := S.nd
  fn := fun _ _ => rfl
  po := passes_of (X := cxOf (L2.CX B.P B.w) B.P B.w B.K B.mg B.base N qual scope f cdv A outer s H E) rfl
theorem fnok_of (F : FunD B.K x x params bd scope [] [] f fd) (S : FnScope N ps scope) (hn : ps.length = n) (hb : DSs (B.cx N scope k false) bd body) : FnOk B.P B.w B.K B.mg B.base (L2.CX B.P B.w) (k + 1) f fd ps (spP B.K B.xc n (semP N body)) := by
  refine F.ok S (fun vs H Q E h => ?_) (fun cdv A outer s H vs Q E hr h => ?_)
  · obtain ⟨G, ods, _, hl, _⟩ := h
    rw [hl, hn]
  · obtain ⟨G, ods, sG, hl, fr, q⟩ := h
    refine ⟨_, hb _ (oks_cx S hr) (fun cls d _ H' => E cls d H') (takes_of rfl rfl rfl rfl) (st0 N ods), ?_⟩
    have R : Rel B.K G H (st0 N ods) (L2.start N vs) (fun _ => []) := by
      refine ⟨sG, fun i od e => ?_, fun _ _ => rfl, (fun _ _ _ _ z => by cases z), ?_⟩
      · obtain ⟨v, e1, w⟩ := fr.get (start_get e)
        exact ⟨v, start_put e1, w⟩
      · unfold L2.start st0
        rw [List.length_append, List.length_append, List.length_map, List.length_map, List.length_replicate, List.length_replicate, fr.len]
    have nf : ∀ b, ¬ foot (fun _ => []) b := fun b ⟨i, z⟩ => by cases z
    refine ⟨G, _, R, FG.bind q (fun x e σ G' H' d x2 s2 p2 => e G' H' d (x2.mono fun b hb => (nf b hb).elim) s2 p2) fun o eo q1 => ?_⟩
    cases o with
    | nx sg => exact fun σ' G' H' F' at' _ => q1 .non G' H' [] (at'.ext.mono fun b hb => (nf b hb).elim) at'.rel.sub (.f .non) (fun _ z => by cases z)
    | rt od sg => exact fun v σ' G' H' F' fp at' _ w n f => q1 v G' H' fp (at'.ext.mono fun b hb => (nf b hb).elim) at'.rel.sub w fun b hb => (f b hb).resolve_left (nf b)
theorem fnp_of (F : FunD B.K x x params bd scope [] [] f fd) (S : FnScope N ps scope) (hm : B.mg x = some (.ref f)) (b : Binds B.K fd ps []) (hn : ps.length = n) (hb : DSs (B.cx N scope k false) bd body) : FnP B (k + 1) x n (semP N body) :=
  ⟨f, fd, ps, fnok_of F S hn hb, hm, F.kp, b⟩
theorem fnd_of (F : FunD B.K x x params bd scope [] [] f fd) (S : FnScope N ps scope) (hm : B.mg x = some (.ref f)) (b : Binds B.K fd ps []) (hn : ps.length = n) (hb : DSs (B.cx N scope k true) bd body) : FnD B (k + 1) x n (semD N body) := by
  refine ⟨f, fd, ps, F.ok S (fun vs H Q E h => ?_) (fun cdv A outer s H vs Q E hr h => ?_), hm, F.kp, b⟩
  · obtain ⟨G, v0, vs', od0, fp0, ods, _, _, hl, _⟩ := h
    rw [hl, hn]
  · obtain ⟨G, v0, vs', od0, fp0, ods, sG, rfl, hl, w0, fr, q⟩ := h
    refine ⟨_, hb _ (oks_cx S hr) (fun cls d _ H' => E cls d H') (takes_of rfl rfl rfl rfl) (st0 N (od0 :: ods)), ?_⟩
    have R : Rel B.K G H (st0 N (od0 :: ods)) (L2.start N (v0 :: vs')) (fun i => if i = 0 then fp0 else []) := by
      refine ⟨sG, fun i od e => ?_, fun i h => ?_, fun i j hij b hb => ?_, ?_⟩
      · have e := start_get e
        cases i with
        | zero =>
          cases e
          exact ⟨v0, rfl, w0⟩
        | succ i =>
          obtain ⟨v, e1, w⟩ := fr.get (i := i) (by simpa using e)
          exact ⟨v, start_put (l := v0 :: vs') (by simpa using e1), w⟩
      · by_cases hi : i = 0
        · subst hi
          exact absurd rfl (h od0)
        · exact if_neg hi
      · by_cases hi : i = 0
        · subst hi
          rw [if_neg (fun z => hij z.symm)]
          exact fun z => by cases z
        · simp only [if_neg hi] at hb
          cases hb
      · unfold L2.start st0
        rw [List.length_append, List.length_append, List.length_map, List.length_map, List.length_replicate, List.length_replicate, List.length_cons, List.length_cons, fr.len]
    have ff : ∀ b, foot (fun i => if i = 0 then fp0 else []) b → b ∈ fp0 := fun b ⟨i, z⟩ => by
      by_cases hi : i = 0
      · simpa [hi] using z
      · simp [hi] at z
    have s0 : (L2.start N (v0 :: vs'))[0]? = some (some v0) := rfl
    refine ⟨G, _, R, FG.bind q (fun x e σ G' H' d x2 s2 p2 => e G' H' d (x2.mono ff) s2 p2) fun o eo q1 => ?_⟩
    cases o with
    | nx sg =>
      intro σ' G' H' F' at' kp
      obtain ⟨od, eo, q2⟩ := q1.of
      obtain ⟨_, _, v, z3, z4⟩ := slot_of at'.rel eo
      rw [kp rfl, s0] at z3
      cases z3
      exact q2 .non G' H' [] (F' 0) (at'.ext.mono ff) at'.rel.sub (.f .non) z4 (fun _ z => by cases z) (fun _ z => by cases z) fun b hb => (at'.sub b ⟨0, hb⟩).imp (ff b) id
    | rt od sg =>
      intro v σ' G' H' F' fp at' kp w n f
      obtain ⟨od', eo, q2⟩ := q1.of
      obtain ⟨_, _, v', z3, z4⟩ := slot_of at'.rel eo
      rw [kp rfl, s0] at z3
      cases z3
      exact q2 v G' H' fp (F' 0) (at'.ext.mono ff) at'.rel.sub w z4 (fun b hb z => n b hb ⟨0, z⟩) (fun b hb => (f b hb).imp (ff b) id) fun b hb => (at'.sub b ⟨0, hb⟩).imp (ff b) id
end
end DL
set_option Elab.async false
set_option linter.all false
set_option maxRecDepth 100000
set_option maxHeartbeats 4000000
namespace DL
open PySem PySem.Spec PyProof.Rows L2

/-! ### locking a dict for good -/
def lockK (Q : VK) : VK := fun v H1 => Q v H1 ∨ ∃ d u, H1 d = some u ∧ Mut (some u) ∧ ∀ od, Q v (upd H1 d (.frz od u))
theorem pe_lockV {X : Cx} {e : Expr} {te : TE} (h : PE X e te) : PE X e (fun σ H Q => te σ H (lockK Q)) := by
  refine ⟨fun pins s σ H Q I hw => ?_⟩
  refine thn (h.run pins s σ H _ I hw) fun u s1 ⟨x, H1, I1, r, q⟩ => ?_
  rcases q with q | ⟨d, o, hd, mu, q⟩
  · exact ⟨x, H1, I1, r, q⟩
  · obtain ⟨od, I2⟩ := I1.lock hd mu
    exact ⟨x, _, I2, r, q od⟩
def fLk (f : Sg → Res (Opd × Sg)) : Sg → Res (Opd × Sg) := fun sg => (f sg).bind fun a => match a.1 with
  | .i n => match Opd.od a.2 (.i n) with
    | some (.m t kvs) => (Res.of (OD.ers (kvs.map Prod.snd))).bind fun ds => .ok (.i n, a.2.set n (some (.g t ((kvs.map Prod.fst).zip ds))))
    | some _ => .ok (.i n, a.2)
    | none => .stuck
  | .v (.m t kvs) => (Res.of (OD.ers (kvs.map Prod.snd))).bind fun ds => .ok (.v (.g t ((kvs.map Prod.fst).zip ds)), a.2)
  | .v od => .ok (.v od, a.2)
theorem hd_mut {t : Bool} {o : HO} {kvs : List (PyData × V)} (h : HD t o kvs) : Mut (some o) := by
  cases h <;> exact trivial
theorem Own.lock {K : PySem.W.Frag} {G H : Hp} {v : V} {t : Bool} {kvs : List (PyData × OD)} {fp : List Addr} (w : Own K G H v (.m t kvs) fp) (s : Same G H) {ds : List PyData} (e : OD.ers (kvs.map Prod.snd) = some ds) :
    ∃ a o, v = .ref a ∧ H a = some o ∧ Mut (some o) ∧ ∀ ob, ∃ G', Same G' (upd H a (.frz ob o)) ∧ Ext (· ∈ fp) G H G' (upd H a (.frz ob o)) ∧ Own K G' (upd H a (.frz ob o)) v (.g t ((kvs.map Prod.fst).zip ds)) [] := by
  have ft := w.foot
  cases w with
  | @m t a o kv mk fp' ha hb hd r n ek =>
    refine ⟨a, o, rfl, hb, hd_mut hd, fun ob => ⟨upd (frzn fp' G H) a (.frz ob o), ?_, ?_, ?_⟩⟩
    · intro b u q
      by_cases h : b = a
      · subst h
        rw [upd_same] at q ⊢
        exact q
      · rw [upd_ne h] at q ⊢
        by_cases hb : b ∈ fp'
        · rw [frzn_in hb] at q; exact q
        · rw [frzn_out hb] at q; exact s b u q
    · refine ⟨fun b u q => ?_, fun b u q nb => ?_, fun b u q => ?_, fun b u q => ?_⟩
      · rw [upd_ne (fun z => by rw [z, ha] at q; cases q)]
        by_cases hb : b ∈ fp'
        · rw [(ft b (List.mem_cons_of_mem _ hb)).1] at q; cases q
        · rw [frzn_out hb]; exact q
      · rw [upd_ne (fun z => nb (by rw [z]; exact List.mem_cons_self))]; exact q
      · by_cases h : b = a
        · subst h; exact ⟨_, upd_same⟩
        · exact ⟨u, by rw [upd_ne h]; exact q⟩
      · by_cases h : b = a
        · exact .inr (.inl (by rw [h]; exact List.mem_cons_self))
        · rw [upd_ne h] at q
          by_cases hb : b ∈ fp'
          · exact .inr (.inl (List.mem_cons_of_mem _ hb))
          · rw [frzn_out hb] at q; exact .inl q
    · have k : ∀ b ∈ fp', ∀ u, H b = some u → upd (frzn fp' G H) a (.frz ob o) b = some u := fun b hb u q => by
        rw [upd_ne (fun z => n (by rw [← z]; exact hb)), frzn_in hb]; exact q
      have s1 : Same G (upd (frzn fp' G H) a (.frz ob o)) := fun b u q => by
        rw [upd_ne (fun z => by rw [z, ha] at q; cases q)]
        by_cases hb : b ∈ fp'
        · rw [(ft b (List.mem_cons_of_mem _ hb)).1] at q; cases q
        · rw [frzn_out hb]; exact q
      have rr := r.is s1 k e
      have hl : (kvs.map Prod.fst).length = ds.length := by
        rw [← ek, ← rr.length, List.length_map, List.length_map]
      refine .g upd_same hd ?_ ?_
      · rw [List.map_snd_zip (by omega)]
        exact rr
      · rw [List.map_fst_zip (by omega)]
        exact ek
section
variable {C : Ctx} {e : Expr} {f : Sg → Res (Opd × Sg)}
theorem de_lk (h : DE C e f) : DE C e (fLk f) := by
  intro X ok W tk sg
  refine pe_weak (pe_lockV (h X ok W tk sg)) fun σ H Q ⟨G, F, R, q⟩ => ⟨G, F, R, FG.bind q (fun _ e => e) fun a ea q' v G' H' F' fp at' hv => ?_⟩
  obtain ⟨o, s1⟩ := a
  cases o with
  | v od =>
    cases od with
    | m t kvs =>
      obtain ⟨ds, e1, q1⟩ := q'.of
      obtain ⟨hn, hf⟩ := hv
      cases hn with
      | v w nf =>
        obtain ⟨a, o, rfl, ho, mu, k⟩ := w.lock at'.rel.sub e1
        refine .inr ⟨a, o, ho, mu, fun ob => ?_⟩
        obtain ⟨G2, s2, x2, w2⟩ := k ob
        exact q1 _ G2 _ F' [] ⟨at'.ext.trans x2 fun c hc => hf c hc, at'.rel.ext x2 s2 (fun b hb z => nf b z hb), at'.sub⟩ ⟨.v w2 (fun _ z => by cases z), fun _ z => by cases z⟩
    | _ => exact .inl (q' v G' H' F' fp at' hv)
  | i n =>
    have q' : FG (ExcW C W G H F σ) (okE C.K G H F σ Q) (match Opd.od s1 (.i n) with
    | some (.m t kvs) => (Res.of (OD.ers (kvs.map Prod.snd))).bind fun ds => .ok (.i n, s1.set n (some (.g t ((kvs.map Prod.fst).zip ds))))
    | some _ => .ok (.i n, s1)
    | none => .stuck) := q'
    cases eo : Opd.od s1 (.i n) with
    | none => rw [eo] at q'; exact q'.elim
    | some od =>
      rw [eo] at q'
      cases od with
      | m t kvs =>
        obtain ⟨ds, e1, q1⟩ := q'.of
        obtain ⟨z1, z2, v', z3, w⟩ := slot_of at'.rel eo
        have hn := hv.opn
        cases hn with
        | i hσ =>
          rw [hσ] at z3
          cases z3
          obtain ⟨a, o, rfl, ho, mu, k⟩ := w.lock at'.rel.sub e1
          refine .inr ⟨a, o, ho, mu, fun ob => ?_⟩
          obtain ⟨G2, s2, x2, w2⟩ := k ob
          exact q1 _ G2 _ (F'.put n []) [] (at'.write x2 s2 z2 hσ w2 (fun _ z => by cases z)) ⟨.i hσ, fun _ z => by cases z⟩
      | _ => exact .inl (q' v G' H' F' fp at' hv)
end
end DL
set_option Elab.async false
set_option linter.all false
set_option maxRecDepth 100000
set_option maxHeartbeats 4000000
namespace DL
open PySem PySem.Spec PyProof.Rows L2

/-! ### a locked dict, walked -/
def KeyV (H : Hp) (x : V) (k : PyData) : Prop := (∃ i, x = .int i ∧ k = .int i) ∨ (∃ z, x = .str z ∧ k = .str z) ∨ ∃ (q : Addr) (ks : List Key), x = .ref q ∧ H q = some (.tup (ks.map kV)) ∧ k = .tuple (ks.map kD)
theorem hd_get {t : Bool} {o : HO} {kvs : List (PyData × V)} (h : HD t o kvs) {i : Nat} {k : PyData} {v : V} (e : kvs[i]? = some (k, v)) : (t = false ∧ ∃ l : List (Key × V), o = .dK l ∧ kvs.length = l.length ∧ ∃ y, l[i]? = some (y, v) ∧ k = kD y) ∨ (t = true ∧ ∃ l : List (List Key × V), o = .dT l ∧ kvs.length = l.length ∧ ∃ y : List Key, l[i]? = some (y, v) ∧ k = .tuple (y.map kD)) := by
  cases h with
  | k l =>
    rw [List.getElem?_map] at e
    obtain ⟨p, e1, e2⟩ := Option.map_eq_some_iff.mp e
    cases e2
    exact .inl ⟨rfl, l, rfl, List.length_map _, p.1, e1, rfl⟩
  | t l =>
    rw [List.getElem?_map] at e
    obtain ⟨p, e1, e2⟩ := Option.map_eq_some_iff.mp e
    cases e2
    exact .inr ⟨rfl, l, rfl, List.length_map _, p.1, e1, rfl⟩
section
variable {X : Cx} {pins : List (Addr × Obj)} {σ : St} {H : Hp} {s : Shared}
theorem inv_frz {d : Addr} {ob : Obj} {o : HO} {t : Bool} {kvs : List (PyData × V)} (I : Inv X pins σ H s) (h : H d = some (.frz ob o)) (hd : HD t o kvs) : (d == sysModules) = false ∧ s.heap.get? d = some ob ∧ ob.ExactDict ∧
    ∃ (es : Array DictEntry) (ep : Nat), ob.data = .dict es ep ∧ es.size = kvs.length ∧ ∀ (i : Nat) (k : PyData) (v : V), kvs[i]? = some (k, v) → ∃ en, es[i]? = some en ∧ RelV v en.val ∧ ∃ x, RelV x en.key ∧ KeyV H x k := by
  cases hd with
  | k l =>
    obtain ⟨e1, e2, e3, es, ep, vs, e4, e5, kv, dm⟩ := I.frzK h
    refine ⟨e1, e2, e3, es, ep, e4, by rw [List.length_map]; exact e5, fun i k v e => ?_⟩
    rw [List.getElem?_map] at e
    obtain ⟨⟨y, v'⟩, q1, q2⟩ := Option.map_eq_some_iff.mp e
    cases q2
    obtain ⟨u, hu, ru⟩ := kv_get kv q1
    obtain ⟨es', hr, hz, he⟩ := dm.raw
    obtain ⟨ob', r1, _, r2⟩ := hr
    rw [e2] at r1
    cases r1
    obtain ⟨rfl, _⟩ := dict_ep e4 r2
    have hi : i < es'.size := by
      have := (List.getElem?_eq_some_iff.mp q1).1
      omega
    obtain ⟨z1, z2⟩ := he i hi y u hu
    refine ⟨es'[i], Array.getElem?_eq_getElem hi, by rw [z2]; exact ru, kV y, relV_key z1, ?_⟩
    cases y with
    | inl j => exact .inl ⟨j, rfl, rfl⟩
    | inr z => exact .inr (.inl ⟨z, rfl, rfl⟩)
  | t l =>
    obtain ⟨w0, _, w2, xs, pr, ob', es, ep, w3, w4, w5, w6, _⟩ := I.hok d _ h
    rw [w0] at w3
    cases w3
    have hl : l.length = xs.length := Paired.length pr
    have l1 : es.size = xs.length := size_of_entries w6
    refine ⟨w2, w0, w4, es, ep, w5, by rw [List.length_map]; omega, fun i k v e => ?_⟩
    rw [List.getElem?_map] at e
    obtain ⟨⟨y, v'⟩, q1, q2⟩ := Option.map_eq_some_iff.mp e
    cases q2
    obtain ⟨b, hb, f1, f2, f3⟩ := paired_get pr q1
    have q := entry_at w6 i
    rw [hb] at q
    exact ⟨_, q, f3, .ref b.2.1, rfl, .inr (.inr ⟨b.2.1, y, rfl, f2, rfl⟩)⟩
end
def ItV (d : Addr) (ob : Obj) (o : HO) (kvs : List (PyData × V)) : It :=
  ⟨fun i H => H d = some (.frz ob o) ∧ i < kvs.length, fun i H x H' => H' = H ∧ ∃ k, kvs[i]? = some (k, x), fun i H => H d = some (.frz ob o) ∧ kvs.length ≤ i⟩
def ItK (d : Addr) (ob : Obj) (o : HO) (kvs : List (PyData × V)) : It :=
  ⟨fun i H => H d = some (.frz ob o) ∧ i < kvs.length, fun i H x H' => H' = H ∧ ∃ k v, kvs[i]? = some (k, v) ∧ KeyV H x k, fun i H => H d = some (.frz ob o) ∧ kvs.length ≤ i⟩
def ItI (d : Addr) (ob : Obj) (o : HO) (kvs : List (PyData × V)) : It :=
  ⟨fun i H => H d = some (.frz ob o) ∧ i < kvs.length, fun i H x H' => ∃ T k v y, kvs[i]? = some (k, v) ∧ KeyV H y k ∧ x = .ref T ∧ H T = none ∧ H' = upd H T (.tup [y, v]), fun i H => H d = some (.frz ob o) ∧ kvs.length ≤ i⟩
section
variable {P : Program} {w : World} {K : PySem.W.Frag} {tg : Expr} {d : Addr} {ob : Obj} {o : HO} {t : Bool} {kvs : List (PyData × V)} {es : Array DictEntry} {ep : Nat}
theorem turnV (it : Addr) (hd : HD t o kvs) (ho : ob.data = .dict es ep) (hz : es.size = kvs.length) : Turn P w K tg (ItV d ob o kvs) [it] it (fun i h => h.IsValIter it d i es.size ep) where
  mem := List.mem_singleton.mpr rfl
  obj := fun i h ⟨q, e, c, dd⟩ b hb => by
    rw [List.mem_singleton.mp hb]
    exact ⟨q, e, fun v z => by rw [dd] at z; cases z⟩
  keep := fun i h h' ⟨q, e, r⟩ k => ⟨q, k it (List.mem_singleton.mpr rfl) q e, r⟩
  item := by
    intro X e1 e2 e3 hc i pins s σ H E I hf st ⟨g1, g2⟩
    subst e1 e2 e3
    obtain ⟨f0, f1, f2, f3, f4, f5⟩ := hf it (List.mem_singleton.mpr rfl)
    obtain ⟨y1, y2, y3, es', ep', y4, y5, y6⟩ := inv_frz I g1 hd
    obtain ⟨rfl, rfl⟩ := dict_ep ho y4
    obtain ⟨en, z1, z2, x, z3, z4⟩ := y6 i kvs[i].1 kvs[i].2 (List.getElem?_eq_getElem g2)
    have hi : i < es'.size := by omega
    refine wpAny_pyNext_values_item_raw st ⟨ob, y2, y3, ho⟩ hi fun h' st' sb => ?_
    have J : Inv X pins σ H { s with heap := h' } := I.turned (t' := s.toks) (fun b u hb q => (sb.2 b hb).trans q) f0 f1 f3 f4 f5
    have ev : en = es'[i] := by
      rw [Array.getElem?_eq_getElem hi] at z1
      exact (Option.some.inj z1).symm
    obtain ⟨oi, q1, q2, q3⟩ := id st'
    exact ⟨es'[i].val, rfl, go_of (s := { s with heap := h' }) q1 q2 q3 (by decide) ⟨kvs[i].2, H, J, by rw [← ev]; exact z2, ⟨rfl, kvs[i].1, List.getElem?_eq_getElem g2⟩, st', fun b hb => (hf b hb).1⟩⟩
  done := by
    intro X e1 e2 e3 hc i pins s σ H E I hf st ⟨g1, g2⟩
    subst e1 e2 e3
    obtain ⟨f0, f1, f2, f3, f4, f5⟩ := hf it (List.mem_singleton.mpr rfl)
    obtain ⟨y1, y2, y3, es', ep', y4, y5, y6⟩ := inv_frz I g1 hd
    obtain ⟨rfl, rfl⟩ := dict_ep ho y4
    exact wpAny_pyNext_values_end_raw (I.ok.hd hc) st ⟨ob, y2, y3, ho⟩ (by omega) fun h' eb => ⟨rfl, I.turned (t' := s.toks) (fun b u hb q => eb b u hb q) f0 f1 f3 f4 f5⟩
  self := fun A i s Q E st h => wpAny_pyIter_valiter st h
theorem turnK (it : Addr) (hd : HD t o kvs) (ho : ob.data = .dict es ep) (hz : es.size = kvs.length) : Turn P w K tg (ItK d ob o kvs) [it] it (fun i h => h.IsKeyIter it d i es.size ep) where
  mem := List.mem_singleton.mpr rfl
  obj := fun i h ⟨q, e, c, dd⟩ b hb => by
    rw [List.mem_singleton.mp hb]
    exact ⟨q, e, fun v z => by rw [dd] at z; cases z⟩
  keep := fun i h h' ⟨q, e, r⟩ k => ⟨q, k it (List.mem_singleton.mpr rfl) q e, r⟩
  item := by
    intro X e1 e2 e3 hc i pins s σ H E I hf st ⟨g1, g2⟩
    subst e1 e2 e3
    obtain ⟨f0, f1, f2, f3, f4, f5⟩ := hf it (List.mem_singleton.mpr rfl)
    obtain ⟨y1, y2, y3, es', ep', y4, y5, y6⟩ := inv_frz I g1 hd
    obtain ⟨rfl, rfl⟩ := dict_ep ho y4
    obtain ⟨en, z1, z2, x, z3, z4⟩ := y6 i kvs[i].1 kvs[i].2 (List.getElem?_eq_getElem g2)
    refine next_key_item st y2 ho rfl z1 fun h' st' sb => ?_
    have J : Inv X pins σ H { s with heap := h' } := I.turned (t' := s.toks) (fun b u hb q => (sb.2 b hb).trans q) f0 f1 f3 f4 f5
    obtain ⟨oi, q1, q2, q3⟩ := id st'
    exact ⟨en.key, rfl, go_of (s := { s with heap := h' }) q1 q2 q3 (by decide) ⟨x, H, J, z3, ⟨rfl, kvs[i].1, kvs[i].2, List.getElem?_eq_getElem g2, z4⟩, st', fun b hb => (hf b hb).1⟩⟩
  done := by
    intro X e1 e2 e3 hc i pins s σ H E I hf st ⟨g1, g2⟩
    subst e1 e2 e3
    obtain ⟨f0, f1, f2, f3, f4, f5⟩ := hf it (List.mem_singleton.mpr rfl)
    obtain ⟨y1, y2, y3, es', ep', y4, y5, y6⟩ := inv_frz I g1 hd
    obtain ⟨rfl, rfl⟩ := dict_ep ho y4
    exact next_key_end (I.ok.hd hc) st y2 ho rfl (by omega) fun h' eb => ⟨rfl, I.turned (t' := s.toks) (fun b u hb q => eb b u hb q) f0 f1 f3 f4 f5⟩
  self := fun A i s Q E st h => (turn_keysT (P := P) (w := w) (K := K) (tg := tg) (d := d) (o := ob) (es := es) (ep := ep) (kvs := List.replicate es.size ([], V.non)) it ho).self A i s Q E (by simpa using st) h
theorem turnI {elts : List Expr} {kk : Nat} {tpos : Pos} (it : Addr) (hd : HD t o kvs) (ho : ob.data = .dict es ep) (hz : es.size = kvs.length) : Turn P w K (.Tuple elts kk tpos) (ItI d ob o kvs) [it] it (fun i h => ∃ a b, IsItemIter h it d i es.size ep a b) where
  mem := List.mem_singleton.mpr rfl
  obj := fun i h ⟨_, _, e⟩ b hb => by
    rw [List.mem_singleton.mp hb]
    exact ⟨_, e, fun v z => nomatch z⟩
  keep := fun i h h' ⟨a, b, e⟩ k => ⟨a, b, k it (List.mem_singleton.mpr rfl) _ e⟩
  item := by
    intro X e1 e2 e3 hc i pins s σ H E I hf st ⟨g1, g2⟩
    subst e1 e2 e3
    obtain ⟨a, b, st⟩ := st
    obtain ⟨y1, y2, y3, es', ep', y4, y5, y6⟩ := inv_frz I g1 hd
    obtain ⟨rfl, rfl⟩ := dict_ep ho y4
    obtain ⟨en, z1, z2, x, z3, z4⟩ := y6 i kvs[i].1 kvs[i].2 (List.getElem?_eq_getElem g2)
    have hi : i < es'.size := by omega
    have ev : en = es'[i] := by
      rw [Array.getElem?_eq_getElem hi] at z1
      exact (Option.some.inj z1).symm
    have itl : it < s.heap.objs.size := Heap.lt_size st
    refine wpAny_pyNext_items_item_raw st ⟨ob, y2, y3, ho⟩ hi fun h' q1 q2 q3 q4 => ?_
    refine ⟨_, rfl, wpAny_letOwnedTupleGo_items (s := { s with heap := h' }) q1 fun h2 r1 sb => ?_⟩
    have q5 : h2.get? s.heap.objs.size = some { cls := .type "tuple", data := .seq #[es'[i].key, es'[i].val] } := (sb.2 _ (Nat.ne_of_gt itl)).trans q2
    rw [← ev] at q5
    have new : ObjOk X.prog X.w (upd H s.heap.objs.size (.tup [x, kvs[i].2])) h2 s.heap.objs.size (.tup [x, kvs[i].2]) :=
      ⟨by show 2 ≤ sizeLine; decide, [en.key, en.val], .cons z3 (.cons z2 .nil), ⟨_, q5, rfl, _, rfl⟩⟩
    have J : Inv X pins σ (upd H s.heap.objs.size (.tup [x, kvs[i].2])) { s with heap := h2 } :=
      I.turnedNew (t' := s.toks) (ch := [it]) (fun b u hb q => (sb.2 b (by simpa using hb)).trans (q4 b u (by simpa using hb) q)) hf (Nat.le_refl _) new
    refine ⟨.ref s.heap.objs.size, _, J, rfl, ⟨_, kvs[i].1, kvs[i].2, x, List.getElem?_eq_getElem g2, z4, rfl, I.hok.fresh (Nat.le_refl _), rfl⟩, ⟨_, _, r1⟩, fun b hb => ?_⟩
    rw [List.mem_singleton.mp hb, upd_ne (Nat.ne_of_lt itl)]
    exact (hf it (List.mem_singleton.mpr rfl)).1
  done := by
    intro X e1 e2 e3 hc i pins s σ H E I hf st ⟨g1, g2⟩
    subst e1 e2 e3
    obtain ⟨a, b, st⟩ := st
    obtain ⟨f0, f1, f2, f3, f4, f5⟩ := hf it (List.mem_singleton.mpr rfl)
    obtain ⟨y1, y2, y3, es', ep', y4, y5, y6⟩ := inv_frz I g1 hd
    obtain ⟨rfl, rfl⟩ := dict_ep ho y4
    exact wpAny_pyNext_items_end_raw (I.ok.hd hc) st ⟨ob, y2, y3, ho⟩ (by omega) fun h' eb => ⟨rfl, I.turned (t' := s.toks) (fun b u hb q => eb b u hb q) f0 f1 f3 f4 f5⟩
  self := fun A i s Q E ⟨_, _, e⟩ h => PySem.W.kcp_self e h
end
section
variable {X : Cx} {tg e : Expr} {td : TE} {apos cpos : Pos}
def iWd (mk : Addr → Obj → HO → List (PyData × V) → It) (td : TE) : TI := fun σ H R => td σ H fun x H1 => ∃ d ob o t kvs, x = .ref d ∧ H1 d = some (.frz ob o) ∧ HD t o kvs ∧ R (mk d ob o kvs) H1
theorem pi_vals (he : PE X e td) (hbase : attributeBase e "values" X.env (eval e X.env) = eval e X.env := by rfl) (hline : (apos.endLine == cpos.line) = true := by rfl) : PI X tg (.Call (.Attribute e "values" apos) [] [] cpos) (iWd ItV td) := by
  refine ⟨fun pins s σ H R I h => ?_⟩
  refine wpAny_Call_method (T := "dict") (id := "dict.values") hbase rfl hline F.plainAttrs_dict F.slot_dict_values F.type_dict_values (thn (he.run pins s σ H _ I h) fun u s1 ⟨x, H1, J, rx, d, ob, o, t, kvs, ex, q1, q2, q⟩ => ?_)
  subst ex
  obtain rfl : u = Value.ref d := rx
  obtain ⟨y1, y2, y3, es, ep, y4, y5, y6⟩ := inv_frz J q1 q2
  have raw : s1.heap.DictRaw d es ep := ⟨ob, y2, y3, y4⟩
  refine ⟨raw.typeIs, fun b z => by cases z; exact ⟨ob, y2, y3.2.1⟩, ?_⟩
  have J2 : Inv X pins σ H1 { s1 with heap := s1.heap.push { cls := .type "dict_values", data := .fields #[.ref d] } } := J.kept (t' := s1.toks) fun b u q => Heap.get?_push_of_some _ q
  have fin : wpAny (model X.prog X.w) X.A (pyIter (.ref s1.heap.objs.size)) (PIE X pins σ tg R) X.xe { s1 with heap := s1.heap.push { cls := .type "dict_values", data := .fields #[.ref d] } } :=
    wpAny_pyIter_values_raw (d := d) ⟨_, Heap.get?_push_size _ rfl, rfl, rfl⟩ (raw.at fun o' e' => Heap.get?_push_of_some _ e') (pi_one (tk := s1.toks) J2 _ (turnV _ q2 y4 y5) ⟨_, Heap.get?_push_size _ rfl, rfl, rfl⟩ q)
  show wpAny _ _ (callWith cpos (.builtin "dict.values") [.ref d] [] []) _ X.xe s1
  exact method_meetsIn F.slot_dict_values F.entry_dict_values rfl (PySem.evalArgs_none ⟨rfl, raw.typeIs, F.args_dict_values_1 _, _, meets_dict_values_raw d y1, ⟨⟨es, ep, raw⟩, fin⟩⟩)
theorem pi_its {elts : List Expr} {kk : Nat} {tpos : Pos} (he : PE X e td) (hbase : attributeBase e "items" X.env (eval e X.env) = eval e X.env := by rfl) (hline : (apos.endLine == cpos.line) = true := by rfl) : PI X (.Tuple elts kk tpos) (.Call (.Attribute e "items" apos) [] [] cpos) (iWd ItI td) := by
  refine ⟨fun pins s σ H R I h => ?_⟩
  refine wpAny_Call_method (T := "dict") (id := "dict.items") hbase rfl hline F.plainAttrs_dict F.slot_dict_items F.type_dict_items (thn (he.run pins s σ H _ I h) fun u s1 ⟨x, H1, J, rx, d, ob, o, t, kvs, ex, q1, q2, q⟩ => ?_)
  subst ex
  obtain rfl : u = Value.ref d := rx
  obtain ⟨y1, y2, y3, es, ep, y4, y5, y6⟩ := inv_frz J q1 q2
  have raw : s1.heap.DictRaw d es ep := ⟨ob, y2, y3, y4⟩
  refine ⟨raw.typeIs, fun b z => by cases z; exact ⟨ob, y2, y3.2.1⟩, ?_⟩
  have J2 : Inv X pins σ H1 { s1 with heap := s1.heap.push { cls := .type "dict_items", data := .fields #[.ref d] } } := J.kept (t' := s1.toks) fun b u q => Heap.get?_push_of_some _ q
  have fin : wpAny (model X.prog X.w) X.A (pyIter (.ref s1.heap.objs.size)) (PIE X pins σ (.Tuple elts kk tpos) R) X.xe { s1 with heap := s1.heap.push { cls := .type "dict_items", data := .fields #[.ref d] } } :=
    wpAny_pyIter_items_raw (d := d) ⟨_, Heap.get?_push_size _ rfl, rfl, rfl⟩ (raw.at fun o' e' => Heap.get?_push_of_some _ e') (pi_one (tk := s1.toks) J2 _ (turnI _ q2 y4 y5) ⟨.none, .none, Heap.get?_push_size _ rfl⟩ q)
  show wpAny _ _ (callWith cpos (.builtin "dict.items") [.ref d] [] []) _ X.xe s1
  exact method_meetsIn F.slot_dict_items F.entry_dict_items rfl (PySem.evalArgs_none ⟨rfl, raw.typeIs, F.args_dict_items_1 _, _, meets_dict_items_raw d y1, ⟨⟨es, ep, raw⟩, fin⟩⟩)
theorem pi_kys (he : PE X e td) : PI X tg e (iWd ItK td) := by
  refine ⟨fun pins s σ H R I h => ?_⟩
  refine thn (he.run pins s σ H _ I h) fun u s1 ⟨x, H1, J, rx, d, ob, o, t, kvs, ex, q1, q2, q⟩ => ?_
  subst ex
  obtain rfl : u = Value.ref d := rx
  obtain ⟨y1, y2, y3, es, ep, y4, y5, y6⟩ := inv_frz J q1 q2
  exact iter_keys y1 y2 y3 y4 (pi_one (tk := s1.toks) J _ (turnK _ q2 y4 y5) ⟨_, Heap.get?_push_size _ rfl, rfl, rfl⟩ q)
end
end DL
set_option Elab.async false
set_option linter.all false
set_option maxRecDepth 100000
set_option maxHeartbeats 4000000
namespace DL
open PySem PySem.Spec PyProof.Rows L2

/-! ### dicts as sources -/
theorem isAll_kV {G : Hp} : ∀ ks : List Key, IsAll G (ks.map kV) (ks.map kD)
  | [] => .nil
  | .inl i :: r => .cons (.int i) (isAll_kV r)
  | .inr x :: r => .cons (.str x) (isAll_kV r)
/-- a key's own tuple is frozen late -/
theorem key_is {K : PySem.W.Frag} {G H : Hp} {x : V} {k : PyData} (s : Same G H) (h : KeyV H x k) : ∃ G', Ext (fun _ => False) G H G' H ∧ Same G' H ∧ Is G' x k := by
  rcases h with ⟨i, rfl, rfl⟩ | ⟨z, rfl, rfl⟩ | ⟨q, ks, rfl, hq, rfl⟩
  · exact ⟨G, Ext.refl _ _ _, s, .int i⟩
  · exact ⟨G, Ext.refl _ _ _, s, .str z⟩
  · have s1 : Same G (upd G q (.tup (ks.map kV))) := fun b u e => by
      by_cases h : b = q
      · subst h
        have := s b u e
        rw [hq] at this
        cases this
        exact upd_same
      · rw [upd_ne h]; exact e
    refine ⟨upd G q (.tup (ks.map kV)), ⟨s1, fun _ _ e _ => e, fun _ u e => ⟨u, e⟩, fun b u e => ?_⟩, fun b u e => ?_, .tup upd_same (isAll_kV ks)⟩
    · by_cases h : b = q
      · subst h; exact .inr (.inr (.inr ⟨_, hq⟩))
      · rw [upd_ne h] at e; exact .inl e
    · by_cases h : b = q
      · subst h; rw [upd_same] at e; cases e; exact hq
      · rw [upd_ne h] at e; exact s b u e
theorem fst_get {α : Type} {kvs : List (PyData × V)} {mk : List (PyData × α)} (h : kvs.map Prod.fst = mk.map Prod.fst) {i : Nat} {p : PyData × V} {q : PyData × α} (e1 : kvs[i]? = some p) (e2 : mk[i]? = some q) : p.1 = q.1 := by
  have z : (kvs.map Prod.fst)[i]? = (mk.map Prod.fst)[i]? := by rw [h]
  rw [List.getElem?_map, List.getElem?_map, e1, e2] at z
  exact Option.some.inj z
structure GD (G : Hp) (d : Addr) (ob : Obj) (o : HO) (t : Bool) (kvs : List (PyData × V)) (mk : List (PyData × PyData)) : Prop where
  g : G d = some (.frz ob o)
  hd : HD t o kvs
  v : IsAll G (kvs.map Prod.snd) (mk.map Prod.snd)
  k : kvs.map Prod.fst = mk.map Prod.fst
theorem GD.len {G : Hp} {d : Addr} {ob : Obj} {o : HO} {t : Bool} {kvs : List (PyData × V)} {mk : List (PyData × PyData)} (h : GD G d ob o t kvs mk) : kvs.length = mk.length := by
  rw [← List.length_map (f := Prod.fst), h.k, List.length_map]
theorem GD.get {G : Hp} {d : Addr} {ob : Obj} {o : HO} {t : Bool} {kvs : List (PyData × V)} {mk : List (PyData × PyData)} (h : GD G d ob o t kvs mk) {i : Nat} {q : PyData × PyData} (e : mk[i]? = some q) : ∃ v, kvs[i]? = some (q.1, v) ∧ Is G v q.2 := by
  have hi := (List.getElem?_eq_some_iff.mp e).1
  have hk : i < kvs.length := by rw [h.len]; exact hi
  have e1 : kvs[i]? = some kvs[i] := List.getElem?_eq_getElem hk
  have e2 := fst_get h.k e1 e
  have iv := h.v.getI (v := kvs[i].2) (d := q.2) (i := i) (by rw [List.getElem?_map, e1]; rfl) (by rw [List.getElem?_map, e]; rfl)
  exact ⟨kvs[i].2, by rw [e1, ← e2], iv⟩
section
variable {K : PySem.W.Frag} {d : Addr} {ob : Obj} {o : HO} {t : Bool} {kvs : List (PyData × V)} {mk : List (PyData × PyData)} {σ1 : St} {G1 H1 : Hp} {F1 : Ft}
theorem wlk_vals (h : GD G1 d ob o t kvs mk) : Wlk K (ItV d ob o kvs) ⟨mk.map Prod.snd, none⟩ σ1 G1 H1 F1 := by
  intro σ2 sg2 G2 H2 F2 a2 _
  have hd2 : H2 d = some (.frz ob o) := a2.rel.sub _ _ (a2.ext.gg _ _ h.g)
  refine ⟨fun i hi => ⟨hd2, by rw [List.length_map] at hi; rw [h.len]; exact hi⟩, fun i x e => ?_⟩
  rw [List.getElem?_map] at e
  obtain ⟨q, e1, rfl⟩ := Option.map_eq_some_iff.mp e
  have hi := (List.getElem?_eq_some_iff.mp e1).1
  obtain ⟨v, e2, iv⟩ := h.get e1
  refine ⟨⟨hd2, by rw [h.len]; exact hi⟩, fun x H' y => ?_⟩
  obtain ⟨rfl, k, e3⟩ := y
  rw [e2] at e3
  cases e3
  exact ⟨G2, Ext.refl _ _ _, a2.rel.sub, iv.same a2.ext.gg⟩
theorem wlk_keys (h : GD G1 d ob o t kvs mk) : Wlk K (ItK d ob o kvs) ⟨mk.map Prod.fst, none⟩ σ1 G1 H1 F1 := by
  intro σ2 sg2 G2 H2 F2 a2 _
  have hd2 : H2 d = some (.frz ob o) := a2.rel.sub _ _ (a2.ext.gg _ _ h.g)
  refine ⟨fun i hi => ⟨hd2, by rw [List.length_map] at hi; rw [h.len]; exact hi⟩, fun i x e => ?_⟩
  rw [List.getElem?_map] at e
  obtain ⟨q, e1, rfl⟩ := Option.map_eq_some_iff.mp e
  have hi := (List.getElem?_eq_some_iff.mp e1).1
  obtain ⟨v, e2, iv⟩ := h.get e1
  refine ⟨⟨hd2, by rw [h.len]; exact hi⟩, fun x H' y => ?_⟩
  obtain ⟨rfl, k, v', e3, kx⟩ := y
  rw [e2] at e3
  cases e3
  exact key_is (K := K) a2.rel.sub kx
theorem wlk_items (h : GD G1 d ob o t kvs mk) : Wlk K (ItI d ob o kvs) ⟨mk.map (fun p => .tuple [p.1, p.2]), none⟩ σ1 G1 H1 F1 := by
  intro σ2 sg2 G2 H2 F2 a2 _
  have hd2 : H2 d = some (.frz ob o) := a2.rel.sub _ _ (a2.ext.gg _ _ h.g)
  refine ⟨fun i hi => ⟨hd2, by rw [List.length_map] at hi; rw [h.len]; exact hi⟩, fun i x e => ?_⟩
  rw [List.getElem?_map] at e
  obtain ⟨q, e1, rfl⟩ := Option.map_eq_some_iff.mp e
  have hi := (List.getElem?_eq_some_iff.mp e1).1
  obtain ⟨v, e2, iv⟩ := h.get e1
  refine ⟨⟨hd2, by rw [h.len]; exact hi⟩, fun x H' y => ?_⟩
  obtain ⟨T, k, v', y, e3, kx, rfl, hT, rfl⟩ := y
  rw [e2] at e3
  cases e3
  obtain ⟨G3, x3, s3, ik⟩ := key_is (K := K) a2.rel.sub kx
  have x4 := ext_push2 (U := fun _ => False) (o := .tup [y, v]) hT s3
  exact ⟨_, x3.trans x4 (fun _ z => z.elim), same_push2 hT s3, .tup upd_same (.cons (ik.same x4.gg) (.cons ((iv.same (a2.ext.gg.trans x3.gg)).same x4.gg) .nil))⟩
end
def iDict (pick : List (PyData × PyData) → List PyData) (f : Sg → Res (Opd × Sg)) : Sg → Res (Src × Sg) := fun sg => (fLk f sg).bind fun a => match a.1.od a.2 with
  | some (.g _ kvs) => .ok (⟨pick kvs, none⟩, a.2)
  | _ => .stuck
section
variable {C : Ctx} {tg e : Expr} {f : Sg → Res (Opd × Sg)} {pos apos cpos : Pos}
theorem di_dict {mkI : Addr → Obj → HO → List (PyData × V) → It} {pick : List (PyData × PyData) → List PyData} (h : DE C e f) {iter : Expr} (hp : ∀ X, C.Ok X → ∀ td, PE X e td → PI X tg iter (iWd mkI td))
    (hw : ∀ {d : Addr} {ob : Obj} {o : HO} {t : Bool} {kvs : List (PyData × V)} {mk : List (PyData × PyData)} {σ1 : St} {G1 H1 : Hp} {F1 : Ft}, GD G1 d ob o t kvs mk → Wlk C.K (mkI d ob o kvs) ⟨pick mk, none⟩ σ1 G1 H1 F1) : DI C tg iter (iDict pick f) := by
  intro X ok W tk sg
  refine pi_weak (hp X ok _ (de_lk h X ok W tk sg)) fun σ H R ⟨G, F, Rr, q⟩ => ⟨G, F, Rr, FG.bind q (fun _ e => e) fun a ea q' v G' H' F' fp at' hv => ?_⟩
  cases eo : a.1.od a.2 with
  | none => rw [eo] at q'; exact q'.elim
  | some od =>
    rw [eo] at q'
    obtain ⟨fp', w⟩ := hv.opn.own at'.rel eo
    cases w with
    | @g t d ob o kvs mk h1 h2 h3 h4 => exact ⟨d, ob, o, t, kvs, rfl, at'.rel.sub _ _ h1, h2, q' _ G' H' F' at' (hw ⟨h1, h2, h3, h4⟩)⟩
    | _ => exact q'.elim
theorem di_vals (h : DE C e f) (hbase : ∀ env, attributeBase e "values" env (eval e env) = eval e env := by intro _; rfl) (hline : (apos.endLine == cpos.line) = true := by rfl) : DI C tg (.Call (.Attribute e "values" apos) [] [] cpos) (iDict (List.map Prod.snd) f) :=
  di_dict h (fun X ok td hp => pi_vals hp (hbase _) hline) wlk_vals
theorem di_items {elts : List Expr} {kk : Nat} {tpos : Pos} (h : DE C e f) (hbase : ∀ env, attributeBase e "items" env (eval e env) = eval e env := by intro _; rfl) (hline : (apos.endLine == cpos.line) = true := by rfl) : DI C (.Tuple elts kk tpos) (.Call (.Attribute e "items" apos) [] [] cpos) (iDict (List.map fun p => .tuple [p.1, p.2]) f) :=
  di_dict h (fun X ok td hp => pi_its hp (hbase _) hline) wlk_items
theorem di_keys (h : DE C e f) : DI C tg e (iDict (List.map Prod.fst) f) := di_dict h (fun X ok td hp => pi_kys hp) wlk_keys
end

/-! ### enumerate -/
def enumD (ds : List PyData) : List PyData := ds.zipIdx.map fun p => .tuple [.int (p.2 : Nat), p.1]
theorem enumD_len (ds : List PyData) : (enumD ds).length = ds.length := by unfold enumD; rw [List.length_map, List.length_zipIdx]
theorem enumD_get {ds : List PyData} {i : Nat} {d : PyData} (h : (enumD ds)[i]? = some d) : ∃ x, ds[i]? = some x ∧ d = .tuple [.int (i : Nat), x] := by
  unfold enumD at h
  rw [List.getElem?_map, List.getElem?_zipIdx] at h
  obtain ⟨p, e1, rfl⟩ := Option.map_eq_some_iff.mp h
  obtain ⟨x, e2, rfl⟩ := Option.map_eq_some_iff.mp e1
  exact ⟨x, e2, by simp⟩
def ItE (K : PySem.W.Frag) (a : Addr) (xs : List V) : It :=
  ⟨fun i H => SqT K H a xs ∧ i < xs.length, fun i H v H' => ∃ T x, v = .ref T ∧ H T = none ∧ H' = upd H T (.tup [.int (i : Nat), x]) ∧ xs[i]? = some x, fun i H => SqT K H a xs ∧ xs.length ≤ i⟩
theorem turnE {P : Program} {w : World} {K : PySem.W.Frag} {elts : List Expr} {kk : Nat} {tpos : Pos} (a e it : Addr) (xs : List V) (ha : a ≠ it) :
    Turn P w K (.Tuple elts kk tpos) (ItE K a xs) [e, it] e (fun i h => (∃ u, IsEnum h e it ((i : Nat) : Int) u) ∧ h.IsTupleIter it a i ∧ e ≠ it ∧ i ≤ xs.length) where
  mem := List.mem_cons_self
  obj := fun i h ⟨⟨u, z1⟩, ⟨o, z2, z3, z4⟩, _⟩ b hb => by
    rcases List.mem_cons.mp hb with z | z
    · rw [z]; exact ⟨_, z1, fun v q => nomatch q⟩
    · rw [List.mem_singleton.mp z]; exact ⟨o, z2, fun v q => by rw [z4] at q; cases q⟩
  keep := fun i h h' ⟨⟨u, z1⟩, ⟨o, z2, z3⟩, n⟩ k => ⟨⟨u, k e List.mem_cons_self _ z1⟩, ⟨o, k it (List.mem_cons_of_mem _ (List.mem_singleton.mpr rfl)) _ z2, z3⟩, n⟩
  item := by
    intro X e1 e2 e3 hc i pins s σ H E I hf ⟨⟨u0, z1⟩, z2, ne, lz⟩ ⟨g1, g2⟩
    subst e1 e2 e3
    obtain ⟨its, rv, p, hz⟩ := I.tuple g1
    obtain ⟨u, hu, ru⟩ := rv.get (List.getElem?_eq_getElem g2)
    have le : e < s.heap.objs.size := Heap.lt_size z1
    have li : it < s.heap.objs.size := by obtain ⟨_, q, _⟩ := z2; exact Heap.lt_size q
    have nea : e ≠ a := fun z => by
      obtain ⟨o, q1, q2, _⟩ := p
      rw [← z, z1] at q1
      rw [← Option.some.inj q1] at q2
      exact absurd (show Value.type "enumerate" = Value.type "tuple" from q2) (by decide)
    have D := Draws.tuple (prog := X.prog) (w := X.w) (A := X.A.in1) (by exact I.ok.hd hc) it a ha its.toArray
    have hlt : i < its.toArray.size := by
      have := (List.getElem?_eq_some_iff.mp hu).1
      simpa using this
    refine wpAny_pyNext_enum_itemD D z1 ⟨z2, p⟩ hlt ne (by simp [ne, nea]) fun x h' tk hP q1 q2 q3 q4 q5 => ?_
    have hx : x = u := by
      have : its[i]? = some x := by simpa using hP
      rw [hu] at this
      exact (Option.some.inj this).symm
    subst hx
    refine ⟨_, rfl, wpAny_letOwnedTupleGo_enum (s := { s with heap := h', toks := tk + 1 }) q1 fun h2 r1 sb => ?_⟩
    have q6 : h2.get? s.heap.objs.size = some { cls := .type "tuple", data := .seq #[.int i tk, x] } := (sb.2 _ (Nat.ne_of_gt le)).trans q3
    have new : ObjOk X.prog X.w (upd H s.heap.objs.size (.tup [.int (i : Nat), xs[i]])) h2 s.heap.objs.size (.tup [.int (i : Nat), xs[i]]) :=
      ⟨by show 2 ≤ sizeLine; decide, [.int i tk, x], .cons ⟨_, rfl⟩ (.cons ru .nil), ⟨_, q6, rfl, _, rfl⟩⟩
    have J : Inv X pins σ (upd H s.heap.objs.size (.tup [.int (i : Nat), xs[i]])) { s with heap := h2, toks := tk + 1 } :=
      I.turnedNew (ch := [e, it]) (fun b o hb q => (sb.2 b (fun z => hb (by simp [z]))).trans (q5 b o (fun z => hb (by simp [z])) (fun z => hb (by simp [z])) q)) hf (Nat.le_refl _) new
    refine ⟨.ref s.heap.objs.size, _, J, rfl, ⟨_, xs[i], rfl, I.hok.fresh (Nat.le_refl _), rfl, List.getElem?_eq_getElem g2⟩, ⟨⟨x, ?_⟩, ?_, ne, g2⟩, fun b hb => ?_⟩
    · have e5 : ((i + 1 : Nat) : Int) = (i : Int) + 1 := by omega
      rw [e5]; exact r1
    · obtain ⟨⟨o, y1, y2⟩, _⟩ := q2
      exact ⟨o, (sb.2 it (Ne.symm ne)).trans y1, y2⟩
    · have hb' : b < s.heap.objs.size := by
        rcases List.mem_cons.mp hb with z | z
        · rw [z]; exact le
        · rw [List.mem_singleton.mp z]; exact li
      rw [upd_ne (Nat.ne_of_lt hb')]
      exact (hf b hb).1
  done := by
    intro X e1 e2 e3 hc i pins s σ H E I hf ⟨⟨u0, z1⟩, z2, ne, lz⟩ ⟨g1, g2⟩
    subst e1 e2 e3
    obtain ⟨its, rv, p, hz⟩ := I.tuple g1
    obtain ⟨f0, f1, f2, f3, f4, f5⟩ := hf it (List.mem_cons_of_mem _ (List.mem_singleton.mpr rfl))
    have hl := rv.length
    have D := Draws.tuple (prog := X.prog) (w := X.w) (A := X.A.in1) (by exact I.ok.hd hc) it a ha its.toArray
    have hi : i = its.toArray.size := by simp; omega
    subst hi
    exact wpAny_pyNext_enum_endD D z1 ⟨z2, p⟩ fun h' eb => ⟨rfl, I.turned (t' := s.toks) (fun b o hb q => eb b o hb q) f0 f1 f3 f4 f5⟩
  self := fun A i s Q E ⟨⟨_, z1⟩, _⟩ h => wpAny_pyIter_enum z1 h
set_option maxHeartbeats 2000000 in
theorem meets_enumT (t : Addr) (items : Array Value) :
    Meets (Builtin.«enumerate.__new__» ⟨[.type "enumerate", .ref t], []⟩) (fun _ R s => s.heap.IsTuple t items ∧
      R (.ok (.ret (.ref (s.heap.push { cls := .type "tuple_iterator", data := .fields #[.ref t, .int 0 0] }).objs.size)))
        { s with heap := (s.heap.push { cls := .type "tuple_iterator", data := .fields #[.ref t, .int 0 0] }).push { cls := .type "enumerate", data := .fields #[.none, .bool false, .ref s.heap.objs.size, rawInt 0, .none, .none] } }) :=
  .of_wp fun prog w A R s h => by
    obtain ⟨hp, g, d, tk, os⟩ := s
    obtain ⟨h0, h⟩ := h
    have hsub := sub_enumerate
    have q1 : ∀ {A' : Around} {E : Value → Shared → Prop} {Q : Value → Shared → Prop}, Q (.ref hp.objs.size) ⟨hp.push { cls := .type "tuple_iterator", data := .fields #[.ref t, .int 0 0] }, g, d, tk, os⟩ → wpAny (model prog w) A' (pyIter (.ref t)) Q E ⟨hp, g, d, tk, os⟩ :=
      fun q => wpAny_pyIter_tuple h0 q
    wp_walk using q1
    refine wpAny_stack_any fun st => wpAny_pure ?_
    split
    · rename_i c _ _ _ _ _
      cases (c == Value.type "enumerate")
      · wp_walk using q1
        exact ⟨_, rfl, h⟩
      · wp_walk using q1
        exact ⟨_, rfl, h⟩
    · wp_walk using q1
      exact ⟨_, rfl, h⟩
theorem call_enumT {prog : Program} {w : World} {A : Around} {E : Value → Shared → Prop} {s : Shared} {t : Addr} {items : Array Value} {Q : Value → Shared → Prop} (ht : s.heap.IsTuple t items)
    (h : ∀ h', IsEnum h' (s.heap.objs.size + 1) s.heap.objs.size 0 .none → h'.IsTupleIter s.heap.objs.size t 0 → (∀ b o, s.heap.get? b = some o → h'.get? b = some o) → Q (.ref (s.heap.objs.size + 1)) { s with heap := h' }) :
    wpAny (model prog w) A (call (.type "enumerate") [.ref t]) Q E s := by
  refine callType_new F.called_enumerate (by decide) (F.typeCall_enumerate_1 _) (F.newCall_enumerate_1 _) (fun obj => F.args_object_init_2 obj _) F.entry_enumerate_new (meets_enumT t items) ⟨ht, ?_⟩
  have hz : (s.heap.push { cls := .type "tuple_iterator", data := .fields #[.ref t, .int 0 0] }).objs.size = s.heap.objs.size + 1 := Heap.size_push ..
  show _ ∧ _
  rw [hz]
  have he : IsEnum ((s.heap.push { cls := .type "tuple_iterator", data := .fields #[.ref t, .int 0 0] }).push { cls := .type "enumerate", data := .fields #[.none, .bool false, .ref s.heap.objs.size, rawInt 0, .none, .none] }) (s.heap.objs.size + 1) s.heap.objs.size 0 .none := by
    have := Heap.get?_push_size (s.heap.push { cls := .type "tuple_iterator", data := .fields #[.ref t, .int 0 0] }) (o := { cls := .type "enumerate", data := .fields #[.none, .bool false, .ref s.heap.objs.size, rawInt 0, .none, .none] }) rfl
    rw [hz] at this
    exact this
  exact ⟨⟨_, he, rfl⟩, h _ he ⟨_, Heap.get?_push_of_some _ (Heap.get?_push_size _ rfl), rfl, rfl⟩ fun b o x => Heap.get?_push_of_some _ (Heap.get?_push_of_some _ x)⟩
theorem pi_enumA {X : Cx} {e : Expr} {ta : TA} {p pos tpos : Pos} {elts : List Expr} {kk : Nat} (hg : Gl X "enumerate") (hm : X.mg "enumerate" = none) (ha : PA X [e] ta) (hs : starEach [e] X.env = [(false, eval e X.env)] := by rfl) :
    PI X (.Tuple elts kk tpos) (.Call (.Name "enumerate" p) [e] [] pos) (fun σ H R => ta σ H fun vs H1 => ∃ a, vs = [.ref a] ∧ ((∃ xs, SqL X.K H1 a xs ∧ R (Ite X.K a) H1) ∨ ∃ xs, SqT X.K H1 a xs ∧ R (ItE X.K a xs) H1)) := by
  refine ⟨fun pins s σ H R I h => ?_⟩
  refine Call_ (ld_blt I hg hm boot_enumerate (PyProof.Rows.callWith_type1 (thn (ha.run pos pins s σ H _ I h) fun us s1 ⟨vs, H1, J, r1, q1⟩ => ?_) hs rfl))
  obtain ⟨a, ex, q1⟩ := q1
  subst ex
  cases r1 with
  | cons r rr =>
    cases rr
    cases r
    have own : ∀ b ∈ [s1.heap.objs.size + 1, s1.heap.objs.size], FpOk X pins H1 b := fun b hb => by
      have hle : s1.heap.objs.size ≤ b := by
        rcases List.mem_cons.mp hb with z | z
        · rw [z]; exact Nat.le_add_right _ _
        · rw [List.mem_singleton.mp z]; exact Nat.le_refl _
      exact J.fpOk hle (J.hok.fresh hle)
    rcases q1 with ⟨xs, hq, q⟩ | ⟨xs, hq, q⟩
    · obtain ⟨its, rv, pp, hz⟩ := J.list hq
      exact call_enumerate_list pp.isList fun h' he hit hsz hk => wpAny_pyIter_enum he ⟨s1.heap.objs.size + 1, [s1.heap.objs.size + 1, s1.heap.objs.size], _, _, H1, rfl, J.kept (t' := s1.toks) hk, turn_enum a (s1.heap.objs.size + 1) s1.heap.objs.size, ⟨⟨.none, he⟩, hit, Nat.succ_ne_self _⟩, own, q⟩
    · obtain ⟨its, rv, pp, hz⟩ := J.tuple hq
      have ha' : a ≠ s1.heap.objs.size := by
        obtain ⟨o, q1, _⟩ := pp
        exact Nat.ne_of_lt (Heap.lt_size q1)
      exact call_enumT (show s1.heap.IsTuple a its.toArray from pp) fun h' he hit hk => wpAny_pyIter_enum he ⟨s1.heap.objs.size + 1, [s1.heap.objs.size + 1, s1.heap.objs.size], _, _, H1, rfl, J.kept (t' := s1.toks) hk, turnE a (s1.heap.objs.size + 1) s1.heap.objs.size xs ha', ⟨⟨.none, he⟩, hit, Nat.succ_ne_self _, Nat.zero_le _⟩, own, q⟩
section
variable {K : PySem.W.Frag} {a : Addr} {vs : List V} {ds : List PyData} {σ1 : St} {G1 H1 : Hp} {F1 : Ft}
theorem enum_step {σ2 : St} {sg2 : Sg} {G2 H2 : Hp} {F2 : Ft} (a2 : At K G1 H1 F1 sg2 σ2 G2 H2 F2) (r : IsAll G1 vs ds) {i : Nat} {d x0 : PyData} (e1 : ds[i]? = some x0) (e2 : d = .tuple [.int (i : Nat), x0]) {T : Addr} {x : V} (hT : H2 T = none) (hx : vs[i]? = some x) :
    ∃ G', Ext (fun _ => False) G2 H2 G' (upd H2 T (.tup [.int (i : Nat), x])) ∧ Same G' (upd H2 T (.tup [.int (i : Nat), x])) ∧ Is G' (.ref T) d := by
  have x4 := ext_push2 (U := fun _ => False) (o := .tup [.int (i : Nat), x]) hT a2.rel.sub
  subst e2
  exact ⟨_, x4, same_push2 hT a2.rel.sub, .tup upd_same (.cons (.int _) (.cons ((r.getI hx e1).same (a2.ext.gg.trans x4.gg)) .nil))⟩
theorem wlk_enumL (q : SqL K G1 a vs) (r : IsAll G1 vs ds) : Wlk K (Ite K a) ⟨enumD ds, none⟩ σ1 G1 H1 F1 := by
  intro σ2 sg2 G2 H2 F2 a2 _
  have q2 : SqL K H2 a vs := a2.rel.sub.seq (a2.ext.gg.seq q)
  refine ⟨fun i hi => ⟨vs, q2, by rw [enumD_len] at hi; rw [r.length]; exact hi⟩, fun i d e => ?_⟩
  obtain ⟨x0, e1, e2⟩ := enumD_get e
  obtain ⟨v, ev, iv⟩ := r.get e1
  refine ⟨⟨vs, v, q2, ev⟩, fun x H' y => ?_⟩
  obtain ⟨T, x', rfl, hT, rfl, hx⟩ := y
  exact enum_step a2 r e1 e2 hT (hx vs q2)
theorem wlk_enumT (q : SqT K G1 a vs) (r : IsAll G1 vs ds) : Wlk K (ItE K a vs) ⟨enumD ds, none⟩ σ1 G1 H1 F1 := by
  intro σ2 sg2 G2 H2 F2 a2 _
  have q2 : SqT K H2 a vs := sqT_same a2.rel.sub (sqT_same a2.ext.gg q)
  refine ⟨fun i hi => ⟨q2, by rw [enumD_len] at hi; rw [r.length]; exact hi⟩, fun i d e => ?_⟩
  obtain ⟨x0, e1, e2⟩ := enumD_get e
  obtain ⟨v, ev, iv⟩ := r.get e1
  refine ⟨⟨q2, (List.getElem?_eq_some_iff.mp ev).1⟩, fun x H' y => ?_⟩
  obtain ⟨T, x', rfl, hT, rfl, hx⟩ := y
  exact enum_step a2 r e1 e2 hT hx
end
def iEnumF (f : Sg → Res (Opd × Sg)) : Sg → Res (Src × Sg) := fun sg => (fFz f sg).bind fun a => match a.1 with
  | .v od => (Res.of od.kidA).bind fun ds => .ok (⟨enumD ds, none⟩, a.2)
  | .i _ => .stuck
theorem di_enum {C : Ctx} {e : Expr} {f : Sg → Res (Opd × Sg)} {p pos tpos : Pos} {elts : List Expr} {kk : Nat} (hb : Bi C "enumerate") (h : DE C e f) (hs : ∀ env, starEach [e] env = [(false, eval e env)] := by intro _; rfl) : DI C (.Tuple elts kk tpos) (.Call (.Name "enumerate" p) [e] [] pos) (iEnumF f) := by
  intro X ok W tk sg
  refine pi_weak (pi_enumA (ok.glob hb.1) (by rw [ok.mg]; exact hb.2) (pa_cons (de_fz h X ok W tk sg) pa_nil (hs _)) (hs _)) fun σ H R ⟨G, F, Rr, q⟩ => ⟨G, F, Rr, FG.bind q (fun _ e => e) fun a ea q' v G' H' F' fp at' hv => ?_⟩
  obtain ⟨od, eo, fr⟩ := fFz_fr ea
  obtain ⟨o, s1⟩ := a
  have eo : o = .v od := eo
  subst eo
  obtain ⟨ds, ek, q1⟩ := q'.of
  have hn := hv.opn
  cases hn with
  | v w n =>
    obtain ⟨a, vs, rfl, hs, r⟩ := w.kidG fr ek
    refine ⟨a, rfl, ?_⟩
    rw [ok.K]
    rcases hs with hs | hs
    · exact .inl ⟨vs, at'.rel.sub.seq hs, q1 _ G' H' F' at' (wlk_enumL hs r)⟩
    · exact .inr ⟨vs, sqT_same at'.rel.sub hs, q1 _ G' H' F' at' (wlk_enumT hs r)⟩
end DL
set_option Elab.async false
set_option linter.all false
set_option maxRecDepth 100000
set_option maxHeartbeats 4000000
namespace DL
open PySem PySem.Spec PyProof.Rows L2

/-! ### stores -/
theorem OwnAll.setV {K : PySem.W.Frag} {G H : Hp} : ∀ {vs : List V} {ods : List OD} {fp : List Addr}, OwnAll K G H vs ods fp → ∀ {v : V} {od : OD} {f1 : List Addr}, Own K G H v od f1 → (∀ b ∈ f1, b ∉ fp) → ∀ j : Nat, ∃ fp', OwnAll K G H (vs.set j v) (ods.set j od) fp' ∧ ∀ b ∈ fp', b ∈ fp ∨ b ∈ f1
  | _, _, _, .nil, v, od, f1, w, n, j => ⟨[], .nil, fun _ z => by cases z⟩
  | _, _, _, .cons (f1 := g1) (f2 := g2) a r m, v, od, f1, w, n, 0 => ⟨f1 ++ g2, .cons w r fun b hb z => n b hb (List.mem_append_right _ z), fun b hb => (List.mem_append.mp hb).elim .inr fun z => .inl (List.mem_append_right _ z)⟩
  | _, _, _, .cons (f1 := g1) (f2 := g2) a r m, v, od, f1, w, n, j + 1 => by
    obtain ⟨fp', r', h'⟩ := OwnAll.setV r w (fun b hb z => n b hb (List.mem_append_right _ z)) j
    exact ⟨g1 ++ fp', .cons a r' fun b hb z => (h' b z).elim (m b hb) fun q => n b q (List.mem_append_left _ hb), fun b hb => (List.mem_append.mp hb).elim (fun z => .inl (List.mem_append_left _ z)) fun z => (h' b z).imp (List.mem_append_right _) id⟩
/-- one of several is written in place -/
theorem OwnAll.at {K : PySem.W.Frag} {G H : Hp} : ∀ {vs : List V} {ods : List OD} {fp : List Addr}, OwnAll K G H vs ods fp → ∀ {j : Nat} {od : OD}, ods[j]? = some od → ∃ v fj, vs[j]? = some v ∧ Own K G H v od fj ∧ (∀ b ∈ fj, b ∈ fp) ∧
    ∀ {G' H' : Hp} {od' : OD} {fj' : List Addr}, Ext (· ∈ fj) G H G' H' → Own K G' H' v od' fj' → (∀ b ∈ fj', b ∈ fj ∨ b ∉ fp) → ∃ fp', OwnAll K G' H' vs (ods.set j od') fp' ∧ ∀ b ∈ fp', b ∈ fp ∨ b ∈ fj'
  | _, _, _, .nil, j, od, e => by simp at e
  | _, _, _, .cons (v := v) (f1 := g1) (f2 := g2) a r m, 0, od, e => by
    cases e
    refine ⟨v, g1, rfl, a, fun b hb => List.mem_append_left _ hb, fun {G' H' od' fj'} x w h => ?_⟩
    exact ⟨fj' ++ g2, .cons w (r.ext x fun b hb z => m b z hb) fun b hb z => (h b hb).elim (fun q => m b q z) fun q => q (List.mem_append_right _ z), fun b hb => (List.mem_append.mp hb).elim .inr fun z => .inl (List.mem_append_right _ z)⟩
  | _, _, _, .cons (v := v0) (f1 := g1) (f2 := g2) a r m, j + 1, od, e => by
    obtain ⟨v, fj, e1, w1, s1, k1⟩ := OwnAll.at r (j := j) (by simpa using e)
    refine ⟨v, fj, by simpa using e1, w1, fun b hb => List.mem_append_right _ (s1 b hb), fun {G' H' od' fj'} x w h => ?_⟩
    obtain ⟨fp', r', h'⟩ := k1 x w fun b hb => (h b hb).imp id fun q z => q (List.mem_append_right _ z)
    refine ⟨g1 ++ fp', .cons (a.ext x fun b hb z => m b hb (s1 b z)) r' fun b hb z => ?_, fun b hb => (List.mem_append.mp hb).elim (fun z => .inl (List.mem_append_left _ z)) fun z => (h' b z).imp (List.mem_append_right _) id⟩
    rcases h' b z with q | q
    · exact m b hb q
    · rcases h b q with y | y
      · exact m b hb (s1 b y)
      · exact y (List.mem_append_left _ hb)
/-! a dict's store -/
def dput {α : Type} (kvs : List (PyData × α)) (k : PyData) (x : α) : List (PyData × α) := if (kvs.any fun p => PyData.eqv p.1 k) = true then kvs.map (fun p => if PyData.eqv p.1 k = true then (p.1, x) else p) else kvs ++ [(k, x)]
theorem any_fst {α β : Type} (p : PyData → Bool) : ∀ {l : List (PyData × α)} {m : List (PyData × β)}, l.map Prod.fst = m.map Prod.fst → (l.any fun x => p x.1) = m.any fun x => p x.1
  | [], [], _ => rfl
  | [], _ :: _, h => by cases h
  | _ :: _, [], h => by cases h
  | a :: l, b :: m, h => by
    rw [List.map_cons, List.map_cons] at h
    injection h with h1 h2
    rw [List.any_cons, List.any_cons, h1, any_fst p h2]
theorem dput_fst {α β : Type} {l : List (PyData × α)} {m : List (PyData × β)} (h : l.map Prod.fst = m.map Prod.fst) (k : PyData) (x : α) (y : β) : (dput l k x).map Prod.fst = (dput m k y).map Prod.fst := by
  have key : ∀ {γ : Type} (l : List (PyData × γ)) (z : γ), (l.map fun p => if PyData.eqv p.1 k = true then (p.1, z) else p).map Prod.fst = l.map Prod.fst := fun {γ} l z => by
    rw [List.map_map]
    refine List.map_congr_left fun p _ => ?_
    show (if PyData.eqv p.1 k = true then (p.1, z) else p).1 = p.1
    split <;> rfl
  unfold dput
  rw [any_fst (fun z => PyData.eqv z k) h]
  split
  · rw [key, key, h]
  · rw [List.map_append, List.map_append, h]
    rfl
theorem hd_put {G H : Hp} {t : Bool} {a : Addr} {o : HO} {kvs : List (PyData × V)} {y v : V} {k : PyData} (r : H a = some o) (h : HD t o kvs) (hy : Is H y k) (hk : keyFt t k = true) (hl : kvs.length < 1000000) : ∃ o', HD t o' (dput kvs k v) ∧ DPut H a y v (upd H a o') := by
  have hz : kvs.length < sizeLine := Nat.lt_of_lt_of_le hl (by rw [sizeLine_eq]; decide)
  cases h with
  | k kvs =>
    obtain ⟨k', rfl, rfl⟩ := key_of hy hk
    rw [List.length_map] at hz
    refine ⟨_, ?_, .k r hz⟩
    have e : dput (kvs.map fun p => (kD p.1, p.2)) (kD k') v = (putK kvs k' v).map fun p => (kD p.1, p.2) := by
      unfold dput putK
      rw [List.any_map]
      have e1 : ((fun p : PyData × V => PyData.eqv p.1 (kD k')) ∘ fun p : Key × V => (kD p.1, p.2)) = fun kv => decide (kv.1 = k') := funext fun p => eqv_kD p.1 k'
      rw [e1]
      split
      · rw [List.map_map, List.map_map]
        refine List.map_congr_left fun p _ => ?_
        show (if PyData.eqv (kD p.1) (kD k') = true then (kD p.1, v) else (kD p.1, p.2)) = (fun p : Key × V => (kD p.1, p.2)) (if p.1 = k' then (p.1, v) else p)
        rw [eqv_kD]
        by_cases q : p.1 = k'
        · rw [decide_eq_true q, if_pos rfl, if_pos q]
        · rw [decide_eq_false q, if_neg Bool.false_ne_true, if_neg q]
      · rw [List.map_append]
        rfl
    rw [e]
    exact .k _
  | t kvs =>
    cases hy with
    | @tup b vs ds hb hr =>
      obtain ⟨ks, e1, e2⟩ := keys_of hr hk
      subst e1
      subst e2
      rw [List.length_map] at hz
      refine ⟨_, ?_, .t r hb hz⟩
      have e : dput (kvs.map fun p => (PyData.tuple (p.1.map kD), p.2)) (.tuple (ks.map kD)) v = (putK kvs ks v).map fun p => (PyData.tuple (p.1.map kD), p.2) := by
        unfold dput putK
        rw [List.any_map]
        have e1 : ((fun p : PyData × V => PyData.eqv p.1 (.tuple (ks.map kD))) ∘ fun p : List Key × V => (PyData.tuple (p.1.map kD), p.2)) = fun kv => decide (kv.1 = ks) := funext fun p => eqvAll_kD p.1 ks
        rw [e1]
        split
        · rw [List.map_map, List.map_map]
          refine List.map_congr_left fun p _ => ?_
          show (if PyData.eqv (.tuple (p.1.map kD)) (.tuple (ks.map kD)) = true then (PyData.tuple (p.1.map kD), v) else (PyData.tuple (p.1.map kD), p.2)) = (fun p : List Key × V => (PyData.tuple (p.1.map kD), p.2)) (if p.1 = ks then (p.1, v) else p)
          rw [show PyData.eqv (.tuple (p.1.map kD)) (.tuple (ks.map kD)) = decide (p.1 = ks) from eqvAll_kD p.1 ks]
          by_cases q : p.1 = ks
          · rw [decide_eq_true q, if_pos rfl, if_pos q]
          · rw [decide_eq_false q, if_neg Bool.false_ne_true, if_neg q]
        · rw [List.map_append]
          rfl
      rw [e]
      exact .t _
    | _ => cases hk
def isF : OD → Bool
  | .f _ => true
  | _ => false
theorem OwnAll.dput {K : PySem.W.Frag} {G H : Hp} {kvs : List (PyData × V)} {mk : List (PyData × OD)} {fp : List Addr} (r : OwnAll K G H (kvs.map Prod.snd) (mk.map Prod.snd) fp) (hk : kvs.map Prod.fst = mk.map Prod.fst) {k : PyData} {v : V} {od : OD} {f1 : List Addr} (w : Own K G H v od f1) (n : ∀ b ∈ fp, b ∉ f1)
    (hf : (mk.any fun p => PyData.eqv p.1 k) = false ∨ isF od = true) : ∃ fp', OwnAll K G H ((DL.dput kvs k v).map Prod.snd) ((DL.dput mk k od).map Prod.snd) fp' ∧ ∀ b ∈ fp', b ∈ fp ∨ b ∈ f1 := by
  unfold DL.dput
  rw [any_fst (fun z => PyData.eqv z k) hk]
  by_cases h : (mk.any fun p => PyData.eqv p.1 k) = true
  · rw [if_pos h, if_pos h]
    have hf : isF od = true := hf.resolve_left (by rw [h]; exact fun z => by cases z)
    cases od with
    | f d =>
      cases w with
      | f w =>
        have key : ∀ (kvs : List (PyData × V)) (mk : List (PyData × OD)) (fp : List Addr), OwnAll K G H (kvs.map Prod.snd) (mk.map Prod.snd) fp → kvs.map Prod.fst = mk.map Prod.fst →
            ∃ fp', OwnAll K G H ((kvs.map fun p => if PyData.eqv p.1 k = true then (p.1, v) else p).map Prod.snd) ((mk.map fun p => if PyData.eqv p.1 k = true then (p.1, OD.f d) else p).map Prod.snd) fp' ∧ ∀ b ∈ fp', b ∈ fp := by
          intro kvs
          induction kvs with
          | nil =>
            intro mk fp r hk
            cases mk with
            | nil => exact ⟨[], .nil, fun _ z => by cases z⟩
            | cons => cases hk
          | cons p kvs ih =>
            intro mk fp r hk
            cases mk with
            | nil => cases hk
            | cons q mk =>
              rw [List.map_cons, List.map_cons] at hk
              injection hk with h1 h2
              cases r with
              | @cons _ _ _ _ g1 g2 a r m =>
                obtain ⟨fp', r', h'⟩ := ih mk g2 r h2
                simp only [List.map_cons, h1]
                by_cases hq : PyData.eqv q.1 k = true
                · simp only [hq, if_true]
                  exact ⟨[] ++ fp', .cons (.f w) r' (fun _ z => by cases z), fun b hb => List.mem_append_right _ (h' b (by simpa using hb))⟩
                · simp only [hq]
                  exact ⟨g1 ++ fp', .cons a r' fun b hb z => m b hb (h' b z), fun b hb => (List.mem_append.mp hb).elim (List.mem_append_left _) fun z => List.mem_append_right _ (h' b z)⟩
        obtain ⟨fp', r', h'⟩ := key kvs mk fp r hk
        exact ⟨fp', r', fun b hb => .inl (h' b hb)⟩
    | _ => cases hf
  · rw [if_neg h, if_neg h, List.map_append, List.map_append]
    exact ⟨fp ++ f1, r.snoc w n, fun b hb => List.mem_append.mp hb⟩
/-- a slot's own dict -/
structure MSlot (K : PySem.W.Frag) (G0 H0 : Hp) (F0 : Ft) (s : Sg) (σ : St) (G H : Hp) (F : Ft) (n : Nat) (t : Bool) (mk : List (PyData × OD)) (p : Addr) (o : HO) (kvs : List (PyData × V)) (fp : List Addr) : Prop where
  sl : σ[n]? = some (some (.ref p))
  hp : H p = some o
  gp : G p = none
  hd : HD t o kvs
  own : OwnAll K G H (kvs.map Prod.snd) (mk.map Prod.snd) fp
  fst : kvs.map Prod.fst = mk.map Prod.fst
  fpn : F n = p :: fp
  nin : p ∉ fp
  set : ∀ o' kvs' mk' fp', HD t o' kvs' → OwnAll K G H (kvs'.map Prod.snd) (mk'.map Prod.snd) fp' → kvs'.map Prod.fst = mk'.map Prod.fst → (∀ b ∈ fp', b ∈ fp ∨ (¬ foot F b ∧ (foot F0 b ∨ H0 b = none))) → At K G0 H0 F0 (s.set n (some (.m t mk'))) σ G (upd H p o') (F.put n (p :: fp'))
theorem At.mslot {K : PySem.W.Frag} {G0 H0 : Hp} {F0 : Ft} {s : Sg} {σ : St} {G H : Hp} {F : Ft} (a : At K G0 H0 F0 s σ G H F) {n : Nat} {t : Bool} {mk : List (PyData × OD)} (e : s[n]? = some (some (.m t mk))) : ∃ p o kvs fp, MSlot K G0 H0 F0 s σ G H F n t mk p o kvs fp := by
  obtain ⟨v, e1, w⟩ := a.rel.get n _ e
  generalize hF : F n = ff at w
  cases w with
  | @m _ p o kvs _ fp g h q r nn ek =>
    have hn : n < s.length := (List.getElem?_eq_some_iff.mp e).1
    have pf : p ∈ F n := by rw [hF]; exact List.mem_cons_self
    refine ⟨p, o, kvs, fp, e1, h, g, q, r, ek, hF, nn, fun o' kvs' mk' fp' q' w' ek' hf => ?_⟩
    have np : p ∉ fp' := fun z => (hf p z).elim nn fun q => q.1 ⟨n, pf⟩
    have x : Ext (· = p) G H G (upd H p o') := ext_upd h rfl
    refine a.write (x.mono fun b hb => by rw [hb]; exact pf) (same_upd' g a.rel.sub) hn e1 (.m g upd_same q' (w'.ext x fun b hb z => np (z ▸ hb)) np ek') fun b hb => ?_
    rcases List.mem_cons.mp hb with rfl | hb
    · exact .inl pf
    · exact (hf b hb).imp (fun z => by rw [hF]; exact List.mem_cons_of_mem _ z) id
def storeK (n : Nat) (i : Opd) (od : OD) (s : Sg) : Res Sg := match s[n]? with
  | some (some (.l ods)) => match i.dat s with
    | some (.int k) => (Res.of (ixN ods.length k)).bind fun j => .ok (s.set n (some (.l (ods.set j od))))
    | _ => .stuck
  | some (some (.m t kvs)) => (Res.of (i.er s)).bind fun k => (guardR (keyFt t k && decide (kvs.length < 1000000) && (!(kvs.any fun p => PyData.eqv p.1 k) || isF od))).bind fun _ => .ok (s.set n (some (.m t (dput kvs k od))))
  | _ => .stuck
def fSt (n : Nat) (fe fi : Sg → Res (Opd × Sg)) : Sg → Res Ou := fun sg => (fTk fe sg).bind fun a => match a.1 with
  | .v od => (fV n a.2).bind fun _ => (fi a.2).bind fun i => (storeK n i.1 od i.2).bind fun s => .ok (.nx s)
  | .i _ => .stuck
def rSetB : TSet := fun o i v H Q => rSetL o i v H Q ∨ rSetD o i v H Q
theorem set_both {X : Cx} (hu : X.A.units + 1 < cLine) : PSet X rSetB := by
  intro pins s σ H o i v ov iv u Q I ro ri rv h
  rcases h with h | h
  · exact set_list pins s σ H o i v ov iv u Q I ro ri rv h
  · exact set_dict hu pins s σ H o i v ov iv u Q I ro ri rv h
theorem room1 {C : Ctx} {X : Cx} (ok : C.Ok X) : X.A.units + 1 < cLine := by
  have := ok.room.un
  omega
section
variable {C : Ctx} {e ix : Expr} {fe fi : Sg → Res (Opd × Sg)} {pos p1 p2 : Pos}
theorem ds_st (n : Nat) {x : Str} (h : DE C e fe) (hi : DE C ix fi) (hN : C.N[n]? = some x) (hv : Vis C.sc x) (hd : (x == ("__debug__" : Str)) = false := by decide) (hcd : (x == ("__classdict__" : Str)) = false := by decide)
    (ha : ∀ env v, assign (.Subscript (.Name x p1) ix p2) env v = (do
      let ov ← holding [v] (eval (.Name x p1) env)
      let iv ← holding [v, ov] (eval ix env)
      standAt p2
      holding [v, ov, iv] (setItem ov iv v)
      release [v, ov, iv] []) := by intro _ _; rfl)
    (hs : ∀ env, swapsWithSole [.Subscript (.Name x p1) ix p2] e pos.line env = pure false := by intro _; rfl) (hw : ∀ env, swappedStores [.Subscript (.Name x p1) ix p2] e env = pure none := by intro _; rfl)
    (h1 : ∀ env, (assignEach [.Subscript (.Name x p1) ix p2] env).map (·.2) = [assign (.Subscript (.Name x p1) ix p2) env] := by intro _; rfl) : DS C (.Assign [.Subscript (.Name x p1) ix p2] e pos) (fSt n fe fi) := by
  intro X ok W tk sg
  refine ps_weak (ps_asg (de_tk h X ok.toOk W tk sg) (pg_sub (de_var n hN hv hd hcd X ok.toOk W tk (nxt (fTk fe sg))) (hi X ok.toOk W tk (nxt (fTk fe sg))) (set_both (room1 ok.toOk)) (ha _)) (hs _) (hw _) (h1 _)) fun D σ H ⟨G, F, R, q⟩ =>
    RE.fst R (FG.mono q (fun _ e => e σ) fun _ z => z) fun o s1 v G1 H1 F1 fp e1 q1 a1 h1 => ?_
  rw [e1]
  cases o with
  | i m => exact q1.elim
  | v od =>
    refine RE.fst (C := C) (W := W) a1.rel (FG.mono q1 (fun _ e => e.later a1) fun _ z => z) fun o2 s2 v2 G2 H2 F2 fp2 e2 q2 a2 h2 => ?_
    have es : s2 = s1 ∧ o2 = .i n := by
      unfold fV at e2
      split at e2
      · cases e2; exact ⟨rfl, rfl⟩
      · cases e2
    obtain ⟨rfl, rfl⟩ := es
    show RE C W (fi s2) s2 σ H2 _
    refine ⟨G2, F2, a2.rel, FG.bind q2 (fun _ e => e.later a2) fun i ei q3 iv G3 H3 F3 fp3 a3 h3 => ?_⟩
    have hv3 := (h1.later a2).later a3
    have hx3 := h2.later a3
    have a13 := (a1.trans a2).trans a3
    obtain ⟨hn, hf⟩ := hv3
    cases hn with
    | v w nf =>
      unfold storeK at q3
      cases es : i.2[n]? with
      | none => simp only [es] at q3; exact q3.elim
      | some x =>
        cases x with
        | none => simp only [es] at q3; exact q3.elim
        | some odn =>
          cases odn with
          | l ods =>
            simp only [es] at q3
            obtain ⟨pL, vs, fpL, L⟩ := a13.lslot es
            have hv := L.is hx3.opn
            subst hv
            cases ek : i.1.dat i.2 with
            | none => simp only [ek] at q3; exact q3.elim
            | some k =>
              cases k with
              | int k =>
                simp only [ek, Res.bind_assoc] at q3
                obtain ⟨j, ej, q4⟩ := q3.of
                have ev := dp_int (h3.opn.dp a3.rel ek)
                subst ev
                obtain ⟨fp', w', hf'⟩ := L.own.setV w (fun b hb z => nf b hb ⟨n, by rw [L.fpn]; exact List.mem_cons_of_mem _ z⟩) j
                have st := L.set _ _ _ w' fun b hb => (hf' b hb).imp id fun z => ⟨nf b z, hf b z⟩
                exact .inl ⟨pL, vs, k, j, rfl, rfl, L.hp, by rw [L.own.length]; exact ej, q4 σ _ _ _ st (Keeps.refl C σ)⟩
              | _ => simp only [ek] at q3; exact q3.elim
          | m t mk =>
            simp only [es, Res.bind_assoc] at q3
            obtain ⟨pM, o, kvs, fpM, M⟩ := a13.mslot es
            obtain ⟨k, ek, q4⟩ := q3.of
            obtain ⟨gd, q5⟩ := q4.guard
            rw [Bool.and_eq_true, Bool.and_eq_true] at gd
            obtain ⟨⟨gk, gl⟩, gf⟩ := gd
            have ik := h3.opn.is a3.rel ek
            have hl : kvs.length < 1000000 := by
              rw [← List.length_map (f := Prod.fst), M.fst, List.length_map]
              exact of_decide_eq_true gl
            obtain ⟨o', hd', dp⟩ := hd_put (G := G3) (v := v) M.hp M.hd ik gk hl
            obtain ⟨fp', w', hf'⟩ := M.own.dput M.fst (k := k) w (fun b hb z => nf b z ⟨n, by rw [M.fpn]; exact List.mem_cons_of_mem _ hb⟩) (by
              rw [Bool.or_eq_true] at gf
              exact gf.imp (fun z => by simpa using z) id)
            have st := M.set _ _ _ _ hd' w' (dput_fst M.fst k v od) fun b hb => (hf' b hb).imp id fun z => ⟨nf b z, hf b z⟩
            have hv : v2 = .ref pM := by
              have z := hx3.opn
              cases z with
              | i z =>
                rw [M.sl] at z
                cases z
                rfl
            subst hv
            exact .inr ⟨pM, _, rfl, dp, q5 σ _ _ _ st (Keeps.refl C σ)⟩
          | _ => simp only [es] at q3; exact q3.elim
end
end DL
set_option Elab.async false
set_option linter.all false
set_option maxRecDepth 100000
set_option maxHeartbeats 4000000
namespace DL
open PySem PySem.Spec PyProof.Rows L2

/-! ### a list in a slot's own list -/
structure CSlot (K : PySem.W.Frag) (G0 H0 : Hp) (F0 : Ft) (s : Sg) (σ : St) (G H : Hp) (F : Ft) (n j : Nat) (ods ys : List OD) (p : Addr) (vs : List V) (pc : Addr) (ws : List V) (fc : List Addr) : Prop where
  sl : σ[n]? = some (some (.ref p))
  hp : H p = some (.lst vs)
  len : vs.length = ods.length
  at_ : vs[j]? = some (.ref pc)
  hc : H pc = some (.lst ws)
  own : OwnAll K G H ws ys fc
  inF : ∀ b ∈ fc, b ∈ F n
  set : ∀ ws' ys' fc', OwnAll K G H ws' ys' fc' → (∀ b ∈ fc', b ∈ fc ∨ (¬ foot F b ∧ (foot F0 b ∨ H0 b = none))) → ∃ F', At K G0 H0 F0 (s.set n (some (.l (ods.set j (.l ys'))))) σ G (upd H pc (.lst ws')) F'
theorem At.cslot {K : PySem.W.Frag} {G0 H0 : Hp} {F0 : Ft} {s : Sg} {σ : St} {G H : Hp} {F : Ft} (a : At K G0 H0 F0 s σ G H F) {n j : Nat} {ods ys : List OD} (e : s[n]? = some (some (.l ods))) (ej : ods[j]? = some (.l ys)) : ∃ p vs pc ws fc, CSlot K G0 H0 F0 s σ G H F n j ods ys p vs pc ws fc := by
  obtain ⟨v, e1, w⟩ := a.rel.get n _ e
  generalize hF : F n = ff at w
  cases w with
  | @l p vs _ fp g h r nn =>
    have hn : n < s.length := (List.getElem?_eq_some_iff.mp e).1
    have pf : p ∈ F n := by rw [hF]; exact List.mem_cons_self
    obtain ⟨vc, fj, e2, wc, sj, kj⟩ := r.at ej
    cases wc with
    | @l pc ws _ fc gc hc rc nc =>
      have hpc : pc ∈ fp := sj pc List.mem_cons_self
      have npc : pc ≠ p := fun z => nn (z ▸ hpc)
      refine ⟨p, vs, pc, ws, fc, e1, h, r.length, e2, hc, rc, fun b hb => by rw [hF]; exact List.mem_cons_of_mem _ (sj b (List.mem_cons_of_mem _ hb)), fun ws' ys' fc' w' hf => ?_⟩
      have np : pc ∉ fc' := fun z => (hf pc z).elim nc fun q => q.1 ⟨n, by rw [hF]; exact List.mem_cons_of_mem _ hpc⟩
      have x : Ext (· = pc) G H G (upd H pc (.lst ws')) := ext_upd hc rfl
      have wc' : Own K G (upd H pc (.lst ws')) (.ref pc) (.l ys') (pc :: fc') := .l gc upd_same (w'.ext x fun b hb z => np (z ▸ hb)) np
      obtain ⟨fp', r', h'⟩ := kj (x.mono fun b hb => by rw [hb]; exact List.mem_cons_self) wc' fun b hb => by
        rcases List.mem_cons.mp hb with rfl | hb
        · exact .inl List.mem_cons_self
        · exact (hf b hb).imp (List.mem_cons_of_mem _) fun q z => q.1 ⟨n, by rw [hF]; exact List.mem_cons_of_mem _ z⟩
      have hp' : p ∉ fp' := fun z => by
        rcases h' p z with q | q
        · exact nn q
        · rcases List.mem_cons.mp q with q | q
          · exact npc q.symm
          · rcases hf p q with y | y
            · exact nn (sj p (List.mem_cons_of_mem _ y))
            · exact y.1 ⟨n, pf⟩
      refine ⟨_, a.write (x.mono fun b hb => by rw [hb, hF]; exact List.mem_cons_of_mem _ hpc) (same_upd' gc a.rel.sub) hn e1 (.l g (by rw [upd_ne npc.symm]; exact h) r' hp') fun b hb => ?_⟩
      rw [hF]
      rcases List.mem_cons.mp hb with rfl | hb
      · exact .inl List.mem_cons_self
      · rcases h' b hb with q | q
        · exact .inl (List.mem_cons_of_mem _ q)
        · rcases List.mem_cons.mp q with q | q
          · rw [q]; exact .inl (List.mem_cons_of_mem _ hpc)
          · exact (hf b q).imp (fun y => List.mem_cons_of_mem _ (sj b (List.mem_cons_of_mem _ y))) id
/-- the place of a child -/
def childI (n : Nat) (i : Opd) (s : Sg) : Option (Nat × List OD × List OD) := match s[n]? with
  | some (some (.l ods)) => match i.dat s with
    | some (.int k) => (ixN ods.length k).bind fun j => match ods[j]? with
      | some (.l ys) => some (j, ods, ys)
      | _ => none
    | _ => none
  | _ => none
theorem childI_some {n : Nat} {i : Opd} {s : Sg} {j : Nat} {ods ys : List OD} (h : childI n i s = some (j, ods, ys)) : s[n]? = some (some (.l ods)) ∧ ∃ k, i.dat s = some (.int k) ∧ ixN ods.length k = some j ∧ ods[j]? = some (.l ys) := by
  unfold childI at h
  split at h
  · rename_i ods' e1
    split at h
    · rename_i k e2
      obtain ⟨j', e3, h⟩ := Option.bind_eq_some_iff.mp h
      split at h
      · rename_i ys' e4
        cases h
        exact ⟨e1, k, e2, e3, e4⟩
      · cases h
    · cases h
  · cases h
/-- x[i][y] = e, y a slot -/
def fSt2 (n m : Nat) (fe fi : Sg → Res (Opd × Sg)) : Sg → Res Ou := fun sg => (fTk fe sg).bind fun a => match a.1 with
  | .v od => (fV n a.2).bind fun _ => (fi a.2).bind fun i => (fV m i.2).bind fun _ => (Res.of (childI n i.1 i.2)).bind fun c => match (Opd.i m).dat i.2 with
    | some (.int k) => (Res.of (ixN c.2.2.length k)).bind fun j2 => .ok (.nx (i.2.set n (some (.l (c.2.1.set c.1 (.l (c.2.2.set j2 od)))))))
    | _ => .stuck
  | .i _ => .stuck
section
variable {C : Ctx} {e ix : Expr} {fe fi : Sg → Res (Opd × Sg)} {pos p1 p2 p3 p4 : Pos}
theorem fV_ok {n : Nat} {s : Sg} {a : Opd × Sg} (h : fV n s = .ok a) : a = (.i n, s) := by
  unfold fV at h
  split at h
  · cases h; rfl
  · cases h
theorem ds_st2 (n m : Nat) {x y : Str} (h : DE C e fe) (hi : DE C ix fi) (hpl : PlainIx ix) (hN : C.N[n]? = some x) (hv : Vis C.sc x) (hN2 : C.N[m]? = some y) (hv2 : Vis C.sc y) (hd : (x == ("__debug__" : Str)) = false := by decide) (hcd : (x == ("__classdict__" : Str)) = false := by decide)
    (hd2 : (y == ("__debug__" : Str)) = false := by decide) (hcd2 : (y == ("__classdict__" : Str)) = false := by decide)
    (ha : ∀ env v, assign (.Subscript (.Subscript (.Name x p1) ix p2) (.Name y p3) p4) env v = (do
      let ov ← holding [v] (eval (.Subscript (.Name x p1) ix p2) env)
      let iv ← holding [v, ov] (eval (.Name y p3) env)
      standAt p4
      holding [v, ov, iv] (setItem ov iv v)
      release [v, ov, iv] []) := by intro _ _; rfl)
    (hs : ∀ env, swapsWithSole [.Subscript (.Subscript (.Name x p1) ix p2) (.Name y p3) p4] e pos.line env = pure false := by intro _; rfl) (hw : ∀ env, swappedStores [.Subscript (.Subscript (.Name x p1) ix p2) (.Name y p3) p4] e env = pure none := by intro _; rfl)
    (h1 : ∀ env, (assignEach [.Subscript (.Subscript (.Name x p1) ix p2) (.Name y p3) p4] env).map (·.2) = [assign (.Subscript (.Subscript (.Name x p1) ix p2) (.Name y p3) p4) env] := by intro _; rfl) : DS C (.Assign [.Subscript (.Subscript (.Name x p1) ix p2) (.Name y p3) p4] e pos) (fSt2 n m fe fi) := by
  intro X ok W tk sg
  refine ps_weak (ps_asg (de_tk h X ok.toOk W tk sg) (pg_sub (pe_ix ix_list (de_var n hN hv hd hcd X ok.toOk W tk (nxt (fTk fe sg))) (hi X ok.toOk W tk (nxt (fTk fe sg))) hpl) (pe_var (i := m) (by rw [ok.N]; exact hN2) (by rw [ok.sc]; exact hv2) hd2 hcd2) set_list (ha _)) (hs _) (hw _) (h1 _)) fun D σ H ⟨G, F, R, q⟩ =>
    RE.fst R (FG.mono q (fun _ e => e σ) fun _ z => z) fun o s1 v G1 H1 F1 fp e1 q1 a1 h1 => ?_
  rw [e1]
  cases o with
  | i m => exact q1.elim
  | v od =>
    refine RE.fst (C := C) (W := W) a1.rel (FG.mono q1 (fun _ e => e.later a1) fun _ z => z) fun o2 s2 v2 G2 H2 F2 fp2 e2 q2 a2 h2 => ?_
    cases fV_ok e2
    refine ⟨G2, F2, a2.rel, FG.bind q2 (fun _ e => e.later a2) fun i ei q3 iv G3 H3 F3 fp3 a3 h3 => ?_⟩
    obtain ⟨hn, hf⟩ := (h1.later a2).later a3
    have a13 := (a1.trans a2).trans a3
    cases e5 : fV m i.2 with
    | exc x => rw [e5] at q3; unfold fV at e5; split at e5 <;> cases e5
    | stuck => rw [e5] at q3; exact q3.elim
    | ok b =>
      rw [e5] at q3
      cases fV_ok e5
      obtain ⟨⟨j, ods, ys⟩, ec, q4⟩ := q3.of
      obtain ⟨es, k, ek, ej, ey⟩ := childI_some ec
      obtain ⟨p, vs, pc, ws, fc, L⟩ := a13.cslot es ey
      have z := (h2.later a3).opn
      have hv : v2 = .ref p := by
        cases z with
        | i z =>
          rw [L.sl] at z
          cases z
          rfl
      subst hv
      have ev := dp_int (h3.opn.dp a3.rel ek)
      subst ev
      cases ek2 : (Opd.i m).dat i.2 with
      | none => simp only [ek2] at q4; exact q4.elim
      | some k2 =>
        cases k2 with
        | int k2 =>
          simp only [ek2] at q4
          obtain ⟨j2, ej2, q5⟩ := q4.of
          unfold Opd.dat at ek2
          obtain ⟨odm, eo, ed⟩ := Option.bind_eq_some_iff.mp ek2
          obtain ⟨y1, y2, vm, y3, wm⟩ := slot_of a13.rel eo
          have em := dp_int (wm.dp a13.rel.sub ed)
          subst em
          cases hn with
          | v w nf =>
            obtain ⟨fc', w', hf'⟩ := L.own.setV w (fun b hb z => nf b hb ⟨n, L.inF b z⟩) j2
            obtain ⟨F', st⟩ := L.set _ _ _ w' fun b hb => (hf' b hb).imp id fun z => ⟨nf b z, hf b z⟩
            refine ⟨p, vs, k, .ref pc, rfl, rfl, by rw [ok.K]; exact SqL.of L.hp, ?_, .int k2, y3, pc, ws, k2, j2, rfl, rfl, L.hc, by rw [L.own.length]; exact ej2, q5 σ _ _ _ st (Keeps.refl C σ)⟩
            unfold atI
            rw [L.len, ej]
            exact L.at_
        | _ => simp only [ek2] at q4; exact q4.elim
end

/-! ### dicts made -/
section
variable {C : Ctx} {pos : Pos}
theorem okE.dict {K : PySem.W.Frag} {G0 H0 G H : Hp} {F0 F : Ft} {σ : St} {Q : VK} {sg : Sg} {t : Bool} {kvs : List (PyData × V)} {mk : List (PyData × PyData)} {o : HO} {p : Addr} (h : okE K G0 H0 F0 σ Q (.v (.m t (mk.map fun q => (q.1, .f q.2))), sg)) (a : At K G0 H0 F0 sg σ G H F) (hd : HD t o kvs)
    (hv : IsAll G (kvs.map Prod.snd) (mk.map Prod.snd)) (hk : kvs.map Prod.fst = mk.map Prod.fst) (hp : H p = none) : Q (.ref p) (upd H p o) := by
  have a2 := At.pushH o a.rel hp
  have e1 : (mk.map fun q => (q.1, OD.f q.2)).map Prod.snd = (mk.map Prod.snd).map .f := by rw [List.map_map, List.map_map]; rfl
  have e2 : (mk.map fun q => (q.1, OD.f q.2)).map Prod.fst = mk.map Prod.fst := by rw [List.map_map]; rfl
  refine h _ _ _ _ [p] (a.trans a2) ⟨.v (.m (gnone a.rel.sub hp) upd_same hd (by rw [e1]; exact ownAll_f hv) (by simp) (by rw [e2]; exact hk)) fun b hb z => ?_, fun b hb => ?_⟩
  · rw [List.mem_singleton.mp hb] at z
    exact fresh_foot a.rel hp z
  · rw [List.mem_singleton.mp hb]
    exact .inr (a.ext.fresh hp)
def fDict0 (t : Bool) : Sg → Res (Opd × Sg) := fun sg => .ok (.v (.m t []), sg)
theorem de_dict0 (t : Bool) : DE C (.Dict [] [] pos) (fDict0 t) := by
  intro X ok W tk sg
  cases t with
  | false => exact pe_weak pe_dnewK fun σ H Q ⟨G, F, R, q⟩ p hp => okE.dict (mk := []) (kvs := []) q (.refl R) (.k []) .nil rfl hp
  | true => exact pe_weak pe_dnewT fun σ H Q ⟨G, F, R, q⟩ p hp => okE.dict (mk := []) (kvs := []) q (.refl R) (.t []) .nil rfl hp
/-- {k: v}, of frozen data -/
def fDict1 (fk fv : Sg → Res (Opd × Sg)) : Sg → Res (Opd × Sg) := fun sg => (fTk fk sg).bind fun a => (fTk fv a.2).bind fun b => match a.1, b.1 with
  | .v (.f k), .v (.f v) => (guardR (keyF k)).bind fun _ => .ok (.v (.m false [(k, .f v)]), b.2)
  | _, _ => .stuck
theorem de_dict1 {a b : Expr} {fk fv : Sg → Res (Opd × Sg)} (ha : DE C a fk) (hb : DE C b fv) : DE C (.Dict [some a] [b] pos) (fDict1 fk fv) := by
  intro X ok W tk sg
  refine pe_weak (pe_disp (pps_cons (de_tk ha X ok W tk sg) (de_tk hb X ok W tk (nxt (fTk fk sg))) pps_nil) rfl rfl (fun z => by cases z) (Nat.le_add_left 1 14)) fun σ H Q ⟨G, F, R, q⟩ p hp => ?_
  have a0 := At.pushH (.dK []) R hp
  have fp0 := fresh_foot R hp
  refine ⟨G, F, a0.rel, FG.bind (FG.mono q (fun _ e => e.later a0) fun _ z => z) (fun _ e => e) fun x ex q1 v1 G1 H1 F1 f1 a1 h1 => ?_⟩
  rw [ex]
  refine ⟨G1, F1, a1.rel, FG.bind q1 (fun _ e => e.later a1) fun y ey q2 v2 G2 H2 F2 f2 a2 h2 => ?_⟩
  obtain ⟨x, s1⟩ := x
  obtain ⟨y, s2⟩ := y
  dsimp only at q2
  split at q2
  · rename_i k v
    obtain ⟨gk, q3⟩ := q2.guard
    have g1 := (h1.later a2).opn
    have g2 := h2.opn
    cases g1 with
    | v w1 _ =>
      cases w1 with
      | f w1 =>
        cases g2 with
        | v w2 _ =>
          cases w2 with
          | f w2 =>
            obtain ⟨k', rfl, rfl⟩ := key_of w1 gk
            have b1 := a1.ext.keep _ _ (upd_same (H := H) (a := p) (o := HO.dK [])) fp0
            have nf1 : ¬ foot F1 p := fun z => (a1.sub p z).elim fp0 fun q => by rw [upd_same] at q; cases q
            have b2 := a2.ext.keep _ _ b1 nf1
            refine ⟨b2, [(k', v2)], rfl, Nat.le_add_left 1 14, ?_⟩
            have a3 := a1.trans a2
            have nf2 : ¬ foot F2 p := fun z => (a3.sub p z).elim fp0 fun q => by rw [upd_same] at q; cases q
            have gp : G2 p = none := a3.ext.gfree (gnone R.sub hp) upd_same fp0 (fun _ z => by cases z)
            have x3 : Ext (· = p) G2 H2 G2 (upd H2 p (.dK (mergeK [] [(k', v2)]))) := ext_upd b2 rfl
            refine q3 (.ref p) G2 _ F2 [p] ⟨⟨a3.ext.gg, fun c u e n => ?_, fun c u e => ?_, fun c u e => ?_⟩, a3.rel.ext x3 (same_upd' gp a3.rel.sub) (fun c hc z => nf2 (by rw [← z]; exact hc)), fun c hc => ?_⟩
              ⟨.v (.m (kvs := [(kD k', v2)]) gp upd_same (.k [(k', v2)]) (.cons (f1 := []) (f2 := []) (.f w2) .nil (fun _ z => by cases z)) (fun z => by cases z) rfl) fun c hc z => nf2 (by rw [← List.mem_singleton.mp hc]; exact z), fun c hc => ?_⟩
            · have hc : c ≠ p := fun z => by rw [z, hp] at e; cases e
              rw [upd_ne hc]
              exact a3.ext.keep _ _ (by rw [upd_ne hc]; exact e) n
            · have hc : c ≠ p := fun z => by rw [z, hp] at e; cases e
              obtain ⟨o', e'⟩ := a3.ext.there c u (by rw [upd_ne hc]; exact e)
              exact ⟨o', by rw [upd_ne hc]; exact e'⟩
            · rcases a3.ext.gnew c u e with z | z | z | ⟨xs, z⟩
              · exact .inl z
              · exact .inr (.inl z)
              · have hc : c ≠ p := fun y => by rw [y, upd_same] at z; cases z
                rw [upd_ne hc] at z
                exact .inr (.inr (.inl z))
              · have hc : c ≠ p := fun y => by rw [y, upd_same] at z; cases z
                rw [upd_ne hc] at z
                exact .inr (.inr (.inr ⟨xs, z⟩))
            · rcases a3.sub c hc with z | z
              · exact .inl z
              · have hc : c ≠ p := fun y => by rw [y, upd_same] at z; cases z
                rw [upd_ne hc] at z
                exact .inr z
            · rw [List.mem_singleton.mp hc]
              exact .inr hp
  · exact q2.elim
end
end DL
set_option Elab.async false
set_option linter.all false
set_option maxRecDepth 100000
set_option maxHeartbeats 4000000
namespace DL
open PySem PySem.Spec PyProof.Rows L2

/-! ### sorted, min of lists of data -/
open Classical in
noncomputable def guardP (p : Prop) : Res Unit := if p then .ok () else .stuck
theorem guardP_true {p : Prop} (h : p) : guardP p = .ok () := if_pos h
theorem FG.guardP {β : Type} {E : XD → Prop} {p : β → Prop} {b : Prop} {k : Unit → Res β} (h : FG E p ((DL.guardP b).bind k)) : b ∧ FG E p (k ()) := by
  unfold DL.guardP at h
  by_cases e : b
  · rw [if_pos e] at h; exact ⟨e, h⟩
  · rw [if_neg e] at h; exact h.elim
structure SortOk (ds : List PyData) : Prop where
  al : PySem.W.AllAlike ds
  so : PySem.W.Sortable ds
  dp : ∀ d ∈ ds, d.depth ≤ 50
  few : ds.length < 1000000
abbrev sortD (ds : List PyData) : List PyData := ds.mergeSort (PySem.W.dataLe false fun d => d)
theorem each_zip {K : PySem.W.Frag} {H : Hp} {h : Heap} : ∀ {vs : List V} {us : List Value} {ds : List PyData} {as : List Addr}, Vals vs us → ReadsAll h us ds as → vs.length = ds.length → PySem.W.EachIs (fun u (b : V × PyData) => RelV b.1 u) us (vs.zip ds) ∧ PySem.W.EachIs (fun u (b : V × PyData) => ∃ as, Reads h u b.2 as) us (vs.zip ds)
  | _, _, [], _, .nil, _, _ => ⟨.nil, .nil⟩
  | _, _, d :: ds, _, .cons r rr, .cons a b, hl => by
    obtain ⟨h1, h2⟩ := each_zip (K := K) (H := H) rr b (Nat.succ.inj hl)
    exact ⟨.cons r h1, .cons ⟨_, a⟩ h2⟩
theorem vals_each : ∀ {out : List Value} {bs : List (V × PyData)}, PySem.W.EachIs (fun u (b : V × PyData) => RelV b.1 u) out bs → Vals (bs.map Prod.fst) out
  | _, _, .nil => .nil
  | _, _, .cons r rr => .cons r (vals_each rr)
def rSortG (K : PySem.W.Frag) : List V → Hp → VK → Prop := fun xs H Q => ∃ (a : Addr) (vs : List V) (ds : List PyData), xs = [.ref a] ∧ SqL K H a vs ∧ DpAll K H vs ds ∧ vs.length = ds.length ∧ SortOk ds ∧
  ∀ p, H p = none → Q (.ref p) (upd H p (.lst (((vs.zip ds).mergeSort (PySem.W.dataLe false Prod.snd)).map Prod.fst)))
theorem cr_sortG {C : Ctx} {X : Cx} (ok : C.Ok X) : CallR X (.builtin "sorted") (rSortG X.K) := by
  intro pins s σ H xs us Q I r h
  obtain ⟨a, vs, ds, rfl, hq, hd, hl, so, q⟩ := h
  obtain ⟨u, rfl, ru⟩ := Vals.one r
  cases ru
  obtain ⟨its, rv, pl, hz⟩ := I.list hq
  obtain ⟨as, rs⟩ := Dp.readsAll I ds vs its hd rv
  obtain ⟨e1, e2⟩ := each_zip (K := X.K) (H := H) rv rs hl
  have hm : (vs.zip ds).map Prod.snd = ds := List.map_snd_zip (by omega)
  have hln : (vs.zip ds).length = ds.length := by rw [List.length_zip, hl, Nat.min_self]
  refine PySem.W.sorted_data (vs := its) (bs := vs.zip ds) (enc := Prod.snd) pl.isList e1 e2 (by rw [hm]; exact so.al) (by rw [hm]; exact so.so) (by rw [hln]; exact Nat.le_of_lt (Nat.lt_of_lt_of_le so.few (by rw [sizeLine_eq]; decide))) (fun b hb => ?_) fun out ho eo => ?_
  · have hb' : b.2 ∈ ds := by rw [← hm]; exact List.mem_map_of_mem hb
    have := so.dp b.2 hb'
    have := ok.room.un
    omega
  · obtain ⟨e, he⟩ := PyProof.Rows.sortedAll_at s.heap its out.toArray
    refine ⟨.ref (s.heap.objs.size + 1), _, I.laid (a := s.heap.objs.size + 1) (o := .lst (((vs.zip ds).mergeSort (PySem.W.dataLe false Prod.snd)).map Prod.fst)) (t' := s.toks) (fun b o q => PyProof.Rows.sortedAll_old q) (Nat.le_succ _) ?_, rfl, q _ (I.hok.fresh (Nat.le_succ _))⟩
    refine ⟨?_, out, e, vals_each eo, he⟩
    rw [List.length_map, List.length_mergeSort, hln]
    exact Nat.le_of_lt (Nat.lt_of_lt_of_le so.few (by rw [sizeLine_eq]; decide))
theorem isAll_sort {G : Hp} {vs : List V} {ds : List PyData} (h : IsAll G vs ds) : IsAll G (((vs.zip ds).mergeSort (PySem.W.dataLe false Prod.snd)).map Prod.fst) (sortD ds) := by
  have e : sortD ds = ((vs.zip ds).mergeSort (PySem.W.dataLe false Prod.snd)).map Prod.snd := by
    rw [List.map_mergeSort (r := PySem.W.dataLe false Prod.snd) (s := PySem.W.dataLe false fun d => d) (f := Prod.snd) (fun _ _ _ _ => rfl), List.map_snd_zip (by rw [h.length]; exact Nat.le_refl _)]
  rw [e]
  have key : ∀ bs : List (V × PyData), (∀ b ∈ bs, Is G b.1 b.2) → IsAll G (bs.map Prod.fst) (bs.map Prod.snd) := fun bs => by
    induction bs with
    | nil => exact fun _ => .nil
    | cons b bs ih => exact fun k => .cons (k b List.mem_cons_self) (ih fun c hc => k c (List.mem_cons_of_mem _ hc))
  refine key _ fun b hb => ?_
  have hb := List.mem_mergeSort.mp hb
  obtain ⟨i, hi⟩ := List.getElem?_of_mem hb
  rw [List.getElem?_zip_eq_some] at hi
  exact h.getI hi.1 hi.2
noncomputable def sortK (os : List Opd) (s : Sg) : Res (Opd × Sg) := match os with
  | [o] => (Res.of ((o.od s).bind OD.kid)).bind fun ds => (guardP (SortOk ds)).bind fun _ => .ok (.v (.l ((sortD ds).map .f)), s)
  | _ => .stuck
section
variable {C : Ctx} {fa fb : Sg → Res (Opd × Sg)} {p p2 pos : Pos}
theorem de_sorted (hb : Bi C "sorted") {e : Expr} (ha : DE C e fa) (he : ∀ env, starEach [e] env = [(false, eval e env)] := by intro _; rfl) : DE C (.Call (.Name "sorted" p) [e] [] pos) (fArgs (fCons fa fNil) sortK) :=
  de_callB (r := fun X => rSortG X.K) hb.1 hb.2 (by decide +kernel) (fun X ok => cr_sortG ok) (da_cons ha da_nil he) (fun X ok E σ G0 H0 F0 Q os s vs G H F fp a hv q => by
      unfold sortK at q
      split at q
      · rename_i o
        obtain ⟨v, f1, rfl, h⟩ := hv.one
        obtain ⟨ds, ek, q⟩ := q.of
        obtain ⟨so, q⟩ := q.guardP
        obtain ⟨od, eo, ek⟩ := Option.bind_eq_some_iff.mp ek
        obtain ⟨_, w⟩ := h.opn.own a.rel eo
        obtain ⟨a', vs, rfl, hs, r⟩ := w.kid a.rel.sub ek
        exact ⟨a', vs, ds, rfl, SqL.of hs, by rw [ok.K]; exact (r.same a.rel.sub).dp, r.length, so, fun l hl => okE.lst q a (isAll_sort r) hl⟩
      · exact q.elim) (by decide) (by decide) he (by intro _; rfl)
/-- min of a list of data -/
structure MinOk (ds : List PyData) : Prop where
  al : PySem.W.AlikeAll ds
  dp : PyData.depthAll ds ≤ 50
def rMinG (K : PySem.W.Frag) : List V → Hp → VK → Prop := fun xs H Q => ∃ (a : Addr) (vs : List V) (x : PyData) (ds : List PyData), xs = [.ref a] ∧ SqL K H a vs ∧ DpAll K H vs (x :: ds) ∧ MinOk (x :: ds) ∧ ∀ (i : Nat) (v : V), vs[i]? = some v → (x :: ds)[i]? = some (PySem.W.minD x ds) → Q v H
theorem readsAll_get {h : Heap} : ∀ {us : List Value} {ds : List PyData} {as : List Addr}, ReadsAll h us ds as → ∀ {i : Nat} {u : Value}, us[i]? = some u → ∃ d as, ds[i]? = some d ∧ Reads h u d as
  | _, _, _, .nil, i, u, e => by simp at e
  | _, _, _, .cons a b, 0, u, e => by cases e; exact ⟨_, _, rfl, a⟩
  | _, _, _, .cons a b, i + 1, u, e => readsAll_get b (i := i) (by simpa using e)
theorem vals_getU : ∀ {vs : List V} {us : List Value}, Vals vs us → ∀ {i : Nat} {u : Value}, us[i]? = some u → ∃ v, vs[i]? = some v ∧ RelV v u
  | _, _, .nil, i, u, e => by simp at e
  | _, _, .cons a b, 0, u, e => by cases e; exact ⟨_, rfl, a⟩
  | _, _, .cons a b, i + 1, u, e => vals_getU b (i := i) (by simpa using e)
theorem cr_minG {C : Ctx} {X : Cx} (ok : C.Ok X) : CallR X (.builtin "min") (rMinG X.K) := by
  intro pins s σ H xs us Q I r h
  obtain ⟨a, vs, x, ds, rfl, hq, hd, mo, q⟩ := h
  obtain ⟨u, rfl, ru⟩ := Vals.one r
  cases ru
  obtain ⟨its, rv, pl, hz⟩ := I.list hq
  obtain ⟨as, rs⟩ := Dp.readsAll I _ vs its hd rv
  refine PySem.W.min_list_data (I.ok.hd ok.calm) pl.isList (by simpa using rs) mo.al (room_of1 ok mo.dp) fun i u h' tk bs hu hr k => ?_
  have hu : its[i]? = some u := by simpa using hu
  obtain ⟨v, hv, rvu⟩ := vals_getU rv hu
  obtain ⟨d, as', hd', r'⟩ := readsAll_get rs hu
  have e := ((PySem.W.reads_keeps k r').unique _ _ hr).1
  rw [e] at hd'
  exact ⟨v, H, I.kept (t' := tk) k, rvu, q i v hv hd'⟩
noncomputable def minK (os : List Opd) (s : Sg) : Res (Opd × Sg) := match os with
  | [o] => (Res.of ((o.od s).bind OD.kid)).bind fun ds => match ds with
    | x :: xs => (guardP (MinOk (x :: xs))).bind fun _ => .ok (.v (.f (PySem.W.minD x xs)), s)
    | [] => .stuck
  | _ => .stuck
theorem de_min (hb : Bi C "min") {e : Expr} (ha : DE C e fa) (he : ∀ env, starEach [e] env = [(false, eval e env)] := by intro _; rfl) : DE C (.Call (.Name "min" p) [e] [] pos) (fArgs (fCons fa fNil) minK) :=
  de_callB (r := fun X => rMinG X.K) hb.1 hb.2 (by decide +kernel) (fun X ok => cr_minG ok) (da_cons ha da_nil he) (fun X ok E σ G0 H0 F0 Q os s vs G H F fp a hv q => by
      unfold minK at q
      split at q
      · rename_i o
        obtain ⟨v, f1, rfl, h⟩ := hv.one
        obtain ⟨ds, ek, q⟩ := q.of
        obtain ⟨od, eo, ek⟩ := Option.bind_eq_some_iff.mp ek
        obtain ⟨_, w⟩ := h.opn.own a.rel eo
        obtain ⟨a', vs, rfl, hs, r⟩ := w.kid a.rel.sub ek
        cases ds with
        | nil => exact q.elim
        | cons x xs =>
          obtain ⟨mo, q⟩ := q.guardP
          exact ⟨a', vs, x, xs, rfl, SqL.of hs, by rw [ok.K]; exact (r.same a.rel.sub).dp, mo, fun i v hi hd => okE.fro q a (r.getI hi hd)⟩
      · exact q.elim) (by decide) (by decide) he (by intro _; rfl)
/-- int(b), int(i) -/
def intC (os : List Opd) (s : Sg) : Res (Opd × Sg) := match os with
  | [o] => match o.dat s with
    | some (.int i) => .ok (.v (.f (.int i)), s)
    | some (.bool b) => .ok (.v (.f (.int (if b = true then 1 else 0))), s)
    | _ => .stuck
  | _ => .stuck
theorem de_int1 (hb : Bi C "int") {e : Expr} (ha : DE C e fa) (he : ∀ env, starEach [e] env = [(false, eval e env)] := by intro _; rfl) : DE C (.Call (.Name "int" p) [e] [] pos) (fArgs (fCons fa fNil) intC) :=
  de_callTy (r := fun X xs H Q => (∃ i, xs = [.int i] ∧ Q (.int i) H) ∨ ∃ k, xs = [.bl k] ∧ Q (.int (if k then 1 else 0)) H) hb.1 hb.2 (by decide +kernel) (fun X ok => call_int1) (da_cons ha da_nil he) (fun X ok E σ G0 H0 F0 Q os s vs G H F fp a hv q => by
      unfold intC at q
      split at q
      · rename_i o
        obtain ⟨v, f1, rfl, h⟩ := hv.one
        split at q
        · rename_i i eo
          exact .inl ⟨i, by rw [dp_int (h.opn.dp a.rel eo)], okE.fro q a (.int _)⟩
        · rename_i b eo
          exact .inr ⟨b, by rw [dp_bool (h.opn.dp a.rel eo)], okE.fro q a (.int _)⟩
        · exact q.elim
      · exact q.elim) (by decide) (by decide) he (by intro _; rfl)
/-! sorted(d), dict(d): dicts by whole numbers -/
def isIntD : PyData → Option Int
  | .int i => some i
  | _ => none
def allInt : List PyData → Option (List Int)
  | [] => some []
  | .int i :: r => (allInt r).map (i :: ·)
  | _ :: _ => none
def sortI (ns : List Int) : List Int := ns.mergeSort fun a b => decide (a ≤ b)
theorem sortI_eq {ns ys : List Int} (h : ys.Perm ns) (s : ys.Pairwise (· ≤ ·)) : ys = sortI ns := by
  have p2 : (sortI ns).Pairwise (· ≤ ·) := (List.pairwise_mergeSort (le := fun a b : Int => decide (a ≤ b)) (fun a b c h1 h2 => by simp only [decide_eq_true_eq] at *; omega) (fun a b => by simp only [Bool.or_eq_true, decide_eq_true_eq]; omega) ns).imp fun h => of_decide_eq_true h
  exact List.Perm.eq_of_pairwise (fun a b _ _ h1 h2 => Int.le_antisymm h1 h2) s p2 (h.trans (List.mergeSort_perm ns _).symm)
theorem allInt_dK {l : List (Key × V)} {α : Type} {mk : List (PyData × α)} (h : (l.map fun p => (kD p.1, p.2)).map Prod.fst = mk.map Prod.fst) {ns : List Int} (e : allInt (mk.map Prod.fst) = some ns) : l.map (·.1) = ns.map Sum.inl := by
  rw [← h] at e
  clear h
  induction l generalizing ns with
  | nil => cases e; rfl
  | cons p l ih =>
    cases p with
    | mk k v =>
      cases k with
      | inr x => cases e
      | inl i =>
        obtain ⟨r, e1, rfl⟩ := Option.map_eq_some_iff.mp (show (allInt ((l.map fun p => (kD p.1, p.2)).map Prod.fst)).map (i :: ·) = some ns from e)
        rw [List.map_cons, List.map_cons, ih e1]
/-- the pairs of a dict by whole numbers or texts -/
def OD.dkv : OD → Option (List PyData)
  | .m false kvs => some (kvs.map Prod.fst)
  | .g false kvs => some (kvs.map Prod.fst)
  | _ => none
theorem Own.dkv {K : PySem.W.Frag} {G H : Hp} {v : V} {od : OD} {fp : List Addr} (s : Same G H) (w : Own K G H v od fp) {ks : List PyData} (e : od.dkv = some ks) : ∃ a l, v = .ref a ∧ Rd H a (.dK l) ∧ (l.map fun p => (kD p.1, p.2)).map Prod.fst = ks := by
  cases w with
  | m h1 h2 h3 h4 h5 h6 =>
    cases h3 with
    | k l => cases e; exact ⟨_, l, rfl, .inl h2, h6⟩
    | t l => cases e
  | g h1 h2 h3 h4 =>
    cases h2 with
    | k l => cases e; exact ⟨_, l, rfl, .inr ⟨_, s _ _ h1⟩, h4⟩
    | t l => cases e
  | _ => cases e
def sortDK (os : List Opd) (s : Sg) : Res (Opd × Sg) := match os with
  | [o] => (Res.of (((o.od s).bind OD.dkv).bind allInt)).bind fun ns => (guardR (decide (ns.length < 64))).bind fun _ => .ok (.v (.l (((sortI ns).map PyData.int).map .f)), s)
  | _ => .stuck
theorem isAll_int {G : Hp} : ∀ ns : List Int, IsAll G (ns.map V.int) (ns.map PyData.int)
  | [] => .nil
  | n :: r => .cons (.int n) (isAll_int r)
theorem de_sortedD (hb : Bi C "sorted") {e : Expr} (ha : DE C e fa) (he : ∀ env, starEach [e] env = [(false, eval e env)] := by intro _; rfl) : DE C (.Call (.Name "sorted" p) [e] [] pos) (fArgs (fCons fa fNil) sortDK) :=
  de_callB (r := fun X xs H Q => ∃ (a : Addr) (kvs : List (Key × V)) (ks : List Int), xs = [.ref a] ∧ Rd H a (.dK kvs) ∧ kvs.map (·.1) = ks.map Sum.inl ∧ ks.length < 64 ∧ ∀ (ys : List Int) (p : Addr), ys.Perm ks → ys.Pairwise (· ≤ ·) → H p = none → Q (.ref p) (upd H p (.lst (ys.map V.int)))) hb.1 hb.2 (by decide +kernel) (fun X ok => call_sortedDI ok.calm) (da_cons ha da_nil he) (fun X ok E σ G0 H0 F0 Q os s vs G H F fp a hv q => by
      unfold sortDK at q
      split at q
      · rename_i o
        obtain ⟨v, f1, rfl, h⟩ := hv.one
        obtain ⟨ns, en, q⟩ := q.of
        obtain ⟨g, q⟩ := q.guard
        obtain ⟨ks, ek, en⟩ := Option.bind_eq_some_iff.mp en
        obtain ⟨od, eo, ek⟩ := Option.bind_eq_some_iff.mp ek
        obtain ⟨_, w⟩ := h.opn.own a.rel eo
        obtain ⟨a', l, rfl, hr, hk⟩ := w.dkv a.rel.sub ek
        refine ⟨a', l, ns, rfl, hr, allInt_dK (mk := ks.map fun k => (k, ())) (by rw [hk, List.map_map]; exact (List.map_id' ks).symm) (by rw [List.map_map]; exact (congrArg allInt (List.map_id' ks)).trans en), of_decide_eq_true g, fun ys p hp hs hn => ?_⟩
        rw [sortI_eq hp hs]
        exact okE.lst q a (isAll_int _) hn
      · exact q.elim) (by decide) (by decide) he (by intro _; rfl)
/-- dict(d), all its items frozen -/
def OD.dcp : OD → Option (List (PyData × PyData))
  | .m false kvs => (frsO (kvs.map Prod.snd)).map fun ds => (kvs.map Prod.fst).zip ds
  | .g false kvs => some kvs
  | _ => none
def dictK (os : List Opd) (s : Sg) : Res (Opd × Sg) := match os with
  | [o] => (Res.of ((o.od s).bind OD.dcp)).bind fun kvs => .ok (.v (.m false (kvs.map fun q => (q.1, .f q.2))), s)
  | _ => .stuck
theorem Own.dcp {K : PySem.W.Frag} {G H : Hp} {v : V} {od : OD} {fp : List Addr} (s : Same G H) (w : Own K G H v od fp) {mk : List (PyData × PyData)} (e : od.dcp = some mk) : ∃ a l, v = .ref a ∧ Rd H a (.dK l) ∧ (l.map fun p => (kD p.1, p.2)).map Prod.fst = mk.map Prod.fst ∧ IsAll G ((l.map fun p => (kD p.1, p.2)).map Prod.snd) (mk.map Prod.snd) := by
  cases w with
  | @m _ _ _ _ mo _ h1 h2 h3 h4 h5 h6 =>
    cases h3 with
    | k l =>
      obtain ⟨ds, e1, rfl⟩ := Option.map_eq_some_iff.mp (show (frsO (mo.map Prod.snd)).map (fun ds => (mo.map Prod.fst).zip ds) = some mk from e)
      have r := h4.frs e1
      have hl : (mo.map Prod.fst).length = ds.length := by
        rw [← h6, ← r.length]; simp
      refine ⟨_, l, rfl, .inl h2, ?_, ?_⟩
      · rw [List.map_fst_zip (by omega)]; exact h6
      · rw [List.map_snd_zip (by omega)]; exact r
    | t l => cases e
  | g h1 h2 h3 h4 =>
    cases h2 with
    | k l => cases e; exact ⟨_, l, rfl, .inr ⟨_, s _ _ h1⟩, h4, h3⟩
    | t l => cases e
  | _ => cases e
theorem de_dictC (hb : Bi C "dict") {e : Expr} (ha : DE C e fa) (he : ∀ env, starEach [e] env = [(false, eval e env)] := by intro _; rfl) : DE C (.Call (.Name "dict" p) [e] [] pos) (fArgs (fCons fa fNil) dictK) :=
  de_callTy (r := fun X xs H Q => ∃ (a : Addr) (kvs : List (Key × V)), xs = [.ref a] ∧ Rd H a (.dK kvs) ∧ ∀ p, H p = none → Q (.ref p) (upd H p (.dK kvs))) hb.1 hb.2 (by decide +kernel) (fun X ok => call_dictD) (da_cons ha da_nil he) (fun X ok E σ G0 H0 F0 Q os s vs G H F fp a hv q => by
      unfold dictK at q
      split at q
      · rename_i o
        obtain ⟨v, f1, rfl, h⟩ := hv.one
        obtain ⟨mk, em, q⟩ := q.of
        obtain ⟨od, eo, em⟩ := Option.bind_eq_some_iff.mp em
        obtain ⟨_, w⟩ := h.opn.own a.rel eo
        obtain ⟨a', l, rfl, hr, hk, hv⟩ := w.dcp a.rel.sub em
        exact ⟨a', l, rfl, hr, fun p hp => okE.dict q a (.k l) hv hk hp⟩
      · exact q.elim) (by decide) (by decide) he (by intro _; rfl)
end
end DL
set_option Elab.async false
set_option linter.all false
set_option maxRecDepth 100000
set_option maxHeartbeats 4000000
namespace DL
open PySem PySem.Spec PyProof.Rows L2

section
variable {C : Ctx} {e : Expr} {fa : Sg → Res (Opd × Sg)} {p pos : Pos}
def fNeg (f : Sg → Res (Opd × Sg)) : Sg → Res (Opd × Sg) := fun sg => (f sg).bind fun a => match a.1.dat a.2 with
  | some (.int i) => .ok (.v (.f (.int (-i))), a.2)
  | _ => .stuck
theorem de_neg (h : DE C e fa) : DE C (.UnaryOp .USub e pos) (fNeg fa) := by
  intro X ok W tk sg
  refine pe_weak (pe_un un_neg (h X ok W tk sg)) fun σ H Q ⟨G, F, R, q⟩ => ⟨G, F, R, FG.bind q (fun _ e => e) fun a ea q' v G' H' F' fp at' hv => ?_⟩
  split at q'
  · rename_i i ei
    exact ⟨i, dp_int (hv.opn.dp at'.rel ei), okE.fro q' at' (.int _)⟩
  · exact q'.elim
/-- all(bools) -/
def allBl : List PyData → Option (List Bool)
  | [] => some []
  | .bool b :: r => (allBl r).map (b :: ·)
  | _ :: _ => none
theorem isAll_bl {G : Hp} : ∀ {vs : List V} {ds : List PyData}, IsAll G vs ds → ∀ {bs : List Bool}, allBl ds = some bs → vs = bs.map V.bl
  | _, _, .nil, bs, e => by cases e; rfl
  | _, _, .cons (d := d) a r, bs, e => by
    cases a with
    | bl b =>
      obtain ⟨bs', e1, rfl⟩ := Option.map_eq_some_iff.mp (show (allBl _).map (b :: ·) = some bs from e)
      rw [isAll_bl r e1]
      rfl
    | _ => cases e
def allK (os : List Opd) (s : Sg) : Res (Opd × Sg) := match os with
  | [o] => (Res.of (((o.od s).bind OD.kid).bind allBl)).bind fun bs => .ok (.v (.f (.bool (bs.all id))), s)
  | _ => .stuck
theorem de_all (hb : Bi C "all") {e : Expr} (ha : DE C e fa) (he : ∀ env, starEach [e] env = [(false, eval e env)] := by intro _; rfl) : DE C (.Call (.Name "all" p) [e] [] pos) (fArgs (fCons fa fNil) allK) :=
  de_callB (r := fun X => rAll X.K) hb.1 hb.2 (by decide +kernel) (fun X ok => cr_all ok.calm) (da_cons ha da_nil he) (fun X ok E σ G0 H0 F0 Q os s vs G H F fp a hv q => by
      unfold allK at q
      split at q
      · rename_i o
        obtain ⟨v, f1, rfl, h⟩ := hv.one
        obtain ⟨bs, eb, q⟩ := q.of
        obtain ⟨ds, ek, eb⟩ := Option.bind_eq_some_iff.mp eb
        obtain ⟨od, eo, ek⟩ := Option.bind_eq_some_iff.mp ek
        obtain ⟨_, w⟩ := h.opn.own a.rel eo
        obtain ⟨a', vs, rfl, hs, r⟩ := w.kid a.rel.sub ek
        rw [isAll_bl r eb] at hs
        exact ⟨a', bs, rfl, SqL.of hs, okE.fro q a (.bl _)⟩
      · exact q.elim) (by decide) (by decide) he (by intro _; rfl)
end
theorem sw_false {elt : Expr} {gs : List Comprehension} {scope : Scope} {pos py : Pos} {y : Str} {l : Nat} {env : Env} (h : env.scope.names.lookup y = some .cell ∨ (scope.names.any fun (n, k) => n == y && (k == .local || k == .cell)) = true) : swapsWith (.ListComp elt gs scope pos) (some (.Name y py)) l env = pure false := by
  unfold swapsWith
  rcases h with h | h
  · have ky : env.kindOf y = some .cell := h
    simp only [ky]
    show pure (((env.blockKind == ScopeKind.function && false) && py.line == (Expr.ListComp elt gs scope pos).pos.line) && !scope.names.any fun x => x.fst == y && (x.snd == NameKind.local || x.snd == NameKind.cell)) = pure false
    simp
  · simp only [h]
    simp
section
variable {C : Ctx} {elt : Expr} {gs : List Comprehension} {scope : Scope} {pos py spos : Pos} {y : Str} {f : Sg → Res (Opd × Sg)}
theorem ds_setCompN (i : Nat) (h : DE C (.ListComp elt gs scope pos) f) (hN : C.N[i]? = some y) (hx : Loc C.sc y) (hio : C.io = false ∨ i ≠ 0) (hf : C.fn y = true) (hs : C.sc.names.lookup y = some .cell ∨ (scope.names.any fun (n, k) => n == y && (k == .local || k == .cell)) = true) : DS C (.Assign [.Name y py] (.ListComp elt gs scope pos) spos) (fSet i f) := by
  intro X ok W tk sg
  refine ps_weak (ps_set (by rw [ok.N]; exact ok.nd) (i := i) (by rw [ok.N]; exact hN) (by rw [ok.sc]; exact hx) (de_tk h X ok.toOk W tk sg) (sw_false (by rw [ok.sc]; exact hs)) (.inl (ok.fn y hf))) fun D σ H ⟨G, F, R, q⟩ => ⟨G, F, R, FG.bind q (fun _ e => e σ) fun a ea q' v G' H' F' fp at' hv => ?_⟩
  obtain ⟨o, s1⟩ := a
  cases o with
  | i n => exact q'.elim
  | v od =>
    obtain ⟨g, q1⟩ := q'.guard
    obtain ⟨hn, hf⟩ := hv
    cases hn with
    | v w n => exact q1 (σ.set i (some v)) G' H' _ (at'.assign (of_decide_eq_true g) w n hf) (keeps_set hio)
end
/-! argument lists have their lengths -/
def LenA (g : Sg → Res (List Opd × Sg)) (n : Nat) : Prop := ∀ sg a, g sg = .ok a → a.1.length = n
theorem lenA_nil : LenA fNil 0 := fun sg a h => by cases h; rfl
theorem lenA_cons {f : Sg → Res (Opd × Sg)} {g : Sg → Res (List Opd × Sg)} {n : Nat} (h : LenA g n) : LenA (fCons f g) (n + 1) := fun sg a e => by
  unfold fCons at e
  cases e1 : f sg with
  | ok b =>
    cases e2 : g b.2 with
    | ok c =>
      simp only [e1, e2, Res.bind_ok] at e
      cases e
      exact congrArg (· + 1) (h _ _ e2)
    | exc x => simp only [e1, e2, Res.bind_ok, Res.bind_exc] at e; cases e
    | stuck => simp only [e1, e2, Res.bind_ok, Res.bind_stuck] at e; cases e
  | exc x => simp only [e1, Res.bind_exc] at e; cases e
  | stuck => simp only [e1, Res.bind_stuck] at e; cases e
theorem de_globE {C : Ctx} {x : Str} {i : Int} {pos : Pos} (hm : ∃ t, C.mg x = some (.int i t)) (hg : C.sc.names.lookup x = some .globalImplicit) (hd : (x == ("__debug__" : Str)) = false := by decide) : DE C (.Name x pos) (fC (.int i)) := by
  obtain ⟨t, h⟩ := hm
  exact de_globI hg h hd
end DL
set_option Elab.async false
set_option linter.all false
set_option maxRecDepth 100000
set_option maxHeartbeats 4000000
namespace DL
open PySem PySem.Spec PyProof.Rows L2

/-! ### sets of keys of any kind that stands in the heap -/
section
variable {P : Program} {w : World} {κ : Type} [DecidableEq κ]
/-- what is asked of a kind, besides -/
structure Kd (knd : HeapKind P w κ) : Prop where
  st : knd.Stays
  of : ∀ {A : Around} {E : Value → Shared → Prop} {s : Shared} {k : κ} {b : Addr} {Q : Bool → Shared → Prop}, knd.is s.heap k b → Q false s → wpAny (model P w) A (ofAClassStatement 8 (.ref b)) Q E s
  hv : ∀ {A : Around} {E : Value → Shared → Prop} {s : Shared} {k : κ} {b : Addr} {Q : Bool → Shared → Prop}, knd.is s.heap k b → Q true s → wpAny (model P w) A (hashByValue 8 (.ref b)) Q E s
def entK (knd : HeapKind P w κ) (ps : List (Addr × κ)) : List (Int × Value) := ps.map fun z => (knd.hash z.2, Value.ref z.1)
def hsK (knd : HeapKind P w κ) (ps : List (Addr × κ)) : List Int := ps.map fun z => knd.hash z.2
structure SK (knd : HeapKind P w κ) (hp : Heap) (d : Addr) (ps : List (Addr × κ)) (es : Array (Int × Value)) (n : Nat) (tb : SetTable) : Prop where
  obj : ∃ ob, hp.get? d = some ob ∧ ob.ExactSet ∧ ob.data = .set es n tb
  ent : es.toList = entK knd ps
  tok : TabOk tb (hsK knd ps)
  one : (ps.map Prod.snd).Nodup
  key : ∀ z ∈ ps, knd.is hp z.2 z.1
  pln : tb.plain = true
  led : w.params.followText "set-order" = true ∨ tb.led = true
  free : ps.length * 5 < tb.mask * 3
  few : ps.length < 64
variable {knd : HeapKind P w κ} {A : Around} {E : Value → Shared → Prop} {s : Shared} {d : Addr} {ps : List (Addr × κ)} {es : Array (Int × Value)} {n : Nat} {tb : SetTable}
theorem entK_len (l : List (Addr × κ)) : (entK knd l).length = l.length := List.length_map _
theorem hsK_len (l : List (Addr × κ)) : (hsK knd l).length = l.length := List.length_map _
theorem SK.esz {hp : Heap} (S : SK knd hp d ps es n tb) : es.size = ps.length := by
  rw [← Array.length_toList, S.ent, entK_len]
theorem SK.psz {hp : Heap} (S : SK knd hp d ps es n tb) : tb.place.size = ps.length := by
  rw [S.tok.sz, hsK_len]
theorem fitsK {tb : SetTable} {m : Nat} (h1 : tb.place.size = m) (h2 : tb.dummies = #[]) (h3 : m ≤ tb.mask) : tb.fits m = true := by
  unfold SetTable.fits SetTable.fill
  rw [h2, h1, beq_self_eq_true, Bool.true_and]
  exact decide_eq_true (show m + 0 ≤ tb.mask from h3)
theorem SK.fit {hp : Heap} (S : SK knd hp d ps es n tb) : tb.fits es.size = true :=
  fitsK (S.psz.trans S.esz.symm) S.tok.dm (by have := S.free; have := S.esz; omega)
theorem SK.row {hp : Heap} (S : SK knd hp d ps es n tb) {i : Nat} {z : Addr × κ} (h : ps[i]? = some z) : es[i]? = some (knd.hash z.2, Value.ref z.1) := by
  have e : es.toList[i]? = (entK knd ps)[i]? := by rw [S.ent]
  rw [Array.getElem?_toList] at e
  rw [e]
  unfold entK
  rw [List.getElem?_map, h]
  rfl
theorem SK.odd {hp : Heap} (S : SK knd hp d ps es n tb) : tb.gaveWay = false := by
  unfold SetTable.gaveWay
  rw [mask_odd S.tok.mok]
  rfl
theorem seenK (kd : Kd knd) {k : κ} {b : Addr} {Q : Bool → Shared → Prop} (hb : knd.is s.heap k b) {ys : List Value} (hy : ∀ y ∈ ys, ∃ k' c, y = Value.ref c ∧ knd.is s.heap k' c) (h : Q false s) : wpAny (model P w) A (searchCouldBeSeen (.ref b) ys) Q E s := by
  unfold searchCouldBeSeen
  refine wpAny_bind (wpAny_forIn_list _ (fun l r s2 => r.1 = none ∧ s2 = s ∧ ∀ y ∈ l, ∃ k' c, y = Value.ref c ∧ knd.is s.heap k' c) _ ?_ ?_ _ _ ⟨rfl, rfl, hy⟩)
  · rintro y l r s2 ⟨h1, rfl, h3⟩
    obtain ⟨k2, c, rfl, hc⟩ := h3 y List.mem_cons_self
    have tl : ∀ y ∈ l, ∃ k' c, y = Value.ref c ∧ knd.is s2.heap k' c := fun u hu => h3 u (List.mem_cons_of_mem _ hu)
    dsimp only
    by_cases v : (b == c || (carriedByValue (.ref b) && carriedByValue (.ref c))) = true
    · exact wp_if_pos v (wpAny_pure ⟨rfl, rfl, tl⟩)
    · refine wp_if_neg v (wpAny_bind (knd.quiet hb ?_))
      simp only [Bool.not_true, Bool.false_eq_true, if_false]
      refine wpAny_bind (knd.quiet hc ?_)
      simp only [Bool.not_true, Bool.false_eq_true, if_false]
      refine wpAny_bind (kd.of hb ?_)
      simp only [Bool.false_eq_true, if_false]
      refine wpAny_bind (kd.of hc ?_)
      simp only [Bool.false_eq_true, if_false]
      exact wpAny_pure ⟨rfl, rfl, tl⟩
  · rintro ⟨r1, r2⟩ s2 ⟨h1, rfl, _⟩
    obtain rfl : r1 = none := h1
    exact wpAny_pure h
/-- the place of the c-th probe -/
abbrev pr (tb : SetTable) (h : Int) (c : Nat) : SetTable.Probe := nth tb.mask (runAt tb.mask (SetTable.bits h % (tb.mask + 1)) (SetTable.bits h)) c
theorem pr_way (tb : SetTable) (h : Int) (c q : Nat) : (nth tb.mask (pr tb h c) q).j = way tb.mask h (c + q) := congrArg SetTable.Probe.j (nth_add tb.mask c _ q).symm
theorem nth_dummy (m : Nat) : ∀ (c : Nat) (p : SetTable.Probe), p.dummy = none → (nth m p c).dummy = none
  | 0, _, h => h
  | c + 1, p, h => nth_dummy m c (adv m p) (by unfold adv; split <;> exact h)
theorem srchK (kd : Kd knd) (S : SK knd s.heap d ps es n tb) {b : Addr} {k : κ} (hb : knd.is s.heap k b) (hu : knd.room A) {T : Nat} (hT : T < 10 * SetTable.turns tb.mask) (e1 : way tb.mask (knd.hash k) T ∉ tb.place.toList)
    (e2 : ∀ c, c < T → way tb.mask (knd.hash k) c ∈ tb.place.toList) {Q : SetFound → Shared → Prop} (yes : k ∈ ps.map Prod.snd → Q (.there none) s) (no : k ∉ ps.map Prod.snd → Q (.free (way tb.mask (knd.hash k) T) false) s) :
    ∀ (m c : Nat) (st : Option SetTable.Probe), st.getD (tb.probeStart (knd.hash k)) = pr tb (knd.hash k) c → c ≤ T → T < c + m →
      (∀ (i : Nat) z, ps[i]? = some z → z.2 = k → ∃ c', c ≤ c' ∧ c' < T ∧ tb.place.toList[i]? = some (way tb.mask (knd.hash k) c')) → wpAny (model P w) A (setSearchFrom d (.ref b) (knd.hash k) true m st) Q E s := by
  intro m
  induction m with
  | zero => intro c st _ h1 h2 _; omega
  | succ m ih =>
    intro c st hst hc hm hre
    obtain ⟨ob, ho, hx, hd⟩ := S.obj
    rw [setSearchFrom_succ]
    refine wpAny_bind (wpAny_setState_of ho hd S.fit ?_)
    dsimp only
    refine wp_if_neg (by rw [S.odd]; exact Bool.false_ne_true) ?_
    try refine wpAny_bind (wpAny_pure ?_)
    have hz : ∀ (i : Nat) z, ps[i]? = some z → (es[i]?.map (·.1)).getD 0 = knd.hash z.2 := fun i z h => by rw [S.row h]; rfl
    have far : T - c < 10 * SetTable.turns tb.mask := by omega
    rcases go_spec tb S.tok.ris S.tok.dm (fun i => (es[i]?.map (·.1)).getD 0) (knd.hash k) (10 * SetTable.turns tb.mask) (T - c) (pr tb (knd.hash k) c) (nth_dummy _ c _ rfl) far
      (fun q hq => by rw [pr_way]; exact e2 _ (by omega)) (by rw [pr_way, Nat.add_sub_cancel' hc]; exact e1) with ⟨q, i, hq, hi, hh, hno, hp⟩ | ⟨hno, hp⟩
    · have met : tb.probe (fun i => (es[i]?.map (·.1)).getD 0) (knd.hash k) (st.getD (tb.probeStart (knd.hash k))) = some (.candidate (way tb.mask (knd.hash k) (c + q)) i (pr tb (knd.hash k) (c + (q + 1)))) := by
        rw [hst, ← pr_way, show pr tb (knd.hash k) (c + (q + 1)) = nth tb.mask (pr tb (knd.hash k) c) (q + 1) from nth_add tb.mask c _ (q + 1)]
        exact hp
      rw [met]
      dsimp only
      rw [pr_way] at hi
      have il : i < ps.length := by
        have h1 := (List.getElem?_eq_some_iff.mp hi).1
        rw [Array.length_toList, S.psz] at h1
        exact h1
      obtain ⟨z, hzi⟩ : ∃ z, ps[i]? = some z := ⟨ps[i], List.getElem?_eq_getElem il⟩
      have zm := List.mem_of_getElem? hzi
      have rest : wpAny (model P w) A (searchRest d (.ref b) (knd.hash k) true m es tb (way tb.mask (knd.hash k) (c + q)) i (pr tb (knd.hash k) (c + (q + 1)))) Q E s := by
        unfold searchRest
        rw [S.row hzi]
        dsimp only
        refine wpAny_bind (wpAny_holding (knd.eqBool hu (S.key z zm) hb ?_))
        refine wpAny_bind (wpAny_setState_of ho hd S.fit ?_)
        dsimp only
        by_cases same : z.2 = k
        · exact wp_if_pos (by rw [same]; simp) (wpAny_pure (yes (List.mem_map.mpr ⟨z, zm, same⟩)))
        · refine wp_if_neg (by simp [same]) ?_
          try refine wpAny_bind (wpAny_pure ?_)
          rw [sameMem]
          dsimp only
          have lv : tb.slot (way tb.mask (knd.hash k) (c + q)) = .live i := slot_live S.tok.ris hi
          simp only [if_true, lv, S.row hzi]
          refine wpAny_bind (wpAny_isSame_ref_self (wpAny_bind (wpAny_pure ?_)))
          simp only [if_true]
          refine wp_if_neg (by simp [same]) (ih (c + (q + 1)) _ rfl (by omega) (by omega) fun i0 z0 g1 g2 => ?_)
          obtain ⟨c', b1, b2, b3⟩ := hre i0 z0 g1 g2
          refine ⟨c', Nat.not_lt.mp fun lt => ?_, b2, b3⟩
          by_cases ec : c' = c + q
          · rw [ec] at b3
            have lv2 := slot_live S.tok.ris b3
            rw [lv] at lv2
            cases lv2
            rw [hzi] at g1
            cases g1
            exact same g2
          · exact hno (c' - c) i0 (by omega) (by rw [pr_way, Nat.add_sub_cancel' b1]; exact b3) ((hz i0 z0 g1).trans (congrArg knd.hash g2))
      by_cases hl : tb.led = true
      · refine wp_if_neg (by rw [hl]; exact Bool.false_ne_true) ?_
        try refine wpAny_bind (wpAny_pure ?_)
        exact rest
      · refine wp_if_pos (by simpa using hl) (wpAny_bind (seenK kd hb (fun y hy => ?_) ?_))
        · obtain ⟨u, hu1, rfl⟩ := List.mem_map.mp hy
          have hu2 : u ∈ es.toList := by
            have := (show u ∈ es ∧ u.1 = knd.hash k by simpa using hu1).1
            simpa using this
          rw [S.ent] at hu2
          obtain ⟨z2, hz2, rfl⟩ := List.mem_map.mp hu2
          exact ⟨z2.2, z2.1, rfl, S.key z2 hz2⟩
        · refine wp_if_neg Bool.false_ne_true ?_
          try refine wpAny_bind (wpAny_pure ?_)
          exact rest
    · have met : tb.probe (fun i => (es[i]?.map (·.1)).getD 0) (knd.hash k) (st.getD (tb.probeStart (knd.hash k))) = some (.empty (way tb.mask (knd.hash k) T) none) := by
        rw [hst, show way tb.mask (knd.hash k) T = (nth tb.mask (pr tb (knd.hash k) c) (T - c)).j by rw [pr_way, Nat.add_sub_cancel' hc]]
        exact hp
      rw [met]
      dsimp only
      refine wpAny_pure (no fun hk => ?_)
      obtain ⟨z0, z1, z2⟩ := List.mem_map.mp hk
      obtain ⟨i0, g1⟩ := List.getElem?_of_mem z1
      obtain ⟨c', b1, b2, b3⟩ := hre i0 z0 g1 z2
      exact hno (c' - c) i0 (by omega) (by rw [pr_way, Nat.add_sub_cancel' b1]; exact b3) ((hz i0 z0 g1).trans (congrArg knd.hash z2))
theorem findK (kd : Kd knd) (S : SK knd s.heap d ps es n tb) {b : Addr} {k : κ} (hb : knd.is s.heap k b) (hu : knd.room A) {Q : SetFound → Shared → Prop} (yes : k ∈ ps.map Prod.snd → Q (.there none) s)
    (no : ∀ T, k ∉ ps.map Prod.snd → way tb.mask (knd.hash k) T ∉ tb.place.toList → (∀ c, c < T → way tb.mask (knd.hash k) c ∈ tb.place.toList) → Q (.free (way tb.mask (knd.hash k) T) false) s) : wpAny (model P w) A (setSearch d (.ref b) (knd.hash k) true) Q E s := by
  have fr := S.free
  obtain ⟨T, t1, t2, t3⟩ := S.tok.first (by rw [hsK_len]; omega) (knd.hash k)
  have small : T < 100000 := by
    have : 10 * SetTable.turns tb.mask ≤ 1420 := by
      unfold SetTable.turns
      rcases S.tok.mok with q | q | q <;> omega
    omega
  unfold setSearch
  refine srchK kd S hb hu t1 t2 t3 yes (fun z => no T z t2 t3) 100000 0 none rfl (Nat.zero_le _) (by omega) fun i z g1 g2 => ?_
  have hi : (hsK knd ps)[i]? = some (knd.hash k) := by
    unfold hsK
    rw [List.getElem?_map, g1, ← g2]
    rfl
  have il : i < tb.place.toList.length := by
    rw [Array.length_toList, S.psz]
    exact (List.getElem?_eq_some_iff.mp g1).1
  obtain ⟨c, c1, c2⟩ := S.tok.before t2 hi (List.getElem?_eq_getElem il)
  exact ⟨c, Nat.zero_le _, c1, by rw [List.getElem?_eq_getElem il, c2]⟩
end
end DL
set_option Elab.async false
set_option linter.all false
set_option maxRecDepth 100000
set_option maxHeartbeats 4000000
namespace DL
open PySem PySem.Spec PyProof.Rows L2
section
variable {P : Program} {w : World} {κ : Type} [DecidableEq κ] {knd : HeapKind P w κ} {A : Around} {E : Value → Shared → Prop} {s : Shared} {d : Addr} {ps : List (Addr × κ)} {es : Array (Int × Value)} {n : Nat} {tb : SetTable}
/-- a key isn't the set -/
theorem key_but (kd : Kd knd) {h h' : Heap} {k : κ} {b : Addr} {ob : Obj} (hk : knd.is h k b) (ho : h.get? d = some ob) (hd : ob.data = .set es n tb) (sb : Heap.SameBut d h h') : knd.is h' k b :=
  kd.st.stays (fun c u vs m e f => (sb.2 c fun z => by
    subst z
    rw [ho] at e
    cases e
    rw [hd] at f
    cases f).trans e) hk
theorem key_grow (kd : Kd knd) {h h' : Heap} {k : κ} {b : Addr} (hk : knd.is h k b) (g : ∀ c u, h.get? c = some u → h'.get? c = some u) : knd.is h' k b := kd.st.stays (fun c u _ _ e _ => g c u e) hk
theorem perm_ins {α : Type} (l : List α) (i : Nat) (x : α) : (l.take i ++ x :: l.drop i).Perm (x :: l) := by
  have q : (l.take i ++ x :: l.drop i).Perm (x :: (l.take i ++ l.drop i)) := List.perm_middle
  rwa [List.take_append_drop] at q
/-- what an order of places takes of the rows -/
theorem pickK (S1 : es.toList = entK knd ps) (od : List Nat) (hod : od.Perm (List.range ps.length)) : ∃ l, od.filterMap (fun i => es[i]?) = entK knd l ∧ l.Perm ps ∧ hsK knd l = od.map fun i => (es.map (·.1)).getD i 0 := by
  have row : ∀ (i : Nat) z, ps[i]? = some z → es[i]? = some (knd.hash z.2, Value.ref z.1) := fun i z h => by
    rw [← Array.getElem?_toList, S1]
    unfold entK
    rw [List.getElem?_map, h]
    rfl
  have all : ∀ od : List Nat, (∀ i ∈ od, i < ps.length) → od.filterMap (fun i => es[i]?) = entK knd (od.filterMap fun i => ps[i]?) ∧ hsK knd (od.filterMap fun i => ps[i]?) = od.map fun i => (es.map (·.1)).getD i 0 := fun od => by
    induction od with
    | nil => exact fun _ => ⟨rfl, rfl⟩
    | cons i od ih =>
      intro h
      obtain ⟨e1, e2⟩ := ih fun j hj => h j (List.mem_cons_of_mem _ hj)
      have g := List.getElem?_eq_getElem (h i List.mem_cons_self)
      have v : (es.map (·.1)).getD i 0 = knd.hash (ps[i]'(h i List.mem_cons_self)).2 := by
        have : (es.map (·.1))[i]? = some (knd.hash (ps[i]'(h i List.mem_cons_self)).2) := by rw [Array.getElem?_map, row i _ g]; rfl
        simp [Array.getD_eq_getD_getElem?, this]
      rw [List.filterMap_cons_some (row i _ g), List.filterMap_cons_some g, e1, List.map_cons, ← e2, v]
      exact ⟨rfl, rfl⟩
  obtain ⟨e1, e2⟩ := all od fun i hi => List.mem_range.mp (hod.mem_iff.mp hi)
  refine ⟨_, e1, ?_, e2⟩
  have q : ((List.range ps.length).filterMap fun i => ps[i]?) = ps := by
    refine List.ext_getElem? fun j => ?_
    have key : ∀ m, m ≤ ps.length → (List.range m).filterMap (fun i => ps[i]?) = ps.take m := fun m => by
      induction m with
      | zero => exact fun _ => rfl
      | succ m ih =>
        intro hm
        rw [List.range_succ, List.filterMap_append, ih (by omega), List.take_succ, List.getElem?_eq_getElem hm, List.filterMap_cons_some (List.getElem?_eq_getElem hm)]
        rfl
    rw [key _ (Nat.le_refl _), List.take_length]
  exact (hod.filterMap _).trans (by rw [q])
theorem relayK (kd : Kd knd) {ob : Obj} (ho : s.heap.get? d = some ob) (hx : ob.ExactSet) (hd : ob.data = .set es n tb) (he : es.toList = entK knd ps) (hs : tb.place.size = es.size) (hm : tb.dummies = #[]) (hf : es.size ≤ tb.mask) (one : (ps.map Prod.snd).Nodup)
    (key : ∀ z ∈ ps, knd.is s.heap z.2 z.1) (pl : tb.plain = true) (ld : w.params.followText "set-order" = true ∨ tb.led = true) (few : ps.length < 64) {want M : Nat} (hw : SetTable.sizeAbove want - 1 = M) (hM : MaskOk M) (hw2 : SetTable.sizeAbove want ≤ 128) (hr : ps.length * 5 < M * 3)
    {Q : Unit → Shared → Prop} (q : ∀ h' ps' es' n' tb', Heap.SameBut d s.heap h' → SK knd h' d ps' es' n' tb' → ps'.Perm ps → Q () { s with heap := h' }) : wpAny (model P w) A (setRelay d want) Q E s := by
  have sz : es.size = ps.length := by rw [← Array.length_toList, he, entK_len]
  obtain ⟨tb', od, z1, z2, z3, z4, z5, z6, z7⟩ := relaid_ok tb (hs := es.map (·.1)) (wanted := want) hw hM (by rw [Array.size_map, sz]; omega)
  rw [Array.size_map, sz] at z2
  obtain ⟨l, p1, p2, p3⟩ := pickK he od.toList z2
  rw [← p3] at z3
  have ls : (od.filterMap (es[·]?)).toList = entK knd l := by
    rw [Array.toList_filterMap]
    exact p1
  have sz2 : (od.filterMap (es[·]?)).size = es.size := by rw [← Array.length_toList, ls, entK_len, p2.length_eq, sz]
  rw [setRelay_eq]
  refine wpAny_bind (wpAny_setState_of ho hd (fitsK hs hm hf) ?_)
  dsimp only
  refine wp_if_neg (by rw [sizeLine_eq]; omega) ?_
  try refine wpAny_bind (wpAny_pure ?_)
  rw [z1]
  dsimp only
  refine wpAny_bind (wp_if_neg (by rw [sz2]; simp) ?_)
  try refine wpAny_bind (wpAny_pure ?_)
  refine wpAny_pure ?_
  dsimp only
  have sb : Heap.SameBut d s.heap (s.heap.update d (Obj.putSet (od.filterMap (es[·]?)) tb')) := Heap.SameBut.update ..
  refine wpAny_storeSet_of ho hd (q _ l _ _ tb' sb ⟨⟨_, store_at ho hd, ⟨hx.1, hx.2.1, hx.2.2⟩, rfl⟩, ls, z3, (p2.map Prod.snd).nodup_iff.mpr one, fun z hz => key_but kd (key z (p2.mem_iff.mp hz)) ho hd sb, z6.trans pl, by rw [z5]; exact ld, by rw [p2.length_eq, z4]; exact hr, by rw [p2.length_eq]; exact few⟩ p2) (by rw [sz2, sz, sizeLine_eq]; omega)
theorem addK1 (kd : Kd knd) (S : SK knd s.heap d ps es n tb) {b : Addr} {k : κ} (hb : knd.is s.heap k b) (hu : knd.room A) (few : ps.length + 1 < 64) {Q : Bool → Shared → Prop}
    (q : ∀ r h' ps' es' n' tb', Heap.SameBut d s.heap h' → SK knd h' d ps' es' n' tb' → (k ∈ ps.map Prod.snd → ps' = ps) → (k ∉ ps.map Prod.snd → ps'.Perm ((b, k) :: ps)) → Q r { s with heap := h' }) : wpAny (model P w) A (setAddHashed d (.ref b) (knd.hash k)) Q E s := by
  obtain ⟨ob, ho, hx, hd⟩ := S.obj
  have sz := S.esz
  have fr := S.free
  unfold setAddHashed
  refine wpAny_holding ?_
  rw [show (100000 : Nat) = 99999 + 1 from rfl, setAddHashedIn_succ]
  refine wpAny_bind (wpAny_setState_of ho hd S.fit ?_)
  dsimp only
  refine wp_if_neg (by simp [byScan, Value.scannable]) ?_
  try refine wpAny_bind (wpAny_pure ?_)
  refine wpAny_bind (findK kd S hb hu (fun hm => wpAny_pure (q false _ ps es n tb (Heap.SameBut.refl d s.heap) S (fun _ => rfl) fun z => absurd hm z)) fun T hm t1 t2 => ?_)
  dsimp only
  refine wpAny_bind (wpAny_setState_of ho hd S.fit ?_)
  dsimp only
  obtain ⟨y1, y2, y3, y4, y5, y6, y7, y8, y9⟩ := S.tok.put t1 t2
  have pl1 : (tb.put (way tb.mask (knd.hash k) T)).1.plain = true := y6.trans S.pln
  generalize hpt : tb.put (way tb.mask (knd.hash k) T) = pt at y1 y3 y4 y5 y6 y7 y8 y9 pl1 ⊢
  obtain ⟨tb1, i⟩ := pt
  dsimp only at y1 y3 y4 y5 y6 y7 y8 y9 pl1 ⊢
  subst y1
  first
    | exact wp_if_pos pl1 (wpAny_bind (kd.hv hb ?_))
    | refine wpAny_bind (wp_if_pos pl1 (kd.hv hb ?_))
    | refine wp_if_pos pl1 (wpAny_bind (kd.hv hb ?_))
  simp only [if_true]
  have ls : (SetTable.insertAt es (SetTable.below tb.place (way tb.mask (knd.hash k) T)) (knd.hash k, Value.ref b)).toList = entK knd (ps.take (SetTable.below tb.place (way tb.mask (knd.hash k) T)) ++ (b, k) :: ps.drop (SetTable.below tb.place (way tb.mask (knd.hash k) T))) := by
    rw [SetTable.toList_insertAt, S.ent]
    unfold entK
    rw [List.map_append, List.map_cons, List.map_take, List.map_drop]
  have hh : hsK knd (ps.take (SetTable.below tb.place (way tb.mask (knd.hash k) T)) ++ (b, k) :: ps.drop (SetTable.below tb.place (way tb.mask (knd.hash k) T))) = (hsK knd ps).take (SetTable.below tb.place (way tb.mask (knd.hash k) T)) ++ knd.hash k :: (hsK knd ps).drop (SetTable.below tb.place (way tb.mask (knd.hash k) T)) := by
    unfold hsK
    rw [List.map_append, List.map_cons, List.map_take, List.map_drop]
  rw [← hh] at y3
  have pm := perm_ins ps (SetTable.below tb.place (way tb.mask (knd.hash k) T)) (b, k)
  generalize ps.take (SetTable.below tb.place (way tb.mask (knd.hash k) T)) ++ (b, k) :: ps.drop (SetTable.below tb.place (way tb.mask (knd.hash k) T)) = p1 at ls y3 pm
  generalize SetTable.insertAt es (SetTable.below tb.place (way tb.mask (knd.hash k) T)) (knd.hash k, Value.ref b) = es1 at ls ⊢
  have l1 : p1.length = ps.length + 1 := pm.length_eq
  have s1 : es1.size = ps.length + 1 := by rw [← Array.length_toList, ls, entK_len, l1]
  have one1 : (p1.map Prod.snd).Nodup := (pm.map Prod.snd).nodup_iff.mpr (List.nodup_cons.mpr ⟨hm, S.one⟩)
  refine wpAny_bind (wpAny_storeSet_of ho hd ?_ (by rw [s1, sizeLine_eq]; omega))
  have sb : Heap.SameBut d s.heap (s.heap.update d (Obj.putSet es1 tb1)) := Heap.SameBut.update ..
  have ho1 := store_at (es' := es1) (t' := tb1) ho hd
  generalize s.heap.update d (Obj.putSet es1 tb1) = h1 at sb ho1 ⊢
  have key1 : ∀ z ∈ p1, knd.is h1 z.2 z.1 := fun z hz => by
    rcases List.mem_cons.mp (pm.mem_iff.mp hz) with e | hz
    · rw [e]; exact key_but kd hb ho hd sb
    · exact key_but kd (S.key z hz) ho hd sb
  have ld1 : w.params.followText "set-order" = true ∨ tb1.led = true := by rw [y5]; exact S.led
  have full : tb1.tooFull = decide ((ps.length + 1) * 5 ≥ tb.mask * 3) := by
    unfold SetTable.tooFull
    rw [y9, hsK_len, y4]
  by_cases hf : (ps.length + 1) * 5 ≥ tb.mask * 3
  · have hf' : tb1.tooFull = true := by rw [full]; exact decide_eq_true hf
    first
      | refine wpAny_bind (wp_if_pos (by simp [hf']) ?_)
      | refine wp_if_pos (by simp [hf']) (wpAny_bind ?_)
    rw [sz]
    have two : (tb.mask = 7 ∧ ps.length = 4) ∨ (tb.mask = 31 ∧ ps.length = 18) := by
      rcases S.tok.mok with e | e | e
      · exact .inl ⟨e, by omega⟩
      · exact .inr ⟨e, by omega⟩
      · omega
    have place1 : tb1.place.size = es1.size := by rw [y3.sz, hsK_len, l1, s1]
    have go : ∀ M, SetTable.sizeAbove (SetTable.grown (ps.length + 1)) - 1 = M → MaskOk M → SetTable.sizeAbove (SetTable.grown (ps.length + 1)) ≤ 128 → (ps.length + 1) * 5 < M * 3 →
        wpAny (model P w) A (setRelay d (SetTable.grown (ps.length + 1))) (fun _ s2 => wpAny (model P w) A (pure true) Q E s2) E { s with heap := h1 } := fun M g1 g2 g3 g4 =>
      relayK (s := { s with heap := h1 }) kd ho1 ⟨hx.1, hx.2.1, hx.2.2⟩ rfl ls place1 y3.dm (by rw [s1, y4]; omega) one1 key1 pl1 ld1 (by rw [l1]; exact few) g1 g2 g3 (by rw [l1]; exact g4) fun h2 p2 es2 n2 tb2 sb2 S2 pm2 =>
        wpAny_pure (q true h2 p2 es2 n2 tb2 (sb.trans sb2) S2 (fun z => absurd z hm) fun _ => pm2.trans pm)
    rcases two with ⟨_, e⟩ | ⟨_, e⟩
    · exact go 31 (by rw [e, size_20]) (.inr (.inl rfl)) (by rw [e, size_20]; decide) (by omega)
    · exact go 127 (by rw [e, size_76]) (.inr (.inr rfl)) (by rw [e, size_76]; decide) (by omega)
  · have hf' : tb1.tooFull = false := by rw [full]; exact decide_eq_false hf
    have fin := q true h1 p1 es1 (n + 1) tb1 sb ⟨⟨_, ho1, ⟨hx.1, hx.2.1, hx.2.2⟩, rfl⟩, ls, y3, one1, key1, pl1, ld1, by rw [l1, y4]; omega, by rw [l1]; exact few⟩ (fun z => absurd z hm) fun _ => pm
    first
      | exact wp_if_neg (by simp [hf']) (wpAny_pure fin)
      | exact wpAny_bind (wp_if_neg (by simp [hf']) (wpAny_pure (wpAny_pure fin)))
end
end DL
set_option Elab.async false
set_option linter.all false
set_option maxRecDepth 100000
set_option maxHeartbeats 4000000
namespace DL
open PySem PySem.Spec PyProof.Rows L2
section
variable {P : Program} {w : World} {κ : Type} [DecidableEq κ] {knd : HeapKind P w κ} {A : Around} {E : Value → Shared → Prop} {s : Shared}
/-- what a set has of the first i items -/
structure HasK (zs : List (Addr × κ)) (i : Nat) (ps : List (Addr × κ)) : Prop where
  of : ∀ p ∈ ps, p ∈ zs.take i
  all : ∀ p ∈ zs.take i, p.2 ∈ ps.map Prod.snd
  le : ps.length ≤ i
theorem take_one {α : Type} {l : List α} {i : Nat} {x : α} (h : l[i]? = some x) : l.take (i + 1) = l.take i ++ [x] := by
  rw [List.take_succ, h]
  rfl
theorem HasK.old {zs ps : List (Addr × κ)} {i : Nat} {x : Addr × κ} (g : HasK zs i ps) (h : zs[i]? = some x) (hm : x.2 ∈ ps.map Prod.snd) : HasK zs (i + 1) ps := by
  refine ⟨fun p hp => ?_, fun p hp => ?_, Nat.le_succ_of_le g.le⟩ <;> rw [take_one h] at *
  · exact List.mem_append_left _ (g.of p hp)
  · rcases List.mem_append.mp hp with z | z
    · exact g.all p z
    · rw [List.mem_singleton.mp z]; exact hm
theorem HasK.new {zs ps ps' : List (Addr × κ)} {i : Nat} {x : Addr × κ} (g : HasK zs i ps) (h : zs[i]? = some x) (pm : ps'.Perm (x :: ps)) : HasK zs (i + 1) ps' := by
  refine ⟨fun p hp => ?_, fun p hp => ?_, by rw [pm.length_eq]; exact Nat.succ_le_succ g.le⟩ <;> rw [take_one h] at *
  · rcases List.mem_cons.mp (pm.mem_iff.mp hp) with e | z
    · rw [e]; exact List.mem_append_right _ (List.mem_singleton.mpr rfl)
    · exact List.mem_append_left _ (g.of p z)
  · refine (pm.map Prod.snd).mem_iff.mpr ?_
    rcases List.mem_append.mp hp with z | z
    · exact List.mem_cons_of_mem _ (g.all p z)
    · rw [List.mem_singleton.mp z]; exact List.mem_cons_self
theorem SK.grow (kd : Kd knd) {h h' : Heap} {d : Addr} {ps : List (Addr × κ)} {es : Array (Int × Value)} {n : Nat} {tb : SetTable} (S : SK knd h d ps es n tb) (hd : ∀ o, h.get? d = some o → h'.get? d = some o) (hk : ∀ p ∈ ps, knd.is h' p.2 p.1) : SK knd h' d ps es n tb :=
  ⟨let ⟨o, e, r⟩ := S.obj; ⟨o, hd o e, r⟩, S.ent, S.tok, S.one, hk, S.pln, S.led, S.free, S.few⟩
abbrev emptySet (w : World) : Obj := { cls := .type "set", dict := none, data := .set #[] 0 (.fresh 0 0 (!w.params.followText "set-order")) }
theorem sk_empty {h : Heap} {d : Addr} (e : h.get? d = some (emptySet w)) : SK knd h d [] #[] 0 (.fresh 0 0 (!w.params.followText "set-order")) where
  obj := ⟨_, e, ⟨rfl, rfl, rfl⟩, rfl⟩
  ent := rfl
  tok := ⟨List.Pairwise.nil, rfl, rfl, .inl rfl, (fun _ h => by cases h), fun i h j hi => by simp [hsK] at hi⟩
  one := List.nodup_nil
  key := fun _ h => nomatch h
  pln := rfl
  led := by
    cases q : w.params.followText "set-order" with
    | true => exact .inl rfl
    | false => exact .inr rfl
  free := show 0 * 5 < 7 * 3 by decide
  few := show 0 < 64 by decide
theorem fillK (kd : Kd knd) {I : Addr} {fp wr : List Addr} {Gn : Array GenState → Array GenState → Prop} {N : Nat} {Pv : Nat → Value → Prop} {St : Nat → Shared → Prop} {R : Result → Shared → Prop} (W : WalksS P w A.in1 I fp wr Gn N Pv St) (d : Addr) (hdf : d ∉ fp) (zs : List (Addr × κ)) (hN : N = zs.length) (few : zs.length < 64)
    (hv : ∀ i v, Pv i v → ∃ p, zs[i]? = some p ∧ v = .ref p.1) (h0 : Heap) (hk : ∀ p ∈ zs, knd.is h0 p.2 p.1) (hd0 : h0.get? d = none) (hw0 : ∀ b ∈ wr, h0.get? b = none) (hu : knd.room A.in1) :
    ∀ (m i : Nat) (s : Shared), i + m = N → St i s → (∀ b o, h0.get? b = some o → s.heap.get? b = some o) → (∃ ps es n tb, SK knd s.heap d ps es n tb ∧ HasK zs i ps) →
      (∀ s' ps es n tb, Moved (d :: wr) Gn s s' → SK knd s'.heap d ps es n tb → HasK zs N ps → (∀ b o, h0.get? b = some o → s'.heap.get? b = some o) → R (.ok (.ret .none)) s') → codeAny (model P w) A (.builtin "set.update.loop" ⟨[.ref d, .ref I], []⟩) R s := by
  have up : ∀ b ∈ wr, b ∈ d :: wr := fun b hb => List.mem_cons_of_mem _ hb
  have ndw : d ∉ wr := fun z => hdf (W.sub _ z)
  have kp : ∀ {s s' : Shared}, Moved wr Gn s s' → (∀ b o, h0.get? b = some o → s.heap.get? b = some o) → ∀ b o, h0.get? b = some o → s'.heap.get? b = some o := fun mv g b o e =>
    mv.heap b o (fun z => by rw [hw0 b z] at e; cases e) (g b o e)
  intro m
  induction m with
  | zero =>
    intro i s hi hst g ⟨ps, es, n, tb, S, hs⟩ fin
    obtain rfl : i = N := by omega
    refine codeAny_builtin F.entry_set_update_loop ?_
    rw [Around.under_plainId F.plain_set_update_loop _]
    show wpAny _ A.in1 (pyNext (.ref I) >>= _) _ _ s
    refine wpAny_bind (W.done s _ _ hst fun s2 mv => ?_)
    show wpAny _ A.in1 (ret Value.none) _ _ s2
    exact wpAny_pure (fin s2 ps es n tb (mv.mono up) (S.grow kd (fun o e => mv.heap d o ndw e) fun p hp => key_grow kd (hk p (List.mem_of_mem_take (hs.of p hp))) (kp mv g)) hs (kp mv g))
  | succ m ih =>
    intro i s hi hst g ⟨ps, es, n, tb, S, hs⟩ fin
    refine codeAny_builtin F.entry_set_update_loop ?_
    rw [Around.under_plainId F.plain_set_update_loop _]
    show wpAny _ A.in1 (pyNext (.ref I) >>= _) _ _ s
    refine wpAny_bind (W.item i s _ _ (by omega) hst fun v s2 hP hst2 mv => ?_)
    obtain ⟨p, hp, rfl⟩ := hv i v hP
    have g2 := kp mv g
    have S2 : SK knd s2.heap d ps es n tb := S.grow kd (fun o e => mv.heap d o ndw e) fun q hq => key_grow kd (hk q (List.mem_of_mem_take (hs.of q hq))) g2
    have kx := key_grow kd (hk p (List.mem_of_getElem? hp)) g2
    show wpAny _ A.in1 (holding [Value.ref p.1] (setAdd d (.ref p.1)) >>= _) _ _ s2
    refine wpAny_bind (wpAny_holding ?_)
    unfold setAdd
    refine wpAny_holding (wpAny_bind (knd.pyHash hu kx ?_))
    refine addK1 (s := { s2 with toks := s2.toks + knd.draws p.2 }) kd S2 kx hu (by have := hs.le; omega) fun r h3 ps3 es3 n3 tb3 sb S3 c1 c2 => ?_
    have hs3 : HasK zs (i + 1) ps3 := by
      by_cases c : p.2 ∈ ps.map Prod.snd
      · rw [c1 c]; exact hs.old hp c
      · exact hs.new hp (c2 c)
    have g3 : ∀ b o, h0.get? b = some o → h3.get? b = some o := fun b o e => (sb.2 b fun z => by rw [z, hd0] at e; cases e).trans (g2 b o e)
    refine wpAny_pure ⟨plainId_quiet F.plain_set_update_loop _, ih (i + 1) _ (by omega) (W.frame _ s2 _ _ hst2 (Nat.le_add_right _ _) fun b hb o e => ?_) g3 ⟨ps3, es3, n3, tb3, S3, hs3⟩ fun s4 ps4 es4 n4 tb4 mv4 S4 hs4 g4 => ?_⟩
    · exact (sb.2 b fun z => hdf (by rw [← z]; exact hb)).trans e
    · refine fin s4 ps4 es4 n4 tb4 (Moved.trans W.gtrans ((mv.mono up).then_heap (Nat.le_add_right _ _) fun b o hb e => ?_) mv4) S4 hs4 g4
      exact (sb.2 b fun z => hb (by rw [z]; exact List.mem_cons_self)).trans e
end
end DL
set_option Elab.async false
set_option linter.all false
set_option maxRecDepth 100000
set_option maxHeartbeats 4000000
namespace DL
open PySem PySem.Spec PyProof.Rows L2
section
variable {P : Program} {w : World} {κ : Type} [DecidableEq κ] {knd : HeapKind P w κ} {A : Around} {E : Value → Shared → Prop} {s : Shared}
def SrcK (h : Heap) (l : Addr) (items : Array Value) : Prop := h.IsList l items ∨ h.IsTuple l items
set_option maxHeartbeats 6400000 in
theorem call_setK (kd : Kd knd) {l : Addr} {items : Array Value} (zs : List (Addr × κ)) {Q : Value → Shared → Prop} (hh : A.handled = none) (hl : SrcK s.heap l items) (hi : items.toList = zs.map fun p => Value.ref p.1) (hk : ∀ p ∈ zs, knd.is s.heap p.2 p.1) (few : zs.length < 64) (hu : ∀ B : Around, B.units ≤ A.units + 4 → knd.room B)
    (h : ∀ (h' : Heap) (tk : Nat) ps es n tb, SK knd h' s.heap.objs.size ps es n tb → HasK zs zs.length ps → (∀ b o, s.heap.get? b = some o → h'.get? b = some o) → Q (.ref s.heap.objs.size) { s with heap := h', toks := tk }) :
    wpAny (model P w) A (call (.type "set") [.ref l]) Q E s := by
  have isz : items.size = zs.length := by rw [← Array.length_toList, hi, List.length_map]
  obtain ⟨c, tl, hmro⟩ := F.called_set.mro
  have hmade := F.called_set.made
  have hsub := F.called_set.sub
  refine wpAny_call (codeAny_of_tree ?_)
  show wpAny _ _ (callAny (.type "set") _) _ _ _
  refine wpAny_pure ⟨Code.quiet_builtin _ (by decide +kernel), codeAny_builtin F.entry_type_call ?_⟩
  rw [Around.under_plain (weight_type_call_type "set" [.ref l] []) rfl]
  have h1 := F.called_set.notType
  have h2 := F.called_set.canCreate
  have hct := F.typeCall_set_1 (.ref l)
  repeat (any_goals (first | assumption | wp_step))
  refine codeAny_mono (code_set_led1 (.ref l) (E := E) (Q₁ := fun obj s₁ => obj = .ref s.heap.objs.size ∧ s₁ = { s with heap := s.heap.push (emptySet w) }) ⟨rfl, rfl⟩) fun r s₁ hr => ?_
  cases r with
  | error e => exact hr
  | ok fl =>
    cases fl with
    | ret obj =>
      obtain ⟨rfl, rfl⟩ := hr
      have hS : (s.heap.push (emptySet w)).get? s.heap.objs.size = some (emptySet w) := Heap.get?_push_size _ rfl
      have hT : Shared.TypeIs { s with heap := s.heap.push (emptySet w) } (.ref s.heap.objs.size) "set" := ⟨_, hS, rfl⟩
      have hli := F.called_set.init.lookup
      have hbi := F.called_set.init.bind (.ref s.heap.objs.size)
      repeat (any_goals (first | assumption | wp_step))
      refine codeAny_mono (codeAny_call_builtin (R := wants (fun r s₂ => r = .none ∧ ∃ h' tk ps es n tb, s₂ = { s with heap := h', toks := tk } ∧ SK knd h' s.heap.objs.size ps es n tb ∧ HasK zs zs.length ps ∧ (∀ b o, s.heap.get? b = some o → h'.get? b = some o)) E) F.called_set.init.plain F.entry_set_init (check_set_init_1 hT ?_)) fun r₂ s₂ hr₂ => ?_
      · have nof : ∀ b, s.heap.objs.size ≤ b → s.heap.get? b = none := fun b hb => by
          cases q : s.heap.get? b with
          | none => rfl
          | some o => exact absurd (Nat.lt_of_lt_of_le (Heap.lt_size q) hb) (Nat.lt_irrefl _)
        have hv : ∀ (i : Nat) (v : Value), items[i]? = some v → ∃ p, zs[i]? = some p ∧ v = .ref p.1 := fun i v e => by
          rw [← Array.getElem?_toList, hi, List.getElem?_map] at e
          obtain ⟨p, e1, e2⟩ := Option.map_eq_some_iff.mp e
          exact ⟨p, e1, e2.symm⟩
        have hz1 : (s.heap.push (emptySet w)).objs.size = s.heap.objs.size + 1 := Heap.size_push ..
        have lt : l < s.heap.objs.size := by
          rcases hl with ⟨o, e, _⟩ | ⟨o, e, _⟩ <;> exact Heap.lt_size e
        have nI : l ≠ (s.heap.push (emptySet w)).objs.size := by rw [hz1]; exact Nat.ne_of_lt (Nat.lt_succ_of_lt lt)
        have nf : s.heap.objs.size ∉ [(s.heap.push (emptySet w)).objs.size, l] := by
          rw [hz1]
          intro z
          rcases List.mem_cons.mp z with z | z
          · exact absurd z (Nat.ne_of_lt (Nat.lt_succ_self _))
          · exact absurd (List.mem_singleton.mp z) (Nat.ne_of_gt lt)
        have hh3 : A.in1.in1.in1.handled = none := by simp [hh]
        have room := hu A.in1.in1.in1 (by simp [Around.in1])
        rcases hl with hl | hl
        · obtain ⟨ol, hol, hcl, nl, hdl⟩ := hl
          obtain ⟨ocls, odict, odata, oslots⟩ := ol
          simp only at hcl hdl
          subst hcl; subst hdl
          have hol' : (s.heap.push (emptySet w)).get? l = some { cls := .type "list", dict := odict, data := .seq items nl, slots := oslots } := Heap.get?_push_of_some _ hol
          have hsls := F.sub_list_set
          have hslf := F.sub_list_frozenset
          have hne : (Value.type "list" == Value.type "dict") = false := by decide
          have hl1 : (s.heap.push (emptySet w)).IsList l items := ⟨_, hol', rfl, nl, rfl⟩
          unfold Builtin.«set.__init__» noKeywords Builtin.Frozenset.updateFrom
          generalize hPI : pyIter = PI
          wp_walk
          subst hPI
          refine wpAny_pyIter_list hl1 (wpAny_bind (wpAny_runValue ?_))
          refine fillK kd ((Walks.list hh3 _ l nI items).toS) s.heap.objs.size nf zs isz few hv s.heap hk (nof _ (Nat.le_refl _)) (fun b hb => nof b (by rw [List.mem_singleton.mp hb, hz1]; exact Nat.le_succ _)) room items.size 0 _ (Nat.zero_add _)
            ⟨⟨_, Heap.get?_push_size _ rfl, rfl, rfl⟩, (hl1.push _)⟩ (fun b o e => Heap.get?_push_of_some _ (Heap.get?_push_of_some _ e)) ⟨[], #[], 0, _, sk_empty (Heap.get?_push_of_some _ hS), ⟨fun _ z => (nomatch z), fun _ z => (by simp at z), Nat.le_refl _⟩⟩ fun s3 ps es n tb mv S hs g => ?_
          obtain ⟨h3, g3, d3, t3, o3⟩ := s3
          obtain rfl : g3 = s.gens := mv.gens
          obtain rfl : d3 = s.drawn := mv.drawn
          obtain rfl : o3 = s.os := mv.os
          rw [isz] at hs
          exact wpAny_pure (wpAny_pure ⟨rfl, h3, t3, ps, es, n, tb, rfl, S, hs, g⟩)
        · obtain ⟨ol, hol, hcl, nl, hdl⟩ := hl
          obtain ⟨ocls, odict, odata, oslots⟩ := ol
          simp only at hcl hdl
          subst hcl; subst hdl
          have hol' : (s.heap.push (emptySet w)).get? l = some { cls := .type "tuple", dict := odict, data := .seq items nl, slots := oslots } := Heap.get?_push_of_some _ hol
          have hsls := F.sub_tuple_set
          have hslf := F.sub_tuple_frozenset
          have hne : (Value.type "tuple" == Value.type "dict") = false := by decide
          have hl1 : (s.heap.push (emptySet w)).IsTuple l items := ⟨_, hol', rfl, nl, rfl⟩
          unfold Builtin.«set.__init__» noKeywords Builtin.Frozenset.updateFrom
          generalize hPI : pyIter = PI
          wp_walk
          subst hPI
          refine wpAny_pyIter_tuple hl1 (wpAny_bind (wpAny_runValue ?_))
          refine fillK kd ((Walks.tuple hh3 _ l nI items).toS) s.heap.objs.size nf zs isz few hv s.heap hk (nof _ (Nat.le_refl _)) (fun b hb => nof b (by rw [List.mem_singleton.mp hb, hz1]; exact Nat.le_succ _)) room items.size 0 _ (Nat.zero_add _)
            ⟨⟨_, Heap.get?_push_size _ rfl, rfl, rfl⟩, (hl1.push _)⟩ (fun b o e => Heap.get?_push_of_some _ (Heap.get?_push_of_some _ e)) ⟨[], #[], 0, _, sk_empty (Heap.get?_push_of_some _ hS), ⟨fun _ z => (nomatch z), fun _ z => (by simp at z), Nat.le_refl _⟩⟩ fun s3 ps es n tb mv S hs g => ?_
          obtain ⟨h3, g3, d3, t3, o3⟩ := s3
          obtain rfl : g3 = s.gens := mv.gens
          obtain rfl : d3 = s.drawn := mv.drawn
          obtain rfl : o3 = s.os := mv.os
          rw [isz] at hs
          exact wpAny_pure (wpAny_pure ⟨rfl, h3, t3, ps, es, n, tb, rfl, S, hs, g⟩)
      · cases r₂ with
        | error e => exact hr₂
        | ok fl₂ =>
          cases fl₂ with
          | ret r =>
            obtain ⟨rfl, h', tk, ps, es, n, tb, rfl, S, hs, g⟩ := hr₂
            repeat (any_goals (first | assumption | wp_step))
            exact h _ _ _ _ _ _ S hs g
          | _ => exact hr₂.elim
    | _ => exact hr.elim
end
end DL
set_option Elab.async false
set_option linter.all false
set_option maxRecDepth 100000
set_option maxHeartbeats 4000000
namespace DL
open PySem PySem.Spec PyProof.Rows L2

/-! ### keys in tuples, however deep: None and whole numbers -/
mutual
def plainK : NestedKey → Bool
  | .none => true
  | .num _ => true
  | .text _ => false
  | .tup ks => plainKs ks
def plainKs : List NestedKey → Bool
  | [] => true
  | k :: ks => plainK k && plainKs ks
end
section
variable {P : Program} {w : World}
mutual
theorem of_nest : ∀ (k : NestedKey) (v : Value) (n : Nat) (A : Around) (E : Value → Shared → Prop) (s : Shared) (Q : Bool → Shared → Prop), NestedIs s.heap k v → k.depth ≤ n → Q false s → wpAny (model P w) A (ofAClassStatement n v) Q E s
  | .none, _, n, _, _, _, _, .none, _, q => by cases n <;> exact wpAny_pure q
  | .num _, _, n, _, _, _, _, .bool _, _, q => by cases n <;> exact wpAny_pure q
  | .num _, _, n, _, _, _, _, .int .., _, q => by cases n <;> exact wpAny_pure q
  | .text _, _, n, _, _, _, _, .text .., _, q => by cases n <;> exact wpAny_pure q
  | .tup ks, _, 0, _, _, _, _, .tup .., hd, _ => absurd hd (by unfold NestedKey.depth; omega)
  | .tup ks, _, n + 1, A, E, s, Q, .tup (a := a) ho hc hd hr, hn, q => by
    have hn' : NestedKey.depthAll ks ≤ n := by unfold NestedKey.depth at hn; omega
    have all := of_nests ks _ n A E s hr hn'
    have hT : s.TypeIs (.ref a) "tuple" := ⟨_, ho, hc⟩
    unfold ofAClassStatement
    refine wpAny_bind (wpAny_typeOf hT ?_)
    dsimp only
    simp only [show (("tuple" : String) == "tuple") = true from by decide, if_true, Bool.not_true, Bool.false_eq_true, if_false]
    try refine wpAny_bind (wpAny_pure ?_)
    try simp only [Bool.not_true, Bool.false_eq_true, if_false]
    show wpAny _ _ (seqItems? (.ref a) >>= _) _ _ s
    refine wpAny_bind (wpAny_seqItems ho hd ?_)
    dsimp only
    refine wpAny_bind ?_
    rw [← Array.forIn_toList]
    refine wpAny_forIn_list _ (fun l r s2 => r.1 = none ∧ s2 = s ∧ ∀ v ∈ l, ∀ Q : Bool → Shared → Prop, Q false s → wpAny (model P w) A (ofAClassStatement n v) Q E s) _ ?_ ?_ _ _ ⟨rfl, rfl, all⟩
    · rintro v l r s2 ⟨h1, rfl, h3⟩
      refine wpAny_bind (h3 v List.mem_cons_self _ ?_)
      simp only [Bool.false_eq_true, if_false]
      exact wpAny_pure ⟨rfl, rfl, fun u hu => h3 u (List.mem_cons_of_mem _ hu)⟩
    · rintro ⟨r1, r2⟩ s2 ⟨h1, rfl, _⟩
      obtain rfl : r1 = none := h1
      exact wpAny_pure q
theorem of_nests : ∀ (ks : List NestedKey) (vs : List Value) (n : Nat) (A : Around) (E : Value → Shared → Prop) (s : Shared), NestedAll s.heap ks vs → NestedKey.depthAll ks ≤ n → ∀ v ∈ vs, ∀ Q : Bool → Shared → Prop, Q false s → wpAny (model P w) A (ofAClassStatement n v) Q E s
  | [], _, _, _, _, _, .nil, _, v, hv, _, _ => by cases hv
  | k :: ks, _, n, A, E, s, .cons h1 h2, hd, v, hv, Q, q => by
    unfold NestedKey.depthAll at hd
    rcases List.mem_cons.mp hv with e | hv
    · rw [e]; exact of_nest k _ n A E s Q h1 (by omega) q
    · exact of_nests ks _ n A E s h2 (by omega) v hv Q q
end
mutual
theorem hv_nest : ∀ (k : NestedKey) (v : Value) (n : Nat) (A : Around) (E : Value → Shared → Prop) (s : Shared) (Q : Bool → Shared → Prop), NestedIs s.heap k v → k.depth ≤ n → plainK k = true → Q true s → wpAny (model P w) A (hashByValue n v) Q E s
  | .none, _, n, _, _, _, _, .none, _, _, q => by cases n <;> exact wpAny_pure q
  | .num _, _, n, _, _, _, _, .bool _, _, _, q => by cases n <;> exact wpAny_pure q
  | .num _, _, n, _, _, _, _, .int .., _, _, q => by cases n <;> exact wpAny_pure q
  | .text _, _, _, _, _, _, _, .text .., _, hp, _ => by cases hp
  | .tup ks, _, 0, _, _, _, _, .tup .., hd, _, _ => absurd hd (by unfold NestedKey.depth; omega)
  | .tup ks, _, n + 1, A, E, s, Q, .tup (a := a) ho hc hd hr, hn, hp, q => by
    have hn' : NestedKey.depthAll ks ≤ n := by unfold NestedKey.depth at hn; omega
    have all := hv_nests ks _ n A E s hr hn' hp
    have hT : s.TypeIs (.ref a) "tuple" := ⟨_, ho, hc⟩
    unfold hashByValue
    refine wpAny_bind (wpAny_specialOf hT F.slot_tuple_hash.lookup ?_)
    show wpAny _ _ (seqItems? (.ref a) >>= _) _ _ s
    refine wpAny_bind (wpAny_seqItems ho hd (wpAny_bind ?_))
    show wpAny _ _ (forIn _ _ _) _ _ s
    rw [← Array.forIn_toList]
    refine wpAny_forIn_list _ (fun l r s2 => r.1 = none ∧ s2 = s ∧ ∀ v ∈ l, ∀ Q : Bool → Shared → Prop, Q true s → wpAny (model P w) A (hashByValue n v) Q E s) _ ?_ ?_ _ _ ⟨rfl, rfl, all⟩
    · rintro v l r s2 ⟨h1, rfl, h3⟩
      refine wpAny_bind (h3 v List.mem_cons_self _ ?_)
      simp only [Bool.not_true, Bool.false_eq_true, if_false]
      exact wpAny_pure ⟨rfl, rfl, fun u hu => h3 u (List.mem_cons_of_mem _ hu)⟩
    · rintro ⟨r1, r2⟩ s2 ⟨h1, rfl, _⟩
      obtain rfl : r1 = none := h1
      exact wpAny_pure q
theorem hv_nests : ∀ (ks : List NestedKey) (vs : List Value) (n : Nat) (A : Around) (E : Value → Shared → Prop) (s : Shared), NestedAll s.heap ks vs → NestedKey.depthAll ks ≤ n → plainKs ks = true → ∀ v ∈ vs, ∀ Q : Bool → Shared → Prop, Q true s → wpAny (model P w) A (hashByValue n v) Q E s
  | [], _, _, _, _, _, .nil, _, _, v, hv, _, _ => by cases hv
  | k :: ks, _, n, A, E, s, .cons h1 h2, hd, hp, v, hv, Q, q => by
    unfold NestedKey.depthAll at hd
    have hp : (plainK k && plainKs ks) = true := hp
    rw [Bool.and_eq_true] at hp
    rcases List.mem_cons.mp hv with e | hv
    · rw [e]; exact hv_nest k _ n A E s Q h1 (by omega) hp.1 q
    · exact hv_nests ks _ n A E s h2 (by omega) hp.2 v hv Q q
end
def nkd (P : Program) (w : World) : HeapKind P w NestedKey where
  is := fun h k a => (nestedKind P w).is h k a ∧ plainK k = true
  hash := (nestedKind P w).hash
  draws := (nestedKind P w).draws
  room := (nestedKind P w).room
  inj := fun x y => (nestedKind P w).inj x.1 y.1
  keeps := fun x a b c => ⟨(nestedKind P w).keeps x.1 a b c, x.2⟩
  pyHash := fun a b c => (nestedKind P w).pyHash a b.1 c
  eqBool := fun a b c d => (nestedKind P w).eqBool a b.1 c.1 d
  quiet := fun a b => (nestedKind P w).quiet a.1 b
theorem nkd_ok : Kd (nkd P w) where
  st := ⟨fun k x => ⟨nestedKind_stays.stays k x.1, x.2⟩, fun x => nestedKind_stays.tuple x.1⟩
  of := fun {A E s k b Q} h q => of_nest k _ 8 A E s Q h.1.1 h.1.2 q
  hv := fun {A E s k b Q} h q => hv_nest k _ 8 A E s Q h.1.1 h.1.2 h.2 q
end
/-! keys and data -/
mutual
def nkOf : PyData → NestedKey
  | .int i => .num i
  | .str x => .text x
  | .tuple ds => .tup (nkOfs ds)
  | _ => .none
def nkOfs : List PyData → List NestedKey
  | [] => []
  | d :: ds => nkOf d :: nkOfs ds
end
mutual
/-- None, whole numbers, tuples of such -/
def keyN : PyData → Bool
  | .none => true
  | .int _ => true
  | .tuple ds => keyNs ds
  | _ => false
def keyNs : List PyData → Bool
  | [] => true
  | d :: ds => keyN d && keyNs ds
end
mutual
theorem beq_nk : ∀ d e : PyData, keyN d = true → keyN e = true → (nkOf d).beq (nkOf e) = PyData.eqv d e
  | .none, .none, _, _ => rfl
  | .none, .int _, _, _ => rfl
  | .none, .tuple _, _, _ => rfl
  | .int _, .none, _, _ => rfl
  | .int i, .int j, _, _ => by
    show decide (i = j) = (i == j)
    by_cases h : i = j
    · subst h; simp
    · rw [decide_eq_false h]; exact (beq_eq_false_iff_ne.mpr h).symm
  | .int _, .tuple _, _, _ => rfl
  | .tuple _, .none, _, _ => rfl
  | .tuple _, .int _, _, _ => rfl
  | .tuple ds, .tuple es, h1, h2 => beqs_nk ds es h1 h2
theorem beqs_nk : ∀ ds es : List PyData, keyNs ds = true → keyNs es = true → NestedKey.beqAll (nkOfs ds) (nkOfs es) = PyData.eqvAll ds es
  | [], [], _, _ => rfl
  | [], _ :: _, _, _ => rfl
  | _ :: _, [], _, _ => rfl
  | d :: ds, e :: es, h1, h2 => by
    have h1 : (keyN d && keyNs ds) = true := h1
    have h2 : (keyN e && keyNs es) = true := h2
    rw [Bool.and_eq_true] at h1 h2
    show ((nkOf d).beq (nkOf e) && NestedKey.beqAll (nkOfs ds) (nkOfs es)) = (PyData.eqv d e && PyData.eqvAll ds es)
    rw [beq_nk d e h1.1 h2.1, beqs_nk ds es h1.2 h2.2]
end
theorem eqv_nk {d e : PyData} (h1 : keyN d = true) (h2 : keyN e = true) : PyData.eqv d e = decide (nkOf d = nkOf e) := by
  rw [NestedKey.decide_eq, beq_nk d e h1 h2]
mutual
theorem plain_nk : ∀ d : PyData, keyN d = true → plainK (nkOf d) = true
  | .none, _ => rfl
  | .int _, _ => rfl
  | .tuple ds, h => plains_nk ds h
theorem plains_nk : ∀ ds : List PyData, keyNs ds = true → plainKs (nkOfs ds) = true
  | [], _ => rfl
  | d :: ds, h => by
    have h : (keyN d && keyNs ds) = true := h
    rw [Bool.and_eq_true] at h
    show (plainK (nkOf d) && plainKs (nkOfs ds)) = true
    rw [plain_nk d h.1, plains_nk ds h.2]
    rfl
end
mutual
theorem depth_nk : ∀ d : PyData, keyN d = true → (nkOf d).depth = d.depth
  | .none, _ => rfl
  | .int _, _ => rfl
  | .tuple ds, h => by
    show NestedKey.depthAll (nkOfs ds) + 1 = PyData.depth (.tuple ds)
    rw [depths_nk ds h]
    simp only [PyData.depth]
theorem depths_nk : ∀ ds : List PyData, keyNs ds = true → NestedKey.depthAll (nkOfs ds) = PyData.depthAll ds
  | [], _ => rfl
  | d :: ds, h => by
    have h : (keyN d && keyNs ds) = true := h
    rw [Bool.and_eq_true] at h
    show max (nkOf d).depth (NestedKey.depthAll (nkOfs ds)) = PyData.depthAll (d :: ds)
    rw [depth_nk d h.1, depths_nk ds h.2]
    simp only [PyData.depthAll]
end
mutual
theorem nest_of : ∀ {h : Heap} (d : PyData) (v : Value) (as : List Addr), keyN d = true → Reads h v d as → NestedIs h (nkOf d) v
  | _, .none, _, _, _, .none => .none
  | _, .int i, _, _, _, .int _ t => .int i t
  | _, .tuple ds, _, _, k, .tuple a b c r => .tup a b c (nests_of ds _ _ k r)
theorem nests_of : ∀ {h : Heap} (ds : List PyData) (vs : List Value) (as : List Addr), keyNs ds = true → ReadsAll h vs ds as → NestedAll h (nkOfs ds) vs
  | _, [], _, _, _, .nil => .nil
  | _, d :: ds, _, _, k, .cons a b => by
    have k : (keyN d && keyNs ds) = true := k
    rw [Bool.and_eq_true] at k
    exact .cons (nest_of d _ _ k.1 a) (nests_of ds _ _ k.2 b)
end
end DL
set_option Elab.async false
set_option linter.all false
set_option maxRecDepth 100000
set_option maxHeartbeats 4000000
namespace DL
open PySem PySem.Spec PyProof.Rows L2

/-! ### sets, made and asked at once -/
def nubD : List PyData → List PyData
  | [] => []
  | x :: xs => x :: (nubD xs).filter fun y => !PyData.eqv x y
def nubK : List NestedKey → List NestedKey
  | [] => []
  | x :: xs => x :: (nubK xs).filter fun y => !decide (x = y)
theorem nubK_mem {k : NestedKey} : ∀ {l : List NestedKey}, k ∈ nubK l ↔ k ∈ l
  | [] => Iff.rfl
  | x :: l => by
    show k ∈ x :: (nubK l).filter _ ↔ _
    rw [List.mem_cons, List.mem_filter, nubK_mem, List.mem_cons]
    by_cases h : x = k
    · simp [h]
    · simp [h, Ne.symm h]
theorem nubK_nodup : ∀ l : List NestedKey, (nubK l).Nodup
  | [] => List.nodup_nil
  | x :: l => List.nodup_cons.mpr ⟨fun h => by simpa using (List.mem_filter.mp h).2, (nubK_nodup l).filter _⟩
theorem keyNs_mem : ∀ {ds : List PyData}, keyNs ds = true → ∀ d ∈ ds, keyN d = true
  | d :: ds, h, e, he => by
    have h : (keyN d && keyNs ds) = true := h
    rw [Bool.and_eq_true] at h
    rcases List.mem_cons.mp he with z | z
    · rw [z]; exact h.1
    · exact keyNs_mem h.2 e z
theorem nkOfs_map : ∀ ds : List PyData, nkOfs ds = ds.map nkOf
  | [] => rfl
  | d :: ds => by
    show nkOf d :: nkOfs ds = _
    rw [nkOfs_map ds]
    rfl
theorem nubD_sub {d : PyData} : ∀ {ds : List PyData}, d ∈ nubD ds → d ∈ ds
  | x :: ds, h => by
    rcases List.mem_cons.mp (show d ∈ x :: (nubD ds).filter _ from h) with z | z
    · rw [z]; exact List.mem_cons_self
    · exact List.mem_cons_of_mem _ (nubD_sub (List.mem_filter.mp z).1)
theorem nub_nk : ∀ {ds : List PyData}, (∀ d ∈ ds, keyN d = true) → (nubD ds).map nkOf = nubK (ds.map nkOf)
  | [], _ => rfl
  | x :: ds, h => by
    show nkOf x :: ((nubD ds).filter _).map nkOf = nkOf x :: (nubK (ds.map nkOf)).filter _
    rw [← nub_nk fun d hd => h d (List.mem_cons_of_mem _ hd), List.filter_map]
    refine congrArg _ (congrArg _ (List.filter_congr fun d hd => ?_))
    show (!PyData.eqv x d) = !decide (nkOf x = nkOf d)
    rw [eqv_nk (h x List.mem_cons_self) (h d (List.mem_cons_of_mem _ (nubD_sub hd)))]
theorem has_len {κ : Type} [DecidableEq κ] {zs ps : List (Addr × κ)} (g : HasK zs zs.length ps) {l : List κ} (hn : l.Nodup) (hm : ∀ k, k ∈ l ↔ k ∈ zs.map Prod.snd) (one : (ps.map Prod.snd).Nodup) : (ps.map Prod.snd).Perm l := by
  have t : zs.take zs.length = zs := List.take_length
  refine (List.perm_ext_iff_of_nodup one hn).mpr fun k => ?_
  rw [hm]
  constructor
  · intro h
    obtain ⟨p, hp, rfl⟩ := List.mem_map.mp h
    have := g.of p hp
    rw [t] at this
    exact List.mem_map_of_mem this
  · intro h
    obtain ⟨p, hp, rfl⟩ := List.mem_map.mp h
    exact g.all p (by rw [t]; exact hp)
def allTup (ds : List PyData) : Bool := ds.all PyData.isTuple
section
variable {X : Cx} {pins : List (Addr × Obj)} {σ : St} {s : Shared}
/-- the items of a list of keys, in the heap -/
theorem keys_at {G H : Hp} (I : Inv X pins σ H s) (sm : Same G H) : ∀ {vs : List V} {ds : List PyData} {us : List Value}, IsAll G vs ds → Vals vs us → keyNs ds = true → allTup ds = true → PyData.depthAll ds ≤ 8 → ∃ zs : List (Addr × NestedKey), us = zs.map (fun z => Value.ref z.1) ∧ vs = zs.map (fun z => V.ref z.1) ∧ zs.map Prod.snd = ds.map nkOf ∧ ∀ z ∈ zs, (nkd X.prog X.w).is s.heap z.2 z.1
  | _, _, _, .nil, .nil, _, _, _ => ⟨[], rfl, rfl, rfl, fun _ h => nomatch h⟩
  | _, _, _, .cons (d := d) (ds := ds) a r, .cons (b := u) ru rr, k, t, dp => by
    have k : (keyN d && keyNs ds) = true := k
    rw [Bool.and_eq_true] at k
    unfold allTup at t
    rw [List.all_cons, Bool.and_eq_true] at t
    have dp2 : d.depth ≤ 8 ∧ PyData.depthAll ds ≤ 8 := by
      simp only [PyData.depthAll] at dp
      omega
    obtain ⟨zs, e1, e2, e3, e4⟩ := keys_at I sm r rr k.2 t.2 dp2.2
    cases a with
    | @tup a ws es h1 h2 =>
      obtain rfl : u = Value.ref a := ru
      obtain ⟨as, rd⟩ := Dp.reads I _ (.ref a) (.ref a) ((Is.tup h1 h2).same sm).dp rfl
      refine ⟨(a, nkOf (.tuple es)) :: zs, by rw [List.map_cons, e1], by rw [List.map_cons, e2], by rw [List.map_cons, List.map_cons, e3], fun z hz => ?_⟩
      rcases List.mem_cons.mp hz with e | hz
      · rw [e]
        exact ⟨⟨nest_of _ _ _ k.1 rd, by rw [depth_nk _ k.1]; exact dp2.1⟩, plain_nk _ k.1⟩
      · exact e4 z hz
    | _ => exact absurd t.1 (by simp [PyData.isTuple])
end
def setOk (ds : List PyData) : Bool := keyNs ds && allTup ds && decide (ds.length < 64 ∧ PyData.depthAll ds ≤ 8)
def fLenSet (f : Sg → Res (Opd × Sg)) : Sg → Res (Opd × Sg) := fun sg => (fFz f sg).bind fun a => match a.1 with
  | .v od => (Res.of od.kidA).bind fun ds => (guardR (setOk ds)).bind fun _ => .ok (.v (.f (.int (nubD ds).length)), a.2)
  | .i _ => .stuck
noncomputable def fSortSet (f : Sg → Res (Opd × Sg)) : Sg → Res (Opd × Sg) := fun sg => (fFz f sg).bind fun a => match a.1 with
  | .v od => (Res.of od.kidA).bind fun ds => (guardR (setOk ds)).bind fun _ => (guardP (SortOk ds)).bind fun _ => .ok (.v (.l ((sortD (nubD ds)).map .f)), a.2)
  | .i _ => .stuck
def tLenSetK (X : Cx) (ta : TE) : TE := fun σ H Q => ta σ H fun x H1 => ∃ (G : Hp) (l : Addr) (vs : List V) (ds : List PyData), Same G H1 ∧ x = .ref l ∧ (SqL X.K H1 l vs ∨ SqT X.K H1 l vs) ∧ IsAll G vs ds ∧ setOk ds = true ∧ Q (.int (nubD ds).length) H1
theorem setOk_of {ds : List PyData} (h : setOk ds = true) : keyNs ds = true ∧ allTup ds = true ∧ ds.length < 64 ∧ PyData.depthAll ds ≤ 8 := by
  unfold setOk at h
  rw [Bool.and_eq_true, Bool.and_eq_true] at h
  exact ⟨h.1.1, h.1.2, of_decide_eq_true h.2⟩
theorem pe_lenSetK {C : Ctx} {X : Cx} (ok : C.Ok X) {a : Expr} {ta : TE} {p p2 q pos : Pos} (hg : Gl X "len") (hm : X.mg "len" = none) (hg2 : Gl X "set") (hm2 : X.mg "set" = none) (ha : PE X a ta) (na : starEach [a] X.env = (false, eval a X.env) :: starEach [] X.env := by rfl) :
    PE X (.Call (.Name "len" p) [.Call (.Name "set" p2) [a] [] q] [] pos) (tLenSetK X ta) := by
  refine ⟨fun pins s σ H Q I h => ?_⟩
  refine Call_ (ld_blt I hg hm PySem.boot_len (PyProof.Rows.callWith_builtin1 (PyProof.Rows.args_cons ?_ rfl) rfl rfl))
  refine Call_ (ld_blt I hg2 hm2 PyProof.Rows.boot_set (PyProof.Rows.callWith_type1 (PyProof.Rows.args_cons (thn (ha.run pins s σ H _ I h) fun v s1 ⟨x, H1, J, r1, q1⟩ => PyProof.Rows.args_nil ?_) na) na rfl))
  obtain ⟨G, l, vs, ds, sm, rfl, hq, ia, so, q1⟩ := q1
  cases r1
  obtain ⟨k1, k2, k3, k4⟩ := setOk_of so
  have src : ∃ its : List Value, Vals vs its ∧ SrcK s1.heap l its.toArray := by
    rcases hq with hq | hq
    · obtain ⟨its, rv, pl, _⟩ := J.list hq; exact ⟨its, rv, .inl pl.isList⟩
    · obtain ⟨its, rv, pl, _⟩ := J.tuple hq; exact ⟨its, rv, .inr (show s1.heap.IsTuple l its.toArray from pl)⟩
  obtain ⟨its, rv, src⟩ := src
  obtain ⟨zs, e1, e2, e3, e4⟩ := keys_at J sm ia rv k1 k2 k4
  have zl : zs.length = ds.length := by rw [← List.length_map (f := Prod.snd), e3, List.length_map]
  refine call_setK nkd_ok zs (J.ok.hd ok.calm) src (by simpa using e1) e4 (by omega) (fun B hB => by
    have := ok.room.un
    show B.units + 8 < cLine
    omega) fun h' tk ps es n tb S hs g => PyProof.Rows.args_nil ?_
  have J2 : Inv X pins σ H1 { s1 with heap := h', toks := tk } := J.kept g
  obtain ⟨ob, ho, hx, hd⟩ := S.obj
  have pl := has_len hs (nubK_nodup (ds.map nkOf)) (fun k => by rw [nubK_mem, e3]) S.one
  have sz : es.size = (nubD ds).length := by
    rw [S.esz, ← List.length_map (f := Prod.snd), pl.length_eq, ← nub_nk (keyNs_mem k1), List.length_map]
  have few := S.few
  have e5 := S.esz
  exact call_len_set ho hx hd S.fit (by omega) ⟨.int (nubD ds).length, H1, J2.tok _, ⟨_, by rw [sz]⟩, q1⟩
section
variable {C : Ctx} {e : Expr} {f : Sg → Res (Opd × Sg)} {p p2 pos pos2 : Pos}
theorem de_lenSet (hb : Bi C "len") (hs : Bi C "set") (h : DE C e f) (na : ∀ env, starEach [e] env = (false, eval e env) :: starEach [] env := by intro _; rfl) : DE C (.Call (.Name "len" p) [.Call (.Name "set" p2) [e] [] pos2] [] pos) (fLenSet f) := by
  intro X ok W tk sg
  refine pe_weak (pe_lenSetK ok (ok.glob hb.1) (by rw [ok.mg]; exact hb.2) (ok.glob hs.1) (by rw [ok.mg]; exact hs.2) (de_fz h X ok W tk sg) (na _)) fun σ H Q ⟨G, F, R, q⟩ => ⟨G, F, R, FG.bind q (fun _ e => e) fun a ea q' v G' H' F' fp at' hv => ?_⟩
  obtain ⟨od, eo, fr⟩ := fFz_fr ea
  obtain ⟨o, s1⟩ := a
  have eo : o = .v od := eo
  subst eo
  obtain ⟨ds, ek, q1⟩ := q'.of
  obtain ⟨so, q1⟩ := q1.guard
  have hn := hv.opn
  cases hn with
  | v w n =>
    obtain ⟨a, vs, rfl, hs, r⟩ := w.kidG fr ek
    refine ⟨G', a, vs, ds, at'.rel.sub, rfl, ?_, r, so, okE.fro q1 at' (.int _)⟩
    rw [ok.K]
    exact hs.imp at'.rel.sub.seq (sqT_same at'.rel.sub)
theorem dss_never {st : List Stmt} : DSs C st fStuck := by
  intro X ok W tk sg
  exact ⟨fun pins s σ H D I ⟨G, F, R, q⟩ => q.elim⟩
end
theorem FnAt.mono {B : Bs} {j k : Nat} {x : Str} {sp : Sp} (h : FnAt B j x sp) (l : j ≤ k) : FnAt B k x sp := by
  obtain ⟨f, fd, ps, F, r⟩ := h.ex
  exact ⟨f, fd, ps, F.mono l, r⟩
end DL
set_option Elab.async false
set_option linter.all false
set_option maxRecDepth 100000
set_option maxHeartbeats 4000000
namespace DL
open PySem PySem.Spec PyProof.Rows L2

/-! ### list(range(n)) -/
def fLstRg (f : Sg → Res (Opd × Sg)) : Sg → Res (Opd × Sg) := fun sg => (f sg).bind fun a => match a.1.dat a.2 with
  | some (.int j) => (guardR (decide (0 ≤ j ∧ j ≤ 1000000))).bind fun _ => .ok (.v (.l ((rngD 0 j.toNat).map .f)), a.2)
  | _ => .stuck
theorem isAll_rg {G : Hp} (j : Int) : IsAll G (rgV 0 j) (rngD 0 j.toNat) := by
  have key : ∀ l : List Nat, IsAll G (l.map fun (i : Nat) => V.int (0 + (i : Int))) (l.map fun (i : Nat) => PyData.int (0 + (i : Int))) := fun l => by
    induction l with
    | nil => exact .nil
    | cons i l ih => exact .cons (.int _) ih
  unfold rgV rngD
  rw [show (j - 0).toNat = j.toNat by rw [Int.sub_zero]]
  exact key _
theorem de_listRg {C : Ctx} {e : Expr} {f : Sg → Res (Opd × Sg)} {p p2 pos pos2 : Pos} (hl : Bi C "list") (hb : Bi C "range") (h : DE C e f) (hs : ∀ env, starEach [e] env = (false, eval e env) :: starEach [] env := by intro _; rfl)
    (hs2 : ∀ env, starEach [.Call (.Name "range" p2) [e] [] pos2] env = (false, eval (.Call (.Name "range" p2) [e] [] pos2) env) :: starEach [] env := by intro _; rfl) : DE C (.Call (.Name "list" p) [.Call (.Name "range" p2) [e] [] pos2] [] pos) (fLstRg f) := by
  intro X ok W tk sg
  refine pe_weak (pe_listRg ok.calm (ok.glob hl.1) (by rw [ok.mg]; exact hl.2) (prg_1 (ok.glob hb.1) (by rw [ok.mg]; exact hb.2) (h X ok W tk sg) (hs _)) (hs2 _)) fun σ H Q ⟨G, F, R, q⟩ => ⟨G, F, R, FG.bind q (fun _ e => e) fun a ea q' v G' H' F' fp at' hv => ?_⟩
  split at q'
  · rename_i j ej
    obtain ⟨g, q1⟩ := q'.guard
    have g := of_decide_eq_true g
    have ev := dp_int (hv.opn.dp at'.rel ej)
    subst ev
    exact ⟨j, rfl, RgOk.of_le (by omega) (by omega) (by omega) (by omega), fun p hp => okE.lst q1 at' (isAll_rg j) hp⟩
  · exact q'.elim

/-! ### the law's own def -/
def spL (K : PySem.W.Frag) : Sp := fun vs H Q _ => ∃ (a : Addr) (ns : List Int), vs = [.ref a] ∧ SqL K H a (ns.map V.int) ∧ ns.length ≤ 63 ∧ ∀ H', Q (.bl true) H'
theorem law_ok {P : Program} {w : World} {K : PySem.W.Frag} {mg : Str → Option Value} {base : Heap} {k : Nat} {f : Addr} {fd : FuncData} {x : Str} {xc : Nat → Addr} {sem : List OD → Res OD} (F : FnOk P w K mg base (L2.CX P w) k f fd [x] (spP K xc 1 sem))
    (h : ∀ ns : List Int, ns.length ≤ 63 → sem [.s (ns.map PyData.int)] = .ok (.f (.bool true))) : FnOk P w K mg base CX0 k f fd [x] (spL K) where
  len := fun vs H Q E ⟨a, ns, e, _⟩ => by rw [e]; rfl
  run := fun A outer s H args us vs Q E hr he hb hv ⟨a, ns, e, hq, hl, q⟩ => by
    subst e
    refine codeAny_mono (F.run A outer s H args us [.ref a] Q (fun _ _ _ => False) hr he hb hv ⟨H, [.s (ns.map PyData.int)], Same.refl _, rfl, .cons (.s hq (isAll_int ns)) .nil, ?_⟩) fun r s' z => ?_
    · rw [h ns hl]
      intro v G' H' fp x s2 w2 n2
      cases w2 with
      | f w2 =>
        cases w2
        exact q H'
    · cases r with
      | ok fl => cases fl <;> exact z
      | error e =>
        obtain ⟨_, _, _, _, _, _, _, _, _, _, _, _, z⟩ := z
        exact z.elim
end DL
set_option Elab.async false
set_option linter.all false
set_option maxRecDepth 100000
set_option maxHeartbeats 4000000
namespace DL
open PySem PySem.Spec PyProof.Rows L2

/-! ### the senses, applied -/
abbrev ES := Opd × Sg
abbrev FE := Sg → Res (Opd × Sg)

def cCons1 (g : Sg → Res (List Opd × Sg)) (r : Res ES) : Res (List Opd × Sg) := r.bind fun a => (g a.2).bind fun b => .ok (a.1 :: b.1, b.2)
def cCons2 (x : Opd) (r : Res (List Opd × Sg)) : Res (List Opd × Sg) := r.bind fun b => .ok (x :: b.1, b.2)
@[simp] theorem fCons_ap (f : FE) (g : Sg → Res (List Opd × Sg)) (sg : Sg) : fCons f g sg = cCons1 g (f sg) := rfl
@[simp] theorem cCons1_ok (g : Sg → Res (List Opd × Sg)) (x : Opd) (s : Sg) : cCons1 g (.ok (x, s)) = cCons2 x (g s) := rfl
@[simp] theorem cCons2_ok (x : Opd) (xs : List Opd) (s : Sg) : cCons2 x (.ok (xs, s)) = .ok (x :: xs, s) := rfl
def cTwo1 (fb : FE) (k : Opd → Opd → Sg → Res ES) (r : Res ES) : Res ES := r.bind fun a => (fb a.2).bind fun b => k a.1 b.1 b.2
def cTwo2 (x : Opd) (k : Opd → Opd → Sg → Res ES) (r : Res ES) : Res ES := r.bind fun b => k x b.1 b.2
@[simp] theorem fTwo_ap (fa fb : FE) (k : Opd → Opd → Sg → Res ES) (sg : Sg) : fTwo fa fb k sg = cTwo1 fb k (fa sg) := rfl
@[simp] theorem cTwo1_ok (fb : FE) (k : Opd → Opd → Sg → Res ES) (x : Opd) (s : Sg) : cTwo1 fb k (.ok (x, s)) = cTwo2 x k (fb s) := rfl
@[simp] theorem cTwo2_ok (x : Opd) (k : Opd → Opd → Sg → Res ES) (y : Opd) (s : Sg) : cTwo2 x k (.ok (y, s)) = k x y s := rfl
def cChain1 (p p' : P2) (fb fc : FE) (r : Res ES) : Res ES := r.bind fun a => (fb a.2).bind fun b => (Res.of ((a.1.dat b.2).bind fun d => (b.1.dat b.2).bind fun e => p d e)).bind fun k => if k = true then (fc b.2).bind fun c => cmpK p' b.1 c.1 c.2 else .ok (.v (.f (.bool false)), b.2)
def cChain2 (p p' : P2) (x : Opd) (fc : FE) (r : Res ES) : Res ES := r.bind fun b => (Res.of ((x.dat b.2).bind fun d => (b.1.dat b.2).bind fun e => p d e)).bind fun k => if k = true then (fc b.2).bind fun c => cmpK p' b.1 c.1 c.2 else .ok (.v (.f (.bool false)), b.2)
def cChain3 (p' : P2) (y : Opd) (s : Sg) (fc : FE) (o : Option Bool) : Res ES := (Res.of o).bind fun k => if k = true then (fc s).bind fun c => cmpK p' y c.1 c.2 else .ok (.v (.f (.bool false)), s)
def cChain4 (p' : P2) (y : Opd) (r : Res ES) : Res ES := r.bind fun c => cmpK p' y c.1 c.2
@[simp] theorem fChain_ap (p p' : P2) (fa fb fc : FE) (sg : Sg) : fChain p p' fa fb fc sg = cChain1 p p' fb fc (fa sg) := rfl
@[simp] theorem cChain1_ok (p p' : P2) (fb fc : FE) (x : Opd) (s : Sg) : cChain1 p p' fb fc (.ok (x, s)) = cChain2 p p' x fc (fb s) := rfl
@[simp] theorem cChain2_ok (p p' : P2) (x y : Opd) (fc : FE) (s : Sg) : cChain2 p p' x fc (.ok (y, s)) = cChain3 p' y s fc ((x.dat s).bind fun d => (y.dat s).bind fun e => p d e) := rfl
@[simp] theorem cChain3_ok (p' : P2) (y : Opd) (s : Sg) (fc : FE) (k : Bool) : cChain3 p' y s fc (some k) = if k = true then cChain4 p' y (fc s) else .ok (.v (.f (.bool false)), s) := rfl
@[simp] theorem cChain4_ok (p' : P2) (y z : Opd) (s : Sg) : cChain4 p' y (.ok (z, s)) = cmpK p' y z s := rfl
def cAndT (g : Sg → Res (Bool × Sg)) (r : Res (Bool × Sg)) : Res (Bool × Sg) := r.bind fun a => if a.1 = true then g a.2 else .ok (false, a.2)
@[simp] theorem fAndT_ap (f g : Sg → Res (Bool × Sg)) (sg : Sg) : fAndT f g sg = cAndT g (f sg) := rfl
@[simp] theorem cAndT_ok (g : Sg → Res (Bool × Sg)) (b : Bool) (s : Sg) : cAndT g (.ok (b, s)) = if b = true then g s else .ok (false, s) := rfl
def cOrT (g : Sg → Res (Bool × Sg)) (r : Res (Bool × Sg)) : Res (Bool × Sg) := r.bind fun a => if a.1 = true then .ok (true, a.2) else g a.2
@[simp] theorem fOrT_ap (f g : Sg → Res (Bool × Sg)) (sg : Sg) : fOrT f g sg = cOrT g (f sg) := rfl
@[simp] theorem cOrT_ok (g : Sg → Res (Bool × Sg)) (b : Bool) (s : Sg) : cOrT g (.ok (b, s)) = if b = true then .ok (true, s) else g s := rfl
def cAnd (g : FE) (r : Res (Bool × Sg)) : Res ES := r.bind fun a => if a.1 = true then g a.2 else .ok (.v (.f (.bool false)), a.2)
@[simp] theorem fAnd_ap (f g : FE) (sg : Sg) : fAnd f g sg = cAnd g (fB f sg) := rfl
@[simp] theorem cAnd_ok (g : FE) (b : Bool) (s : Sg) : cAnd g (.ok (b, s)) = if b = true then g s else .ok (.v (.f (.bool false)), s) := rfl
def cOr (g : FE) (r : Res (Bool × Sg)) : Res ES := r.bind fun a => if a.1 = true then .ok (.v (.f (.bool true)), a.2) else g a.2
@[simp] theorem fOr_ap (f g : FE) (sg : Sg) : fOr f g sg = cOr g (fB f sg) := rfl
@[simp] theorem cOr_ok (g : FE) (b : Bool) (s : Sg) : cOr g (.ok (b, s)) = if b = true then .ok (.v (.f (.bool true)), s) else g s := rfl
def cIf (f g : FE) (r : Res (Bool × Sg)) : Res ES := r.bind fun a => if a.1 = true then f a.2 else g a.2
@[simp] theorem fIf_ap (t : Sg → Res (Bool × Sg)) (f g : FE) (sg : Sg) : fIf t f g sg = cIf f g (t sg) := rfl
@[simp] theorem cIf_ok (f g : FE) (b : Bool) (s : Sg) : cIf f g (.ok (b, s)) = if b = true then f s else g s := rfl
def cIfS (f g : Sg → Res Ou) (r : Res (Bool × Sg)) : Res Ou := r.bind fun a => if a.1 = true then f a.2 else g a.2
@[simp] theorem fIfS_ap (t : Sg → Res (Bool × Sg)) (f g : Sg → Res Ou) (sg : Sg) : fIfS t f g sg = cIfS f g (t sg) := rfl
@[simp] theorem cIfS_ok (f g : Sg → Res Ou) (b : Bool) (s : Sg) : cIfS f g (.ok (b, s)) = if b = true then f s else g s := rfl
def cSeq (g : Sg → Res Ou) (r : Res Ou) : Res Ou := r.bind fun o => match o with
  | .nx s => g s
  | .rt od s => .ok (.rt od s)
@[simp] theorem fSeq_ap (f g : Sg → Res Ou) (sg : Sg) : fSeq f g sg = cSeq g (f sg) := rfl
@[simp] theorem cSeq_nx (g : Sg → Res Ou) (s : Sg) : cSeq g (.ok (.nx s)) = g s := rfl
@[simp] theorem cSeq_rt (g : Sg → Res Ou) (od : OD) (s : Sg) : cSeq g (.ok (.rt od s)) = .ok (.rt od s) := rfl
def cMeth1 (ty : OD → Bool) (ga : Sg → Res (List Opd × Sg)) (k : Opd → List Opd → Sg → Res ES) (r : Res ES) : Res ES := r.bind fun a => (Res.of (a.1.od a.2)).bind fun od => (guardR (ty od)).bind fun _ => (ga a.2).bind fun b => k a.1 b.1 b.2
def cMeth2 (ty : OD → Bool) (x : Opd) (s : Sg) (ga : Sg → Res (List Opd × Sg)) (k : Opd → List Opd → Sg → Res ES) (o : Option OD) : Res ES := (Res.of o).bind fun od => (guardR (ty od)).bind fun _ => (ga s).bind fun b => k x b.1 b.2
def cMeth3 (x : Opd) (k : Opd → List Opd → Sg → Res ES) (r : Res (List Opd × Sg)) : Res ES := r.bind fun b => k x b.1 b.2
@[simp] theorem fMeth_ap (ty : OD → Bool) (fo : FE) (ga : Sg → Res (List Opd × Sg)) (k : Opd → List Opd → Sg → Res ES) (sg : Sg) : fMeth ty fo ga k sg = cMeth1 ty ga k (fo sg) := rfl
@[simp] theorem cMeth1_ok (ty : OD → Bool) (ga : Sg → Res (List Opd × Sg)) (k : Opd → List Opd → Sg → Res ES) (x : Opd) (s : Sg) : cMeth1 ty ga k (.ok (x, s)) = cMeth2 ty x s ga k (x.od s) := rfl
@[simp] theorem cMeth2_ok (ty : OD → Bool) (x : Opd) (s : Sg) (ga : Sg → Res (List Opd × Sg)) (k : Opd → List Opd → Sg → Res ES) (od : OD) : cMeth2 ty x s ga k (some od) = if ty od = true then cMeth3 x k (ga s) else .stuck := by
  unfold cMeth2 guardR
  show ((if ty od = true then (Res.ok () : Res Unit) else .stuck).bind fun _ => (ga s).bind fun b => k x b.1 b.2) = _
  split <;> rfl
@[simp] theorem cMeth3_ok (x : Opd) (k : Opd → List Opd → Sg → Res ES) (ys : List Opd) (s : Sg) : cMeth3 x k (.ok (ys, s)) = k x ys s := rfl
def cGet1 (fa : FE) (r : Res ES) : Res ES := r.bind fun a => (Res.of (a.1.od a.2)).bind fun od => (guardR (isD od)).bind fun _ => (fa a.2).bind fun b => get1K a.1 b.1 b.2
@[simp] theorem fGet2_ap (fo fa fb : FE) (sg : Sg) : fGet2 fo fa fb sg = (fo sg).bind fun a => (Res.of (a.1.od a.2)).bind fun od => (guardR (isD od)).bind fun _ => (fa a.2).bind fun b => (fb b.2).bind fun c => get2K a.1 b.1 c.1 c.2 := rfl
def cSt1 (n : Nat) (fi : FE) (r : Res ES) : Res Ou := r.bind fun a => match a.1 with
  | .v od => (fV n a.2).bind fun _ => (fi a.2).bind fun i => (storeK n i.1 od i.2).bind fun s => .ok (.nx s)
  | .i _ => .stuck
def cSt2 (n : Nat) (od : OD) (r : Res ES) : Res Ou := r.bind fun i => (storeK n i.1 od i.2).bind fun s => .ok (.nx s)
def cSt3 (r : Res Sg) : Res Ou := r.bind fun s => .ok (.nx s)
@[simp] theorem fSt_ap (n : Nat) (fe fi : FE) (sg : Sg) : fSt n fe fi sg = cSt1 n fi (fTk fe sg) := rfl
theorem cSt1_ok (n : Nat) (fi : FE) (od d : OD) (s : Sg) (h : s[n]? = some (some d)) : cSt1 n fi (.ok (.v od, s)) = cSt2 n od (fi s) := by
  show ((fV n s).bind fun _ => (fi s).bind fun i => (storeK n i.1 od i.2).bind fun s => (.ok (Ou.nx s) : Res Ou)) = _
  unfold fV
  rw [h]
  rfl
@[simp] theorem cSt2_ok (n : Nat) (od : OD) (i : Opd) (s : Sg) : cSt2 n od (.ok (i, s)) = cSt3 (storeK n i od s) := rfl
@[simp] theorem cSt3_ok (s : Sg) : cSt3 (.ok s) = .ok (.nx s) := rfl
def cDict1 (fv : FE) (r : Res ES) : Res ES := r.bind fun a => (fTk fv a.2).bind fun b => match a.1, b.1 with
  | .v (.f k), .v (.f v) => (guardR (keyF k)).bind fun _ => .ok (.v (.m false [(k, .f v)]), b.2)
  | _, _ => .stuck
def cDict2 (x : Opd) (r : Res ES) : Res ES := r.bind fun b => match x, b.1 with
  | .v (.f k), .v (.f v) => (guardR (keyF k)).bind fun _ => .ok (.v (.m false [(k, .f v)]), b.2)
  | _, _ => .stuck
@[simp] theorem fDict1_ap (fk fv : FE) (sg : Sg) : fDict1 fk fv sg = cDict1 fv (fTk fk sg) := rfl
@[simp] theorem cDict1_ok (fv : FE) (x : Opd) (s : Sg) : cDict1 fv (.ok (x, s)) = cDict2 x (fTk fv s) := rfl
@[simp] theorem cDict2_ok (k v : PyData) (s : Sg) : cDict2 (.v (.f k)) (.ok (.v (.f v), s)) = if keyF k = true then .ok (.v (.m false [(k, .f v)]), s) else .stuck := by
  show ((guardR (keyF k)).bind fun _ => (.ok (.v (.m false [(k, .f v)]), s) : Res ES)) = _
  unfold guardR
  split <;> rfl
def cSlice1 (l h : Sg → Res (Option Int × Sg)) (r : Res ES) : Res ES := r.bind fun a => (l a.2).bind fun b => (h b.2).bind fun c => sliceK a.1 b.1 c.1 c.2
def cSlice2 (x : Opd) (h : Sg → Res (Option Int × Sg)) (r : Res (Option Int × Sg)) : Res ES := r.bind fun b => (h b.2).bind fun c => sliceK x b.1 c.1 c.2
def cSlice3 (x : Opd) (lo : Option Int) (r : Res (Option Int × Sg)) : Res ES := r.bind fun c => sliceK x lo c.1 c.2
@[simp] theorem fSlice_ap (f : FE) (l h : Sg → Res (Option Int × Sg)) (sg : Sg) : fSlice f l h sg = cSlice1 l h (f sg) := rfl
@[simp] theorem cSlice1_ok (l h : Sg → Res (Option Int × Sg)) (x : Opd) (s : Sg) : cSlice1 l h (.ok (x, s)) = cSlice2 x h (l s) := rfl
@[simp] theorem cSlice2_ok (x : Opd) (h : Sg → Res (Option Int × Sg)) (lo : Option Int) (s : Sg) : cSlice2 x h (.ok (lo, s)) = cSlice3 x lo (h s) := rfl
@[simp] theorem cSlice3_ok (x : Opd) (lo hi : Option Int) (s : Sg) : cSlice3 x lo (.ok (hi, s)) = sliceK x lo hi s := rfl
@[simp] theorem od_v (s : Sg) (od : OD) : Opd.od s (.v od) = some od := rfl
@[simp] theorem od_i (s : Sg) (n : Nat) : Opd.od s (.i n) = (s[n]?).join := by
  show (match s[n]? with
    | some (some od) => some od
    | _ => none) = _
  generalize s[n]? = y
  cases y with
  | none => rfl
  | some x => cases x <;> rfl
@[simp] theorem dat_ap (s : Sg) (o : Opd) : Opd.dat s o = (Opd.od s o).bind OD.dt := rfl
@[simp] theorem er_ap (s : Sg) (o : Opd) : Opd.er s o = (Opd.od s o).bind OD.er := rfl
@[simp] theorem dt_f (d : PyData) : OD.dt (.f d) = some d := rfl
@[simp] theorem dt_s (ds : List PyData) : OD.dt (.s ds) = some (.list ds) := rfl
@[simp] theorem er_f (d : PyData) : OD.er (.f d) = some d := by unfold OD.er; rfl
theorem ers_f : ∀ ds : List PyData, OD.ers (ds.map .f) = some ds
  | [] => by unfold OD.ers; rfl
  | d :: ds => by
    rw [List.map_cons]
    unfold OD.ers
    rw [ers_f ds, er_f]
@[simp] theorem er_l (ds : List PyData) : OD.er (.l (ds.map .f)) = some (.list ds) := by
  unfold OD.er
  rw [ers_f]
  rfl
@[simp] theorem dt_l (ds : List PyData) : OD.dt (.l (ds.map .f)) = some (.list ds) := by
  show (OD.ers (ds.map .f)).map PyData.list = _
  rw [ers_f]
  rfl
@[simp] theorem fz_f (d : PyData) : OD.fz (.f d) = some (.f d) := rfl
@[simp] theorem fz_s (ds : List PyData) : OD.fz (.s ds) = some (.s ds) := rfl
@[simp] theorem fz_g (t : Bool) (kvs : List (PyData × PyData)) : OD.fz (.g t kvs) = some (.g t kvs) := rfl
@[simp] theorem fz_l (ds : List PyData) : OD.fz (.l (ds.map .f)) = some (.f (.list ds)) := by
  show (OD.ers (ds.map .f)).map (fun ds => OD.f (.list ds)) = _
  rw [ers_f]
  rfl
theorem frs_f : ∀ ds : List PyData, frsO (ds.map .f) = some ds
  | [] => rfl
  | d :: ds => by
    show (frsO (ds.map .f)).map (d :: ·) = _
    rw [frs_f ds]
    rfl
@[simp] theorem kid_l (ds : List PyData) : OD.kid (.l (ds.map .f)) = some ds := frs_f ds
@[simp] theorem kid_f (ds : List PyData) : OD.kid (.f (.list ds)) = some ds := rfl
@[simp] theorem kidA_l (ds : List PyData) : OD.kidA (.l (ds.map .f)) = some ds := frs_f ds
@[simp] theorem kidA_f (ds : List PyData) : OD.kidA (.f (.list ds)) = some ds := rfl
@[simp] theorem kidA_t (ds : List PyData) : OD.kidA (.f (.tuple ds)) = some ds := rfl
@[simp] theorem kidA_s (ds : List PyData) : OD.kidA (.s ds) = some ds := rfl
@[simp] theorem frzO_v (od : OD) (s : Sg) : frzO (.v od) s = od.fz.map fun od' => (od', s) := rfl
@[simp] theorem frzO_i (n : Nat) (s : Sg) : frzO (.i n) s = takeO (.i n) s := rfl
@[simp] theorem takeO_v (od : OD) (s : Sg) : takeO (.v od) s = some (od, s) := rfl
@[simp] theorem takeO_i (n : Nat) (s : Sg) : takeO (.i n) s = ((s[n]?).join).bind fun od => od.fz.map fun od' => (od', s.set n (some od')) := by
  show (match s[n]? with
    | some (some od) => od.fz.map fun od' => (od', s.set n (some od'))
    | _ => none) = _
  generalize s[n]? = y
  cases y with
  | none => rfl
  | some x => cases x <;> rfl
@[simp] theorem valsO_nil : valsO [] = some [] := rfl
@[simp] theorem valsO_v (od : OD) (r : List Opd) : valsO (.v od :: r) = (valsO r).map (od :: ·) := rfl
@[simp] theorem frsO_nil : frsO [] = some [] := rfl
@[simp] theorem frsO_c (d : PyData) (r : List OD) : frsO (.f d :: r) = (frsO r).map (d :: ·) := rfl
@[simp] theorem frOD_f (d : PyData) : frOD (.f d) = true := rfl
@[simp] theorem frOD_s (d : List PyData) : frOD (.s d) = true := rfl
@[simp] theorem frOD_g (t : Bool) (d : List (PyData × PyData)) : frOD (.g t d) = true := rfl
@[simp] theorem frzAll_ap (ods : List OD) : frzAll ods = if ods.all frOD = true then some ods else none := rfl
@[simp] theorem lt_ii (i j : Int) : PySem.W.dataLt (.int i) (.int j) = decide (i < j) := by
  unfold PySem.W.dataLt PySem.W.keyToks
  rw [lex_cons]
  simp [PyProof.Rows.lexLt, itemLt]
@[simp] theorem eqv_ii (i j : Int) : PyData.eqv (.int i) (.int j) = decide (i = j) := by
  show (i == j) = _
  by_cases h : i = j
  · subst h; simp
  · simp [h]
@[simp] theorem cmpOk_ii (i j : Int) : cmpOk (.int i) (.int j) = true := by
  unfold cmpOk room2
  simp [PySem.W.alike, notNone, PyData.depth]
@[simp] theorem pLt_ii (i j : Int) : pLt (.int i) (.int j) = some (decide (i < j)) := by unfold pLt; rw [cmpOk_ii, lt_ii]; rfl
@[simp] theorem pGt_ii (i j : Int) : pGt (.int i) (.int j) = some (decide (j < i)) := by unfold pGt; rw [cmpOk_ii, lt_ii]; rfl
@[simp] theorem pLe_ii (i j : Int) : pLe (.int i) (.int j) = some (decide (i ≤ j)) := by
  unfold pLe; rw [cmpOk_ii, lt_ii, if_pos rfl, ← decide_not]
  exact congrArg some (decide_eq_decide.mpr Int.not_lt)
@[simp] theorem pGe_ii (i j : Int) : pGe (.int i) (.int j) = some (decide (j ≤ i)) := by
  unfold pGe; rw [cmpOk_ii, lt_ii, if_pos rfl, ← decide_not]
  exact congrArg some (decide_eq_decide.mpr Int.not_lt)
@[simp] theorem pEq_ii (i j : Int) : pEq (.int i) (.int j) = some (decide (i = j)) := by
  unfold pEq room2
  rw [eqv_ii]
  simp [PyData.depth]
@[simp] theorem pNe_ii (i j : Int) : pNe (.int i) (.int j) = some (!decide (i = j)) := by
  unfold pNe room2
  rw [eqv_ii]
  simp [PyData.depth]
theorem cmpK_ap (p : P2) (x y : Opd) (s : Sg) (d e : PyData) (b : Bool) (h1 : x.dat s = some d) (h2 : y.dat s = some e) (h : p d e = some b) : cmpK p x y s = .ok (.v (.f (.bool b)), s) := by
  unfold cmpK
  rw [h1, h2]
  dsimp only
  rw [h]
  rfl
@[simp] theorem cmpK_d (p : P2) (x y : Opd) (s : Sg) : cmpK p x y s = match x.dat s, y.dat s with
  | some d, some e => (Res.of (p d e)).bind fun b => .ok (.v (.f (.bool b)), s)
  | _, _ => .stuck := rfl
@[simp] theorem intK_d (p : Int → Int → Option Int) (x y : Opd) (s : Sg) : intK p x y s = match x.dat s, y.dat s with
  | some (.int i), some (.int j) => (Res.of (p i j)).bind fun r => .ok (.v (.f (.int r)), s)
  | _, _ => .stuck := rfl
@[simp] theorem isInt_int (i : Int) : PyData.isInt (.int i) = true := rfl
@[simp] theorem isBool_int (i : Int) : PyData.isBool (.int i) = false := rfl
@[simp] theorem isTuple_t (ds : List PyData) : PyData.isTuple (.tuple ds) = true := rfl
@[simp] theorem guardR_true : guardR true = .ok () := rfl
@[simp] theorem guardR_false : guardR false = .stuck := rfl
@[simp] theorem fV_ap (i : Nat) (sg : Sg) : fV i sg = (match sg[i]? with
  | some (some _) => .ok (.i i, sg)
  | _ => .stuck) := rfl
@[simp] theorem fC_ap (d : PyData) (sg : Sg) : fC d sg = (.ok (.v (.f d), sg)) := rfl
@[simp] theorem fTk_ap (f : Sg → Res (Opd × Sg)) (sg : Sg) : fTk f sg = ((f sg).bind fun a => (Res.of (takeO a.1 a.2)).bind fun b => .ok (.v b.1, b.2)) := rfl
@[simp] theorem fFz_ap (f : Sg → Res (Opd × Sg)) (sg : Sg) : fFz f sg = ((f sg).bind fun a => (Res.of (frzO a.1 a.2)).bind fun b => .ok (.v b.1, b.2)) := rfl
@[simp] theorem fNil_ap (sg : Sg) : fNil  sg = (.ok ([], sg)) := rfl
@[simp] theorem fTup_ap (g : Sg → Res (List Opd × Sg)) (sg : Sg) : fTup g sg = ((g sg).bind fun a => (Res.of ((valsO a.1).bind frsO)).bind fun ds => (guardR (decide (ds.length < 1000000))).bind fun _ => .ok (.v (.f (.tuple ds)), a.2)) := rfl
@[simp] theorem fLst_ap (g : Sg → Res (List Opd × Sg)) (sg : Sg) : fLst g sg = ((g sg).bind fun a => (Res.of (valsO a.1)).bind fun ods => (guardR (decide (ods.length < 1000000))).bind fun _ => .ok (.v (.l ods), a.2)) := rfl
@[simp] theorem fIsN_ap (neg : Bool) (f : Sg → Res (Opd × Sg)) (sg : Sg) : fIsN neg f sg = ((f sg).bind fun a => (Res.of (a.1.od a.2)).bind fun od => .ok (.v (.f (.bool (if neg = true then !od.isNone else od.isNone))), a.2)) := rfl
@[simp] theorem fB_ap (f : Sg → Res (Opd × Sg)) (sg : Sg) : fB f sg = ((f sg).bind fun a => match a.1.dat a.2 with
  | some (.bool b) => .ok (b, a.2)
  | _ => .stuck) := rfl
@[simp] theorem fNotT_ap (f : Sg → Res (Bool × Sg)) (sg : Sg) : fNotT f sg = ((f sg).bind fun a => .ok (!a.1, a.2)) := rfl
@[simp] theorem fNot_ap (f : Sg → Res (Opd × Sg)) (sg : Sg) : fNot f sg = ((fB f sg).bind fun a => .ok (.v (.f (.bool (!a.1))), a.2)) := rfl
@[simp] theorem fNo_ap (sg : Sg) : fNo  sg = (.ok (none, sg)) := rfl
@[simp] theorem fSo_ap (f : Sg → Res (Opd × Sg)) (sg : Sg) : fSo f sg = ((f sg).bind fun a => match a.1.dat a.2 with
  | some (.int i) => .ok (some i, a.2)
  | _ => .stuck) := rfl
@[simp] theorem fArgs_ap (g : Sg → Res (List Opd × Sg)) (k : List Opd → Sg → Res (Opd × Sg)) (sg : Sg) : fArgs g k sg = ((g sg).bind fun a => k a.1 a.2) := rfl
@[simp] theorem isaK_ap (f : PyData → Bool) (fe : Sg → Res (Opd × Sg)) (sg : Sg) : isaK f fe sg = ((fe sg).bind fun a => (Res.of (a.1.dat a.2)).bind fun d => .ok (.v (.f (.bool (f d))), a.2)) := rfl
@[simp] theorem fCall_ap (sem : List OD → Res OD) (g : Sg → Res (List Opd × Sg)) (sg : Sg) : fCall sem g sg = ((g sg).bind fun a => (Res.of ((valsO a.1).bind frzAll)).bind fun ods => (sem ods).bind fun r => .ok (.v r, a.2)) := rfl
@[simp] theorem fCallD_ap (sem : OD → List OD → Res (OD × OD)) (g : Sg → Res (List Opd × Sg)) (sg : Sg) : fCallD sem g sg = ((g sg).bind fun a => match a.1 with
  | .i n :: os => (Res.of ((valsO os).bind frzAll)).bind fun ods => (Res.of (Opd.od a.2 (.i n))).bind fun od0 => (sem od0 ods).bind fun r => .ok (.v r.1, a.2.set n (some r.2))
  | _ => .stuck) := rfl
@[simp] theorem fMeth0_ap (ty : OD → Bool) (fo : Sg → Res (Opd × Sg)) (k : Opd → List Opd → Sg → Res (Opd × Sg)) (sg : Sg) : fMeth0 ty fo k sg = ((fo sg).bind fun a => (Res.of (a.1.od a.2)).bind fun od => (guardR (ty od)).bind fun _ => k a.1 [] a.2) := rfl
@[simp] theorem fGet1_ap (fo fa : Sg → Res (Opd × Sg)) (sg : Sg) : fGet1 fo fa sg = ((fo sg).bind fun a => (Res.of (a.1.od a.2)).bind fun od => (guardR (isD od)).bind fun _ => (fa a.2).bind fun b => get1K a.1 b.1 b.2) := rfl
@[simp] theorem fSet_ap (i : Nat) (f : Sg → Res (Opd × Sg)) (sg : Sg) : fSet i f sg = ((fTk f sg).bind fun a => match a.1 with
  | .v od => (guardR (decide (i < a.2.length))).bind fun _ => .ok (.nx (a.2.set i (some od)))
  | .i _ => .stuck) := rfl
@[simp] theorem fExpr_ap (f : Sg → Res (Opd × Sg)) (sg : Sg) : fExpr f sg = ((f sg).bind fun a => .ok (.nx a.2)) := rfl
@[simp] theorem fRet_ap (io : Bool) (f : Sg → Res (Opd × Sg)) (sg : Sg) : fRet io f sg = ((f sg).bind fun a => match a.1 with
  | .v od => .ok (.rt od a.2)
  | .i n => (guardR (!(io && n == 0))).bind fun _ => (Res.of (Opd.od a.2 (.i n))).bind fun od => .ok (.rt od (a.2.set n none))) := rfl
@[simp] theorem fRetN_ap (sg : Sg) : fRetN  sg = (.ok (.rt (.f .none) sg)) := rfl
@[simp] theorem fPass_ap (sg : Sg) : fPass  sg = (.ok (.nx sg)) := rfl
@[simp] theorem gN_ap (i : Nat) (d : PyData) (sg : Sg) : gN i d sg = (if i < sg.length then some (sg.set i (some (.f d))) else none) := rfl
@[simp] theorem gTu_ap (n : Nat) (gs : List PyData → Sg → Option Sg) (d : PyData) (sg : Sg) : gTu n gs d sg = (match d with
  | .tuple ds => if ds.length = n then gs ds sg else none
  | _ => none) := rfl
@[simp] theorem fUnp_ap (g : GT) (f : Sg → Res (Opd × Sg)) (sg : Sg) : fUnp g f sg = ((fFz f sg).bind fun a => match a.1 with
  | .v (.f d) => (Res.of (g d a.2)).bind fun s => .ok (.nx s)
  | _ => .stuck) := rfl
@[simp] theorem iFz_ap (f : Sg → Res (Opd × Sg)) (sg : Sg) : iFz f sg = ((fFz f sg).bind fun a => match a.1 with
  | .v od => (Res.of od.kidA).bind fun ds => .ok (⟨ds, none⟩, a.2)
  | .i _ => .stuck) := rfl
@[simp] theorem iRng1_ap (f : Sg → Res (Opd × Sg)) (sg : Sg) : iRng1 f sg = ((f sg).bind fun a => match a.1.dat a.2 with
  | some (.int j) => (guardR (decide (-1000000 ≤ j ∧ j ≤ 1000000))).bind fun _ => .ok (⟨rngD 0 j.toNat, none⟩, a.2)
  | _ => .stuck) := rfl
@[simp] theorem fFor_ap (src : Sg → Res (Src × Sg)) (g : GT) (b : Sg → Res Ou) (sg : Sg) : fFor src g b sg = ((src sg).bind fun a => match a.1.on with
  | none => forL g b a.1.ds a.2
  | some _ => .stuck) := rfl
@[simp] theorem fComp_ap (vs : List Nat) (src : Sg → Res (Src × Sg)) (g : GT) (t : Sg → Res (Bool × Sg)) (el : Sg → Res (Opd × Sg)) (sg : Sg) : fComp vs src g t el sg = ((src sg).bind fun a =>
  (guardR (okOwn a.2 vs && decide (a.1.ds.length < 1000000))).bind fun _ => (compL vs a.1.on a.1.ds g t el a.1.ds a.2).bind fun r => .ok (.v (.l r.1), restS r.2 a.2 vs)) := rfl
@[simp] theorem fYes_ap (sg : Sg) : fYes  sg = (.ok (true, sg)) := rfl
@[simp] theorem fLk_ap (f : Sg → Res (Opd × Sg)) (sg : Sg) : fLk f sg = ((f sg).bind fun a => match a.1 with
  | .i n => match Opd.od a.2 (.i n) with
    | some (.m t kvs) => (Res.of (OD.ers (kvs.map Prod.snd))).bind fun ds => .ok (.i n, a.2.set n (some (.g t ((kvs.map Prod.fst).zip ds))))
    | some _ => .ok (.i n, a.2)
    | none => .stuck
  | .v (.m t kvs) => (Res.of (OD.ers (kvs.map Prod.snd))).bind fun ds => .ok (.v (.g t ((kvs.map Prod.fst).zip ds)), a.2)
  | .v od => .ok (.v od, a.2)) := rfl
@[simp] theorem iDict_ap (pick : List (PyData × PyData) → List PyData) (f : Sg → Res (Opd × Sg)) (sg : Sg) : iDict pick f sg = ((fLk f sg).bind fun a => match a.1.od a.2 with
  | some (.g _ kvs) => .ok (⟨pick kvs, none⟩, a.2)
  | _ => .stuck) := rfl
@[simp] theorem iEnumF_ap (f : Sg → Res (Opd × Sg)) (sg : Sg) : iEnumF f sg = ((fFz f sg).bind fun a => match a.1 with
  | .v od => (Res.of od.kidA).bind fun ds => .ok (⟨enumD ds, none⟩, a.2)
  | .i _ => .stuck) := rfl
@[simp] theorem fDict0_ap (t : Bool) (sg : Sg) : fDict0 t sg = (.ok (.v (.m t []), sg)) := rfl
@[simp] theorem fNeg_ap (f : Sg → Res (Opd × Sg)) (sg : Sg) : fNeg f sg = ((f sg).bind fun a => match a.1.dat a.2 with
  | some (.int i) => .ok (.v (.f (.int (-i))), a.2)
  | _ => .stuck) := rfl
@[simp] theorem fLenSet_ap (f : Sg → Res (Opd × Sg)) (sg : Sg) : fLenSet f sg = ((fFz f sg).bind fun a => match a.1 with
  | .v od => (Res.of od.kidA).bind fun ds => (guardR (setOk ds)).bind fun _ => .ok (.v (.f (.int (nubD ds).length)), a.2)
  | .i _ => .stuck) := rfl
@[simp] theorem fSortSet_ap (f : Sg → Res (Opd × Sg)) (sg : Sg) : fSortSet f sg = ((fFz f sg).bind fun a => match a.1 with
  | .v od => (Res.of od.kidA).bind fun ds => (guardR (setOk ds)).bind fun _ => (guardP (SortOk ds)).bind fun _ => .ok (.v (.l ((sortD (nubD ds)).map .f)), a.2)
  | .i _ => .stuck) := rfl
@[simp] theorem fLstRg_ap (f : Sg → Res (Opd × Sg)) (sg : Sg) : fLstRg f sg = ((f sg).bind fun a => match a.1.dat a.2 with
  | some (.int j) => (guardR (decide (0 ≤ j ∧ j ≤ 1000000))).bind fun _ => .ok (.v (.l ((rngD 0 j.toNat).map .f)), a.2)
  | _ => .stuck) := rfl
end DL
set_option Elab.async false
set_option linter.all false
set_option maxRecDepth 100000
set_option maxHeartbeats 4000000
namespace DL
open PySem PySem.Spec PyProof.Rows L2

/-! ### loops by invariants -/
theorem forL_inv {g : GT} {b : Sg → Res Ou} (I : List PyData → Sg → Prop) (hs : ∀ d r s, I (d :: r) s → ∃ s1 s2, g d s = some s1 ∧ b s1 = .ok (.nx s2) ∧ I r s2) : ∀ {ds : List PyData} {s : Sg}, I ds s → ∃ s', forL g b ds s = .ok (.nx s') ∧ I [] s'
  | [], s, h => ⟨s, rfl, h⟩
  | d :: ds, s, h => by
    obtain ⟨s1, s2, e1, e2, h2⟩ := hs d ds s h
    obtain ⟨s', e3, h3⟩ := forL_inv I hs h2
    refine ⟨s', ?_, h3⟩
    unfold forL
    rw [e1]
    show ((b s1).bind fun o => match o with
      | .nx s => forL g b ds s
      | .rt od s => .ok (.rt od s)) = _
    rw [e2]
    exact e3
theorem forL_or {g : GT} {b : Sg → Res Ou} (I : List PyData → Sg → Prop) (post : Ou → Prop) (h0 : ∀ s, I [] s → post (.nx s)) (hs : ∀ d r s, I (d :: r) s → ∃ s1, g d s = some s1 ∧ ((∃ s2, b s1 = .ok (.nx s2) ∧ I r s2) ∨ ∃ od s2, b s1 = .ok (.rt od s2) ∧ post (.rt od s2))) :
    ∀ {ds : List PyData} {s : Sg}, I ds s → ∃ o, forL g b ds s = .ok o ∧ post o
  | [], s, h => ⟨.nx s, rfl, h0 s h⟩
  | d :: ds, s, h => by
    obtain ⟨s1, e1, h2⟩ := hs d ds s h
    have key : forL g b (d :: ds) s = (b s1).bind fun o => match o with
      | .nx s => forL g b ds s
      | .rt od s => .ok (.rt od s) := by
      show ((Res.of (g d s)).bind fun s1 => (b s1).bind fun o => match o with
        | .nx s => forL g b ds s
        | .rt od s => .ok (.rt od s)) = _
      rw [e1]
      rfl
    rcases h2 with ⟨s2, e2, h2⟩ | ⟨od, s2, e2, h2⟩
    · obtain ⟨o, e3, h3⟩ := forL_or I post h0 hs h2
      exact ⟨o, by rw [key, e2]; exact e3, h3⟩
    · exact ⟨_, by rw [key, e2]; rfl, h2⟩
theorem while_inv {t : Sg → Res (Bool × Sg)} {b : Sg → Res Ou} (I : Nat → Sg → Prop) (post : Ou → Prop)
    (hs : ∀ n s, I n s → ∃ c s1, t s = .ok (c, s1) ∧ (c = false → post (.nx s1)) ∧ (c = true → (∃ s2 m, b s1 = .ok (.nx s2) ∧ m < n ∧ I m s2) ∨ ∃ od s2, b s1 = .ok (.rt od s2) ∧ post (.rt od s2))) :
    ∀ (f : Nat) {n : Nat} {s : Sg}, I n s → n < f → ∃ o, fWhile f t b s = .ok o ∧ post o
  | 0, n, s, _, h => absurd h (Nat.not_lt_zero _)
  | f + 1, n, s, h, hf => by
    obtain ⟨c, s1, e1, h1, h2⟩ := hs n s h
    have key : fWhile (f + 1) t b s = if c = true then (b s1).bind fun o => match o with
      | .nx s => fWhile f t b s
      | .rt od s => .ok (.rt od s) else .ok (.nx s1) := by
      show ((t s).bind fun a => if a.1 = true then (b a.2).bind fun o => match o with
        | .nx s => fWhile f t b s
        | .rt od s => .ok (.rt od s) else .ok (.nx a.2)) = _
      rw [e1]
      rfl
    cases c with
    | false => exact ⟨_, by rw [key, if_neg Bool.false_ne_true], h1 rfl⟩
    | true =>
      rw [key, if_pos rfl]
      rcases h2 rfl with ⟨s2, m, e2, hm, h3⟩ | ⟨od, s2, e2, h3⟩
      · obtain ⟨o, e3, h4⟩ := while_inv I post hs f h3 (by omega)
        exact ⟨o, by rw [e2]; exact e3, h4⟩
      · exact ⟨_, by rw [e2]; rfl, h3⟩
/-! ### comprehensions -/
theorem compL_inv {vs : List Nat} {g : GT} {t : Sg → Res (Bool × Sg)} {el : Sg → Res (Opd × Sg)} {ds0 : List PyData} (I : List PyData → List OD → Sg → Prop)
    (hs : ∀ d r acc s, I (d :: r) acc s → ∃ s1, g d (wipeS s vs) = some s1 ∧ ((∃ s2 od s3, t s1 = .ok (true, s2) ∧ fTk el s2 = .ok (.v od, s3) ∧ I r (acc ++ [od]) s3) ∨ ∃ s2, t s1 = .ok (false, s2) ∧ I r acc s2)) :
    ∀ {ds : List PyData} {acc : List OD} {s : Sg}, I ds acc s → ∃ ods s', compL vs none ds0 g t el ds s = .ok (ods, s') ∧ I [] (acc ++ ods) s'
  | [], acc, s, h => ⟨[], s, rfl, by rw [List.append_nil]; exact h⟩
  | d :: ds, acc, s, h => by
    obtain ⟨s1, e1, h1⟩ := hs d ds acc s h
    have key : compL vs none ds0 g t el (d :: ds) s = (noX (t s1)).bind fun b => if b.1 = true then
        (noX (fTk el b.2)).bind fun o => match o.1 with
          | .v od => (compL vs none ds0 g t el ds o.2).bind fun r => .ok (od :: r.1, r.2)
          | .i _ => .stuck
      else compL vs none ds0 g t el ds b.2 := by
      show ((Res.of (g d (wipeS s vs))).bind fun s1 => (noX (t s1)).bind fun b => if b.1 = true then
          (noX (fTk el b.2)).bind fun o => match o.1 with
            | .v od => (compL vs none ds0 g t el ds o.2).bind fun r => .ok (od :: r.1, r.2)
            | .i _ => .stuck
        else compL vs none ds0 g t el ds b.2) = _
      rw [e1]
      rfl
    rcases h1 with ⟨s2, od, s3, e2, e3, h3⟩ | ⟨s2, e2, h3⟩
    · obtain ⟨ods, s', e4, h4⟩ := compL_inv I hs h3
      refine ⟨od :: ods, s', ?_, by rw [List.append_assoc] at h4; exact h4⟩
      rw [key, e2]
      show ((noX (fTk el s2)).bind fun o => match o.1 with
        | .v od => (compL vs none ds0 g t el ds o.2).bind fun r => (.ok (od :: r.1, r.2) : Res (List OD × Sg))
        | .i _ => .stuck) = _
      rw [e3]
      show ((compL vs none ds0 g t el ds s3).bind fun r => (.ok (od :: r.1, r.2) : Res (List OD × Sg))) = _
      rw [e4]
      rfl
    · obtain ⟨ods, s', e4, h4⟩ := compL_inv I hs h3
      exact ⟨ods, s', by rw [key, e2]; exact e4, h4⟩
theorem wipe_wipe {s : Sg} : ∀ vs ws : List Nat, (∀ v ∈ vs, v ∈ ws) → wipeS (wipeS s vs) ws = wipeS s ws := fun vs ws h => by
  refine List.ext_getElem? fun i => ?_
  by_cases q : i ∈ ws
  · have key : ∀ (s : Sg) (ws : List Nat), i ∈ ws → (wipeS s ws)[i]? = if i < s.length then some none else none := fun s ws q => by
      induction ws with
      | nil => cases q
      | cons v ws ih =>
        show ((wipeS s ws).set v none)[i]? = _
        rw [set_get]
        by_cases e : i = v
        · rw [if_pos e, wipeS_len, e]
        · rw [if_neg e]
          exact ih ((List.mem_cons.mp q).resolve_left e)
    rw [key _ _ q, key _ _ q, wipeS_len]
  · rw [wipeS_out q, wipeS_out q, wipeS_out fun z => q (h i z)]
/-- a comprehension that changes nothing: what it keeps -/
theorem comp_pure {vs : List Nat} {src : Sg → Res (Src × Sg)} {g : GT} {t : Sg → Res (Bool × Sg)} {el : Sg → Res (Opd × Sg)} {s0 s : Sg} {ds : List PyData} (val : PyData → Option OD) (hsrc : src s0 = .ok (⟨ds, none⟩, s)) (ho : okOwn s vs = true) (hl : ds.length < 1000000)
    (h : ∀ d ∈ ds, ∃ s1, g d (wipeS s vs) = some s1 ∧ ((∃ s2 od s3, val d = some od ∧ t s1 = .ok (true, s2) ∧ fTk el s2 = .ok (.v od, s3) ∧ wipeS s3 vs = wipeS s vs) ∨ ∃ s2, val d = none ∧ t s1 = .ok (false, s2) ∧ wipeS s2 vs = wipeS s vs)) :
    fComp vs src g t el s0 = .ok (.v (.l (ds.filterMap val)), s) := by
  obtain ⟨ods, s', e, e1, e2, _⟩ := compL_inv (vs := vs) (g := g) (t := t) (el := el) (ds0 := ds) (fun r acc s' => (∃ pre, ds = pre ++ r ∧ acc = pre.filterMap val) ∧ wipeS s' vs = wipeS s vs ∧ True) (fun d r acc s' ⟨⟨pre, h1, h2⟩, h3, _⟩ => by
    obtain ⟨s1, e1, h4⟩ := h d (by rw [h1]; exact List.mem_append_right _ List.mem_cons_self)
    refine ⟨s1, by rw [h3]; exact e1, ?_⟩
    rcases h4 with ⟨s2, od, s3, e2, e3, e4, e5⟩ | ⟨s2, e2, e3, e4⟩
    · exact .inl ⟨s2, od, s3, e3, e4, ⟨pre ++ [d], by rw [h1, List.append_assoc]; rfl, by rw [h2, List.filterMap_append]; simp [e2]⟩, e5, trivial⟩
    · exact .inr ⟨s2, e3, ⟨pre ++ [d], by rw [h1, List.append_assoc]; rfl, by rw [h2, List.filterMap_append]; simp [e2]⟩, e4, trivial⟩) (ds := ds) (acc := []) (s := s) ⟨⟨[], rfl, rfl⟩, rfl, trivial⟩
  obtain ⟨pre, h1, h2⟩ := e1
  rw [List.append_nil] at h1
  subst h1
  rw [List.nil_append] at h2
  have ls : s'.length = s.length := by rw [← wipeS_len (sg := s') vs, e2, wipeS_len]
  have er : restS s' s vs = s := by
    refine List.ext_getElem? fun i => ?_
    rw [restS_get ls]
    by_cases q : i ∈ vs
    · rw [if_pos q]
    · rw [if_neg q, ← wipeS_out (sg := s') q, e2, wipeS_out q]
  show ((src s0).bind fun a => (guardR (okOwn a.2 vs && decide (a.1.ds.length < 1000000))).bind fun _ => (compL vs a.1.on a.1.ds g t el a.1.ds a.2).bind fun r => (.ok (.v (.l r.1), restS r.2 a.2 vs) : Res ES)) = _
  rw [hsrc]
  show ((guardR (okOwn s vs && decide (ds.length < 1000000))).bind fun _ => (compL vs none ds g t el ds s).bind fun r => (.ok (.v (.l r.1), restS r.2 s vs) : Res ES)) = _
  rw [ho, decide_eq_true hl, e]
  show (.ok (.v (.l ods), restS s' s vs) : Res ES) = _
  rw [er, h2]
theorem comp_run {vs : List Nat} {src : Sg → Res (Src × Sg)} {g : GT} {t : Sg → Res (Bool × Sg)} {el : Sg → Res (Opd × Sg)} {s0 s s' : Sg} {ds : List PyData} {ods : List OD} (hsrc : src s0 = .ok (⟨ds, none⟩, s)) (ho : okOwn s vs = true) (hl : ds.length < 1000000) (e : compL vs none ds g t el ds s = .ok (ods, s')) : fComp vs src g t el s0 = .ok (.v (.l ods), restS s' s vs) := by
  show ((src s0).bind fun a => (guardR (okOwn a.2 vs && decide (a.1.ds.length < 1000000))).bind fun _ => (compL vs a.1.on a.1.ds g t el a.1.ds a.2).bind fun r => (.ok (.v (.l r.1), restS r.2 a.2 vs) : Res ES)) = _
  rw [hsrc]
  show ((guardR (okOwn s vs && decide (ds.length < 1000000))).bind fun _ => (compL vs none ds g t el ds s).bind fun r => (.ok (.v (.l r.1), restS r.2 s vs) : Res ES)) = _
  rw [ho, decide_eq_true hl, e]
  rfl
theorem rest_same {vs : List Nat} {s s' : Sg} (e : wipeS s' vs = wipeS s vs) : restS s' s vs = s := by
  have ls : s'.length = s.length := by rw [← wipeS_len (sg := s') vs, e, wipeS_len]
  refine List.ext_getElem? fun i => ?_
  rw [restS_get ls]
  by_cases q : i ∈ vs
  · rw [if_pos q]
  · rw [if_neg q, ← wipeS_out (sg := s') q, e, wipeS_out q]
/-- a comprehension that changes nothing: of what sort its items are -/
theorem comp_some {vs : List Nat} {src : Sg → Res (Src × Sg)} {g : GT} {t : Sg → Res (Bool × Sg)} {el : Sg → Res (Opd × Sg)} {s0 s : Sg} {ds : List PyData} (P : PyData → Prop) (hsrc : src s0 = .ok (⟨ds, none⟩, s)) (ho : okOwn s vs = true) (hl : ds.length < 1000000)
    (h : ∀ d ∈ ds, ∃ s1 c, g d (wipeS s vs) = some s1 ∧ wipeS s1 vs = wipeS s vs ∧ t s1 = .ok (c, s1) ∧ (c = true → ∃ x, fTk el s1 = .ok (.v (.f x), s1) ∧ P x)) : ∃ xs : List PyData, fComp vs src g t el s0 = .ok (.v (.l (xs.map .f)), s) ∧ (∀ x ∈ xs, P x) ∧ xs.length ≤ ds.length := by
  obtain ⟨ods, s', e, ⟨pre, h1⟩, e2, xs, h2, h3, h4⟩ := compL_inv (vs := vs) (g := g) (t := t) (el := el) (ds0 := ds) (fun r acc s' => (∃ pre, ds = pre ++ r) ∧ wipeS s' vs = wipeS s vs ∧ ∃ xs : List PyData, acc = xs.map OD.f ∧ (∀ x ∈ xs, P x) ∧ xs.length + r.length ≤ ds.length) (fun d r acc s' ⟨⟨pre, h1⟩, h3, xs, h5, h6, h7⟩ => by
    obtain ⟨s1, c, e1, e2, e3, h4⟩ := h d (by rw [h1]; exact List.mem_append_right _ List.mem_cons_self)
    refine ⟨s1, by rw [h3]; exact e1, ?_⟩
    have hp : ∃ pre, ds = pre ++ r := ⟨pre ++ [d], by rw [h1, List.append_assoc]; rfl⟩
    cases c with
    | true =>
      obtain ⟨x, e4, px⟩ := h4 rfl
      refine .inl ⟨s1, .f x, s1, e3, e4, hp, e2, xs ++ [x], by rw [h5, List.map_append]; rfl, fun y hy => ?_, by simp only [List.length_append, List.length_cons, List.length_nil] at h7 ⊢; omega⟩
      rcases List.mem_append.mp hy with z | z
      · exact h6 y z
      · rw [List.mem_singleton.mp z]; exact px
    | false => exact .inr ⟨s1, e3, hp, e2, xs, h5, h6, by simp only [List.length_cons] at h7; omega⟩) (ds := ds) (acc := []) (s := s) ⟨⟨[], rfl⟩, rfl, [], rfl, fun _ z => (nomatch z), by simp⟩
  rw [List.nil_append] at h2
  refine ⟨xs, ?_, h3, by simpa using h4⟩
  rw [comp_run hsrc ho hl e, rest_same e2, h2]
end DL
set_option Elab.async false
set_option linter.all false
set_option maxRecDepth 100000
set_option maxHeartbeats 4000000
namespace DL
open PySem PySem.Spec PyProof.Rows L2

/-! ### a typed layer over the senses -/
def Ans {α β : Type} (r : Res α) (fr : Res β) (Q : α → β → Prop) : Prop := match r with
  | .ok a => ∃ b, fr = .ok b ∧ Q a b
  | .exc e => fr = .exc e
  | .stuck => True
section
variable {α β γ δ ε ρ : Type}
theorem Ans.ok {a : α} {fr : Res β} {b : β} {Q : α → β → Prop} (e : fr = .ok b) (q : Q a b) : Ans (.ok a) fr Q := ⟨b, e, q⟩
theorem Ans.bind {r : Res α} {fr : Res β} {Q : α → β → Prop} (h : Ans r fr Q) {k : α → Res γ} {kf : β → Res δ} {Q' : γ → δ → Prop} (hk : ∀ a b, Q a b → Ans (k a) (kf b) Q') : Ans (r.bind k) (fr.bind kf) Q' := by
  cases r with
  | ok a =>
    obtain ⟨b, e, q⟩ := h
    subst e
    exact hk a b q
  | exc e =>
    have e' : fr = .exc e := h
    subst e'
    exact rfl
  | stuck => trivial
theorem Ans.bindR {r : Res α} {fr : Res β} {Q : α → β → Prop} (h : Ans r fr Q) {kf : β → Res δ} {Q' : α → δ → Prop} (hk : ∀ a b, Q a b → ∃ d, kf b = .ok d ∧ Q' a d) : Ans r (fr.bind kf) Q' := by
  cases r with
  | ok a =>
    obtain ⟨b, e, q⟩ := h
    subst e
    exact hk a b q
  | exc e =>
    have e' : fr = .exc e := h
    subst e'
    exact rfl
  | stuck => trivial
theorem Ans.mono {r : Res α} {fr : Res β} {Q Q' : α → β → Prop} (h : Ans r fr Q) (hk : ∀ a b, Q a b → Q' a b) : Ans r fr Q' := by
  cases r with
  | ok a =>
    obtain ⟨b, e, q⟩ := h
    exact ⟨b, e, hk a b q⟩
  | exc e => exact h
  | stuck => trivial
theorem Ans.of {o : Option α} {o' : Option β} {Q : α → β → Prop} (h : ∀ a, o = some a → ∃ b, o' = some b ∧ Q a b) : Ans (Res.of o) (Res.of o') Q := by
  cases o with
  | none => trivial
  | some a =>
    obtain ⟨b, e, q⟩ := h a rfl
    subst e
    exact ⟨b, rfl, q⟩
theorem Res.bind_pure (r : Res α) : (r.bind fun a => .ok a) = r := by cases r <;> rfl

abbrev Pd := OD → Prop
abbrev Cn := List (Option OD → Prop)
def any : Option OD → Prop := fun _ => True
def jk : Option OD → Prop := fun o => ∀ od, o = some od → frOD od = true
def dv (P : Pd) : Option OD → Prop := fun o => ∃ od, o = some od ∧ P od
structure Sat (S : Sg) (Γ : Cn) : Prop where
  len : S.length = Γ.length
  at_ : ∀ (i : Nat) (p : Option OD → Prop), Γ[i]? = some p → ∀ o, S[i]? = some o → p o
theorem Sat.get {S : Sg} {Γ : Cn} (s : Sat S Γ) {i : Nat} {P : Pd} (h : Γ[i]? = some (dv P)) : ∃ od, S[i]? = some (some od) ∧ P od := by
  have hi : i < S.length := by
    rw [s.len]
    exact (List.getElem?_eq_some_iff.mp h).1
  obtain ⟨od, e, p⟩ := s.at_ i _ h S[i] (List.getElem?_eq_getElem hi)
  exact ⟨od, by rw [List.getElem?_eq_getElem hi, e], p⟩
theorem Sat.set {S : Sg} {Γ : Cn} (s : Sat S Γ) (i : Nat) {o : Option OD} {p : Option OD → Prop} (h : p o) : Sat (S.set i o) (Γ.set i p) := by
  refine ⟨by rw [List.length_set, List.length_set, s.len], fun j q hj u hu => ?_⟩
  rw [set_get] at hj hu
  by_cases e : j = i
  · rw [if_pos e] at hj hu
    split at hj
    · split at hu
      · cases hj; cases hu; exact h
      · cases hu
    · cases hj
  · rw [if_neg e] at hj hu
    exact s.at_ j q hj u hu
/-- a slot is set to what its word says already -/
theorem Sat.setS {S : Sg} {Γ : Cn} (s : Sat S Γ) {i : Nat} {o : Option OD} {p : Option OD → Prop} (e : Γ[i]? = some p) (h : p o) : Sat (S.set i o) Γ := by
  refine ⟨by rw [List.length_set, s.len], fun j q hj u hu => ?_⟩
  rw [set_get] at hu
  by_cases e2 : j = i
  · rw [if_pos e2] at hu
    subst e2
    rw [e] at hj
    cases hj
    split at hu
    · cases hu; exact h
    · cases hu
  · rw [if_neg e2] at hu
    exact s.at_ j q hj u hu
inductive Le : Cn → Cn → Prop
  | nil : Le [] []
  | same {p : Option OD → Prop} {Γ Γ' : Cn} : Le Γ Γ' → Le (p :: Γ) (p :: Γ')
  | any {p : Option OD → Prop} {Γ Γ' : Cn} : Le Γ Γ' → Le (p :: Γ) (any :: Γ')
  | wk {p q : Option OD → Prop} {Γ Γ' : Cn} : (∀ o, p o → q o) → Le Γ Γ' → Le (p :: Γ) (q :: Γ')
theorem Le.sat : ∀ {Γ Γ' : Cn}, Le Γ Γ' → ∀ {S : Sg}, Sat S Γ → Sat S Γ' := by
  intro Γ Γ' h
  have key : ∀ {Γ Γ' : Cn}, Le Γ Γ' → Γ.length = Γ'.length ∧ ∀ (i : Nat) q, Γ'[i]? = some q → ∃ p, Γ[i]? = some p ∧ ∀ o, p o → q o := by
    intro Γ Γ' h
    induction h with
    | nil => exact ⟨rfl, fun i q e => by simp at e⟩
    | same _ ih => exact ⟨congrArg (· + 1) ih.1, fun i q e => by
        cases i with
        | zero => cases e; exact ⟨_, rfl, fun _ z => z⟩
        | succ i => exact ih.2 i q (by simpa using e)⟩
    | any _ ih => exact ⟨congrArg (· + 1) ih.1, fun i q e => by
        cases i with
        | zero => cases e; exact ⟨_, rfl, fun _ _ => trivial⟩
        | succ i => exact ih.2 i q (by simpa using e)⟩
    | wk w _ ih => exact ⟨congrArg (· + 1) ih.1, fun i q e => by
        cases i with
        | zero => cases e; exact ⟨_, rfl, w⟩
        | succ i => exact ih.2 i q (by simpa using e)⟩
  intro S s
  obtain ⟨l, k⟩ := key h
  refine ⟨s.len.trans l, fun i q hq o ho => ?_⟩
  obtain ⟨p, hp, w⟩ := k i q hq
  exact w o (s.at_ i p hp o ho)

/-! what a value is -/
class En (α : Type) where
  en : α → PyData
open En (en)
instance : En Int := ⟨.int⟩
instance : En Bool := ⟨.bool⟩
instance : En Str := ⟨.str⟩
instance : En Unit := ⟨fun _ => .none⟩
instance [En α] [En β] : En (α × β) := ⟨fun p => .tuple [en p.1, en p.2]⟩
instance [En α] : En (List α) := ⟨fun xs => .list (xs.map en)⟩
instance [En α] : En (Option α) := ⟨fun o => match o with
  | none => .none
  | some a => en a⟩
/-- a tuple of any length -/
structure Tp (α : Type) where
  l : List α
deriving DecidableEq
instance [En α] : En (Tp α) := ⟨fun t => .tuple (t.l.map en)⟩
structure T3 (α β γ : Type) where
  a : α
  b : β
  c : γ
deriving DecidableEq
instance [En α] [En β] [En γ] : En (T3 α β γ) := ⟨fun t => .tuple [en t.a, en t.b, en t.c]⟩
/-- no list -/
class Sc (α : Type) [En α] : Prop where
  sc : ∀ (a : α) ds, en a ≠ .list ds
instance : Sc Int := ⟨fun _ _ h => by cases h⟩
instance : Sc Bool := ⟨fun _ _ h => by cases h⟩
instance : Sc Str := ⟨fun _ _ h => by cases h⟩
instance : Sc Unit := ⟨fun _ _ h => by cases h⟩
instance [En α] [En β] : Sc (α × β) := ⟨fun _ _ h => by cases h⟩
instance [En α] : Sc (Tp α) := ⟨fun _ _ h => by cases h⟩
instance [En α] [En β] [En γ] : Sc (T3 α β γ) := ⟨fun _ _ h => by cases h⟩
instance [En α] [Sc α] : Sc (Option α) := ⟨fun o ds h => by
  cases o with
  | none => cases h
  | some a => exact Sc.sc a ds h⟩

def Rd (d : PyData) : Pd := fun od => od = .f d ∨ ∃ ds, d = .list ds ∧ od = .l (ds.map .f)
def rd [En α] (a : α) : Pd := Rd (en a)
def ow [En α] (xs : List α) : Pd := fun od => od = .l ((xs.map en).map .f)
def oo [En α] (xs : List (List α)) : Pd := fun od => od = .l (xs.map fun ys => .l ((ys.map en).map .f))
def rs [En α] (xs : List α) : Pd := fun od => od = .s (xs.map en)
class Ky (κ : Type) [En κ] where
  t : Bool
  ok : ∀ k : κ, keyFt t (en k) = true
  eq : ∀ k k' : κ, PyData.eqv (en k) (en k') = true ↔ k = k'
instance : Ky Int := ⟨false, fun _ => rfl, fun k k' => by
  show PyData.eqv (.int k) (.int k') = true ↔ _
  simp [PyData.eqv]⟩
instance : Ky (Int × Int) := ⟨true, fun _ => rfl, fun k k' => by
  show PyData.eqv (.tuple [.int k.1, .int k.2]) (.tuple [.int k'.1, .int k'.2]) = true ↔ _
  simp [PyData.eqv, PyData.eqvAll, Prod.ext_iff]⟩
abbrev Dc (κ υ : Type) := List (κ × υ)
def eM [En κ] [En υ] (m : Dc κ υ) : List (PyData × OD) := m.map fun p => (en p.1, .f (en p.2))
def eG [En κ] [En υ] (m : Dc κ υ) : List (PyData × PyData) := m.map fun p => (en p.1, en p.2)
def dw [En κ] [Ky κ] [En υ] (m : Dc κ υ) : Pd := fun od => od = .m (Ky.t κ) (eM m)
def dr [En κ] [Ky κ] [En υ] (m : Dc κ υ) : Pd := fun od => od = .m (Ky.t κ) (eM m) ∨ od = .g (Ky.t κ) (eG m)
theorem ow_rd [En α] (xs : List α) (od : OD) (h : ow xs od) : rd xs od := .inr ⟨_, rfl, h⟩
theorem dw_dr [En κ] [Ky κ] [En υ] (m : Dc κ υ) (od : OD) (h : dw m od) : dr m od := .inl h
theorem Rd.dt {d : PyData} {od : OD} (h : Rd d od) : od.dt = some d := by
  rcases h with rfl | ⟨ds, rfl, rfl⟩
  · rfl
  · show (OD.ers (ds.map .f)).map PyData.list = _
    rw [ers_f]
    rfl
theorem Rd.er {d : PyData} {od : OD} (h : Rd d od) : od.er = some d := by
  rcases h with rfl | ⟨ds, rfl, rfl⟩
  · exact er_f d
  · unfold OD.er
    rw [ers_f]
    rfl
theorem Rd.fz {d : PyData} {od : OD} (h : Rd d od) : od.fz = some (.f d) := by
  rcases h with rfl | ⟨ds, rfl, rfl⟩
  · rfl
  · show (OD.ers (ds.map .f)).map _ = _
    rw [ers_f]
    rfl
theorem Rd.sc [En α] [Sc α] {a : α} {od : OD} (h : rd a od) : od = .f (en a) := by
  rcases h with h | ⟨ds, e, _⟩
  · exact h
  · exact absurd e (Sc.sc a ds)
theorem Rd.kid {ds : List PyData} {od : OD} (h : Rd (.list ds) od) : od.kid = some ds := by
  rcases h with rfl | ⟨es, e, rfl⟩
  · rfl
  · cases e
    exact frs_f ds
theorem Rd.kidA {ds : List PyData} {od : OD} (h : Rd (.list ds) od) : od.kidA = some ds := by
  rcases h with rfl | ⟨es, e, rfl⟩
  · rfl
  · cases e
    exact frs_f ds
theorem Rd.tup {ds : List PyData} {od : OD} (h : Rd (.tuple ds) od) : od = .f (.tuple ds) := by
  rcases h with rfl | ⟨es, e, rfl⟩
  · rfl
  · cases e

/-! ### expressions -/
def GE (Γ : Cn) (f : FE) (r : Res α) (P : α → Pd) : Prop := ∀ S, Sat S Γ → Ans r (f S) fun a z => Sat z.2 Γ ∧ ∀ S', Sat S' Γ → ∃ od, Opd.od S' z.1 = some od ∧ P a od
def IE (Γ : Cn) (f : FE) (r : Res β) (P : β → Pd) (Γ' : β → Cn) : Prop := ∀ S, Sat S Γ → Ans r (f S) fun b z => Sat z.2 (Γ' b) ∧ ∃ od, z.1 = .v od ∧ P b od
abbrev GV (Γ : Cn) (f : FE) (r : Res β) (P : β → Pd) : Prop := IE Γ f r P fun _ => Γ
theorem IE.ge {Γ : Cn} {f : FE} {r : Res β} {P : β → Pd} (h : GV Γ f r P) : GE Γ f r P := fun S s => (h S s).mono fun b z ⟨h1, od, e, p⟩ => ⟨h1, fun S' _ => ⟨od, by rw [e]; rfl, p⟩⟩
theorem GE.wk {Γ : Cn} {f : FE} {r : Res β} {P P' : β → Pd} (h : GE Γ f r P) (w : ∀ b od, P b od → P' b od) : GE Γ f r P' := fun S s => (h S s).mono fun b z ⟨h1, h2⟩ => ⟨h1, fun S' s' => (h2 S' s').imp fun od q => ⟨q.1, w _ _ q.2⟩⟩
theorem IE.wk {Γ : Cn} {f : FE} {r : Res β} {P P' : β → Pd} {Γ' : β → Cn} (h : IE Γ f r P Γ') (w : ∀ b od, P b od → P' b od) : IE Γ f r P' Γ' := fun S s => (h S s).mono fun b z ⟨h1, od, e, p⟩ => ⟨h1, od, e, w _ _ p⟩
theorem ge_var (P : α → Pd) (a : α) {Γ : Cn} {i : Nat} (h : Γ[i]? = some (dv (P a))) : GE Γ (fV i) (.ok a) P := fun S s => by
  obtain ⟨od, e, p⟩ := s.get h
  refine ⟨(.i i, S), by unfold fV; rw [e], s, fun S' s' => ?_⟩
  obtain ⟨od', e', p'⟩ := s'.get h
  exact ⟨od', by rw [od_i, e']; rfl, p'⟩
theorem gv_c {Γ : Cn} (d : PyData) (a : α) (P : α → Pd) (h : P a (.f d)) : GV Γ (fC d) (.ok a) P := fun S s => ⟨(.v (.f d), S), rfl, s, _, rfl, h⟩
theorem gv_int {Γ : Cn} (i : Int) : GV Γ (fC (.int i)) (.ok i) rd := gv_c _ _ _ (.inl rfl)
theorem gv_bool {Γ : Cn} (b : Bool) : GV Γ (fC (.bool b)) (.ok b) rd := gv_c _ _ _ (.inl rfl)
theorem gv_str {Γ : Cn} (x : Str) : GV Γ (fC (.str x)) (.ok x) rd := gv_c _ _ _ (.inl rfl)
theorem gv_non {Γ : Cn} (α : Type) [En α] : GV Γ (fC .none) (.ok (none : Option α)) rd := gv_c _ _ _ (.inl rfl)
theorem gv_unit {Γ : Cn} : GV Γ (fC .none) (.ok ()) rd := gv_c _ _ _ (.inl rfl)
def K2 (k : Opd → Opd → Sg → Res ES) (P : α → Pd) (P' : β → Pd) (op : α → β → Res γ) (P'' : γ → Pd) : Prop := ∀ a b x y od od' S, Opd.od S x = some od → P a od → Opd.od S y = some od' → P' b od' → Ans (op a b) (k x y S) fun c z => z.2 = S ∧ ∃ o, z.1 = .v o ∧ P'' c o
section
variable {k : Opd → Opd → Sg → Res ES} {P : α → Pd} {P' : β → Pd} {op : α → β → Res γ} {P'' : γ → Pd} {Γ : Cn} {fa fb : FE}
theorem two_gg {ra : Res α} {rb : Res β} (K : K2 k P P' op P'') (h : GE Γ fa ra P) (h' : GE Γ fb rb P') : GV Γ (fTwo fa fb k) (ra.bind fun a => rb.bind fun b => op a b) P'' := fun S s => (h S s).bind fun a z ⟨s1, q⟩ => (h' z.2 s1).bind fun b w ⟨s2, q'⟩ => by
  obtain ⟨od, e, p⟩ := q w.2 s2
  obtain ⟨od', e', p'⟩ := q' w.2 s2
  refine (K a b z.1 w.1 od od' w.2 e p e' p').mono fun c v ⟨e1, o, e2, p2⟩ => ⟨by rw [e1]; exact s2, o, e2, p2⟩
theorem two_ig {δ : Type} {v : δ → α} {Γ' : δ → Cn} {ra : Res δ} {rb : δ → Res β} (K : K2 k P P' op P'') (h : IE Γ fa ra (fun b => P (v b)) Γ') (h' : ∀ b, GE (Γ' b) fb (rb b) P') : IE Γ (fTwo fa fb k) (ra.bind fun b => (rb b).bind fun c => (op (v b) c).bind fun e => .ok (e, b)) (fun p => P'' p.1) fun p => Γ' p.2 := fun S s => (h S s).bind fun a z ⟨s1, od, e, p⟩ => (h' a z.2 s1).bind fun b w ⟨s2, q'⟩ => by
  obtain ⟨od', e', p'⟩ := q' w.2 s2
  have := K (v a) b z.1 w.1 od od' w.2 (by rw [e]; rfl) p e' p'
  cases ho : op (v a) b with
  | ok c =>
    rw [ho] at this
    obtain ⟨u, e0, e1, o, e2, p2⟩ := this
    exact ⟨u, e0, by rw [e1]; exact s2, o, e2, p2⟩
  | exc x =>
    rw [ho] at this
    exact this
  | stuck => trivial
theorem two_ii {δ ε : Type} {v : δ → α} {v' : ε → β} {Γ' : δ → Cn} {Γ2 : δ → ε → Cn} {ra : Res δ} {rb : δ → Res ε} (K : K2 k P P' op P'') (h : IE Γ fa ra (fun b => P (v b)) Γ') (h' : ∀ b, IE (Γ' b) fb (rb b) (fun c => P' (v' c)) (Γ2 b)) : IE Γ (fTwo fa fb k) (ra.bind fun b => (rb b).bind fun c => (op (v b) (v' c)).bind fun e => .ok (e, (b, c))) (fun p => P'' p.1) fun p => Γ2 p.2.1 p.2.2 := fun S s => (h S s).bind fun a z ⟨s1, od, e, p⟩ => (h' a z.2 s1).bind fun b w ⟨s2, od', e', p'⟩ => by
  have := K (v a) (v' b) z.1 w.1 od od' w.2 (by rw [e]; rfl) p (by rw [e']; rfl) p'
  cases ho : op (v a) (v' b) with
  | ok c =>
    rw [ho] at this
    obtain ⟨u, e0, e1, o, e2, p2⟩ := this
    exact ⟨u, e0, by rw [e1]; exact s2, o, e2, p2⟩
  | exc x =>
    rw [ho] at this
    exact this
  | stuck => trivial
end
def K1 (k : List Opd → Sg → Res ES) (P : α → Pd) (op : α → Res γ) (P'' : γ → Pd) : Prop := ∀ a x od S, Opd.od S x = some od → P a od → Ans (op a) (k [x] S) fun c z => z.2 = S ∧ ∃ o, z.1 = .v o ∧ P'' c o
theorem one_g {k : List Opd → Sg → Res ES} {P : α → Pd} {op : α → Res γ} {P'' : γ → Pd} {Γ : Cn} {f : FE} {r : Res α} (K : K1 k P op P'') (h : GE Γ f r P) : GV Γ (fArgs (fCons f fNil) k) (r.bind op) P'' := fun S s => by
  rw [fArgs_ap, fCons_ap]
  show Ans _ (((f S).bind fun a => ((.ok ([], a.2) : Res (List Opd × Sg))).bind fun b => .ok (a.1 :: b.1, b.2)).bind fun a => k a.1 a.2) _
  rw [Res.bind_assoc]
  refine (h S s).bind fun a z ⟨s1, q⟩ => ?_
  obtain ⟨od, e, p⟩ := q z.2 s1
  exact (K a z.1 od z.2 e p).mono fun c v ⟨e1, o, e2, p2⟩ => ⟨by rw [e1]; exact s1, o, e2, p2⟩
theorem one_i {δ : Type} {v : δ → α} {Γ' : δ → Cn} {k : List Opd → Sg → Res ES} {P : α → Pd} {op : α → Res γ} {P'' : γ → Pd} {Γ : Cn} {f : FE} {r : Res δ} (K : K1 k P op P'') (h : IE Γ f r (fun b => P (v b)) Γ') : IE Γ (fArgs (fCons f fNil) k) (r.bind fun b => (op (v b)).bind fun e => .ok (e, b)) (fun p => P'' p.1) fun p => Γ' p.2 := fun S s => by
  rw [fArgs_ap, fCons_ap]
  show Ans _ (((f S).bind fun a => ((.ok ([], a.2) : Res (List Opd × Sg))).bind fun b => .ok (a.1 :: b.1, b.2)).bind fun a => k a.1 a.2) _
  rw [Res.bind_assoc]
  refine (h S s).bind fun a z ⟨s1, od, e, p⟩ => ?_
  have := K (v a) z.1 od z.2 (by rw [e]; rfl) p
  show Ans _ (k [z.1] z.2) _
  cases ho : op (v a) with
  | ok c =>
    rw [ho] at this
    obtain ⟨u, e0, e1, o, e2, p2⟩ := this
    exact ⟨u, e0, by rw [e1]; exact s1, o, e2, p2⟩
  | exc x =>
    rw [ho] at this
    exact this
  | stuck => trivial
end
end DL
set_option Elab.async false
set_option linter.all false
set_option maxRecDepth 100000
set_option maxHeartbeats 4000000
namespace DL
open PySem PySem.Spec PyProof.Rows L2
open En (en)

/-! ### what the operations are, typed -/
section
variable {α β γ δ ε ρ : Type}
abbrev vOk {γ : Type} (P'' : γ → Pd) (S : Sg) : γ → ES → Prop := fun c z => z.2 = S ∧ ∃ o, z.1 = .v o ∧ P'' c o
theorem v_ok {P'' : γ → Pd} {S : Sg} {c : γ} {o : OD} (h : P'' c o) : Ans (.ok c) (.ok (.v o, S) : Res ES) (vOk P'' S) := ⟨_, rfl, rfl, o, rfl, h⟩
theorem rd_f [En α] (a : α) : rd a (.f (en a)) := .inl rfl
theorem dat_of {S : Sg} {x : Opd} {od : OD} {d : PyData} (e : Opd.od S x = some od) (h : Rd d od) : x.dat S = some d := by
  rw [dat_ap, e]
  exact h.dt
theorem er_of {S : Sg} {x : Opd} {od : OD} {d : PyData} (e : Opd.od S x = some od) (h : Rd d od) : x.er S = some d := by
  rw [er_ap, e]
  exact h.er
theorem k_addI : K2 addK rd rd (fun a b : Int => .ok (a + b)) rd := fun a b x y od od' S e p e' p' => by
  unfold addK
  rw [e, e', Rd.sc p, Rd.sc p']
  exact v_ok (.inl rfl)
theorem k_int (p : Int → Int → Option Int) : K2 (intK p) rd rd (fun a b : Int => Res.of (p a b)) rd := fun a b x y od od' S e q e' q' => by
  rw [intK_d, dat_of e q, dat_of e' q']
  show Ans (Res.of (p a b)) ((Res.of (p a b)).bind _) _
  cases p a b with
  | none => exact trivial
  | some c => exact v_ok (P'' := rd) (.inl rfl)
def addL (xs ys : List α) : Res (List α) := (guardR (decide (xs.length + ys.length < 1000000))).bind fun _ => .ok (xs ++ ys)
theorem guard_ans {b : Bool} {k : Unit → Res α} {kf : Unit → Res β} {Q : α → β → Prop} (h : b = true → Ans (k ()) (kf ()) Q) : Ans ((guardR b).bind k) ((guardR b).bind kf) Q := by
  cases b with
  | true => exact h rfl
  | false => trivial
theorem k_addL [En α] : K2 addK rd rd (fun a b : List α => addL a b) ow := fun a b x y od od' S e p e' p' => by
  have key : addK x y S = (Res.of od.kid).bind fun ds => (Res.of od'.kid).bind fun es => (guardR (decide (ds.length + es.length < 1000000))).bind fun _ => .ok (.v (.l ((ds ++ es).map .f)), S) := by
    unfold addK
    rw [e, e']
    rcases p with rfl | ⟨_, _, rfl⟩ <;> rcases p' with rfl | ⟨_, _, rfl⟩ <;> rfl
  rw [key, Rd.kid p, Rd.kid p']
  show Ans (addL a b) ((guardR (decide ((a.map en).length + (b.map en).length < 1000000))).bind _) _
  rw [List.length_map, List.length_map]
  refine guard_ans fun _ => ?_
  refine v_ok ?_
  show OD.l _ = OD.l _
  simp only [List.map_append]
def mulI (a b : Int) : Res Int := (guardR (decide ((-(2 ^ 64) < a ∧ a < 2 ^ 64) ∨ (-(2 ^ 64) < b ∧ b < 2 ^ 64)))).bind fun _ => .ok (a * b)
theorem k_mulI : K2 mulK rd rd (fun a b : Int => mulI a b) rd := fun a b x y od od' S e p e' p' => by
  unfold mulK
  rw [e, e', Rd.sc p, Rd.sc p']
  exact guard_ans fun _ => v_ok (.inl rfl)
def mulL (xs : List α) (j : Int) : Res (List α) := (guardR (decide (-1000 ≤ j ∧ j ≤ 1000 ∧ xs.length ≤ 1000))).bind fun _ => .ok (List.replicate j.toNat xs).flatten
theorem k_mulL [En α] : K2 mulK rd rd (fun (a : List α) (b : Int) => mulL a b) ow := fun a b x y od od' S e p e' p' => by
  have key : mulK x y S = (Res.of od.kid).bind fun ds => (guardR (decide (-1000 ≤ b ∧ b ≤ 1000 ∧ ds.length ≤ 1000))).bind fun _ => .ok (.v (.l ((List.replicate b.toNat ds).flatten.map .f)), S) := by
    unfold mulK
    rw [e, e', Rd.sc p']
    rcases p with rfl | ⟨_, _, rfl⟩ <;> rfl
  rw [key, Rd.kid p]
  show Ans (mulL a b) ((guardR (decide (-1000 ≤ b ∧ b ≤ 1000 ∧ (a.map en).length ≤ 1000))).bind _) _
  rw [List.length_map]
  refine guard_ans fun _ => v_ok ?_
  show OD.l _ = OD.l _
  simp only [List.map_flatten, List.map_replicate]
def getI (xs : List α) (i : Int) : Res α := Res.of (atI xs i)
theorem at_map (f : α → β) (xs : List α) (i : Int) : atI (xs.map f) i = (atI xs i).map f := by
  unfold atI
  rw [List.length_map]
  cases ixN xs.length i with
  | none => rfl
  | some j => exact List.getElem?_map
theorem sub_of {S : Sg} {x y : Opd} {od od' : OD} {ds : List PyData} {i : Int} (e : Opd.od S x = some od) (p : Rd (.list ds) od ∨ Rd (.tuple ds) od) (e' : Opd.od S y = some od') (p' : rd i od') : subK x y S = (Res.of (atI ds i)).bind fun d => .ok (.v (.f d), S) := by
  have k : od.kidA = some ds := by
    rcases p with p | p
    · exact p.kidA
    · rw [p.tup]; rfl
  have key : subK x y S = match y.dat S with
    | some (.int i) => (Res.of (od.kidA.bind fun ds => atI ds i)).bind fun d => .ok (.v (.f d), S)
    | _ => .stuck := by
    unfold subK
    rw [e]
    rcases p with p | p
    · rcases p with rfl | ⟨_, _, rfl⟩ <;> rfl
    · rw [p.tup] <;> rfl
  rw [key, dat_of e' p', k]
  rfl
theorem k_ixL [En α] : K2 subK rd rd (fun (a : List α) (b : Int) => getI a b) rd := fun a b x y od od' S e p e' p' => by
  rw [sub_of e (.inl p) e' p', at_map]
  show Ans (Res.of (atI a b)) _ _
  cases atI a b with
  | none => exact trivial
  | some c => exact v_ok (P'' := rd) (.inl rfl)
theorem k_ixT [En α] : K2 subK rd rd (fun (a : Tp α) (b : Int) => getI a.l b) rd := fun a b x y od od' S e p e' p' => by
  rw [sub_of e (.inr p) e' p', at_map]
  show Ans (Res.of (atI a.l b)) _ _
  cases atI a.l b with
  | none => exact trivial
  | some c => exact v_ok (P'' := rd) (.inl rfl)
theorem fst_g [En α] [En β] {Γ : Cn} {f : FE} {r : Res (α × β)} (h : GE Γ f r rd) : GV Γ (fTwo f (fC (.int 0)) subK) (r.bind fun p => .ok p.1) rd := fun S s => (h S s).bind fun a z ⟨s1, q⟩ => by
  obtain ⟨od, e, p⟩ := q z.2 s1
  show Ans (.ok a.1) (subK z.1 (.v (.f (.int 0))) z.2) _
  rw [sub_of (i := 0) e (.inr p) rfl (.inl rfl)]
  exact ⟨_, rfl, s1, _, rfl, .inl rfl⟩
theorem snd_g [En α] [En β] {Γ : Cn} {f : FE} {r : Res (α × β)} (h : GE Γ f r rd) : GV Γ (fTwo f (fC (.int 1)) subK) (r.bind fun p => .ok p.2) rd := fun S s => (h S s).bind fun a z ⟨s1, q⟩ => by
  obtain ⟨od, e, p⟩ := q z.2 s1
  show Ans (.ok a.2) (subK z.1 (.v (.f (.int 1))) z.2) _
  rw [sub_of (i := 1) e (.inr p) rfl (.inl rfl)]
  exact ⟨_, rfl, s1, _, rfl, .inl rfl⟩
theorem t30_g [En α] [En β] [En γ] {Γ : Cn} {f : FE} {r : Res (T3 α β γ)} (h : GE Γ f r rd) : GV Γ (fTwo f (fC (.int 0)) subK) (r.bind fun p => .ok p.a) rd := fun S s => (h S s).bind fun a z ⟨s1, q⟩ => by
  obtain ⟨od, e, p⟩ := q z.2 s1
  show Ans (.ok a.a) (subK z.1 (.v (.f (.int 0))) z.2) _
  rw [sub_of (i := 0) e (.inr p) rfl (.inl rfl)]
  exact ⟨_, rfl, s1, _, rfl, .inl rfl⟩
theorem t31_g [En α] [En β] [En γ] {Γ : Cn} {f : FE} {r : Res (T3 α β γ)} (h : GE Γ f r rd) : GV Γ (fTwo f (fC (.int 1)) subK) (r.bind fun p => .ok p.b) rd := fun S s => (h S s).bind fun a z ⟨s1, q⟩ => by
  obtain ⟨od, e, p⟩ := q z.2 s1
  show Ans (.ok a.b) (subK z.1 (.v (.f (.int 1))) z.2) _
  rw [sub_of (i := 1) e (.inr p) rfl (.inl rfl)]
  exact ⟨_, rfl, s1, _, rfl, .inl rfl⟩
theorem t32_g [En α] [En β] [En γ] {Γ : Cn} {f : FE} {r : Res (T3 α β γ)} (h : GE Γ f r rd) : GV Γ (fTwo f (fC (.int 2)) subK) (r.bind fun p => .ok p.c) rd := fun S s => (h S s).bind fun a z ⟨s1, q⟩ => by
  obtain ⟨od, e, p⟩ := q z.2 s1
  show Ans (.ok a.c) (subK z.1 (.v (.f (.int 2))) z.2) _
  rw [sub_of (i := 2) e (.inr p) rfl (.inl rfl)]
  exact ⟨_, rfl, s1, _, rfl, .inl rfl⟩
/-! dicts -/
def dg [DecidableEq κ] (m : Dc κ υ) (k : κ) : Option υ := (m.find? fun p => decide (p.1 = k)).map (·.2)
def dp [DecidableEq κ] (m : Dc κ υ) (k : κ) (v : υ) : Dc κ υ := if (m.any fun p => decide (p.1 = k)) = true then m.map (fun p => if p.1 = k then (p.1, v) else p) else m ++ [(k, v)]
theorem eqv_ky [En κ] [Ky κ] [DecidableEq κ] (k k' : κ) : PyData.eqv (en k) (en k') = decide (k = k') := by
  by_cases h : k = k'
  · rw [decide_eq_true h]; exact (Ky.eq k k').mpr h
  · rw [decide_eq_false h]
    cases e : PyData.eqv (en k) (en k') with
    | false => rfl
    | true => exact absurd ((Ky.eq k k').mp e) h
section
variable [En κ] [Ky κ] [DecidableEq κ] [En υ]
theorem dget_eM (m : Dc κ υ) (k : κ) : dget (eM m) (en k) = (dg m k).map fun v => OD.f (en v) := by
  unfold dget dg eM
  induction m with
  | nil => rfl
  | cons p m ih =>
    rw [List.map_cons, List.find?_cons, List.find?_cons]
    simp only [eqv_ky]
    by_cases h : p.1 = k
    · simp [h]
    · simp only [h, decide_false]
      exact ih
theorem dget_eG (m : Dc κ υ) (k : κ) : dget (eG m) (en k) = (dg m k).map fun v => en v := by
  unfold dget dg eG
  induction m with
  | nil => rfl
  | cons p m ih =>
    rw [List.map_cons, List.find?_cons, List.find?_cons]
    simp only [eqv_ky]
    by_cases h : p.1 = k
    · simp [h]
    · simp only [h, decide_false]
      exact ih
theorem any_eM (m : Dc κ υ) (k : κ) : ((eM m).any fun p => PyData.eqv p.1 (en k)) = m.any fun p => decide (p.1 = k) := by
  unfold eM
  rw [List.any_map]
  congr 1
  funext p
  exact eqv_ky _ _
theorem dput_eM (m : Dc κ υ) (k : κ) (v : υ) : dput (eM m) (en k) (.f (en v)) = eM (dp m k v) := by
  unfold dput dp
  rw [any_eM]
  by_cases h : (m.any fun p => decide (p.1 = k)) = true
  · rw [if_pos h, if_pos h]
    unfold eM
    rw [List.map_map, List.map_map]
    refine List.map_congr_left fun p _ => ?_
    simp only [Function.comp, eqv_ky]
    by_cases e : p.1 = k
    · simp [e]
    · simp [e]
  · rw [if_neg h, if_neg h]
    unfold eM
    rw [List.map_append]
    rfl
theorem dk_of {m : Dc κ υ} {od : OD} (h : dr m od) (k : κ) : od.dk (en k) = some ((dg m k).map fun v => en v) := by
  rcases h with rfl | rfl
  · show (if keyFt (Ky.t κ) (en k) = true then match dget (eM m) (en k) with
      | none => some none
      | some (.f d) => some (some d)
      | some _ => none
    else none) = _
    rw [if_pos (Ky.ok k), dget_eM]
    cases dg m k <;> rfl
  · show (if keyFt (Ky.t κ) (en k) = true then some (dget (eG m) (en k)) else none) = _
    rw [if_pos (Ky.ok k), dget_eG]
theorem dh_of {m : Dc κ υ} {od : OD} (h : dr m od) (k : κ) : od.dh (en k) = some (dg m k).isSome := by
  rcases h with rfl | rfl
  · show (if keyFt (Ky.t κ) (en k) = true then some (dget (eM m) (en k)).isSome else none) = _
    rw [if_pos (Ky.ok k), dget_eM, Option.isSome_map]
  · show (if keyFt (Ky.t κ) (en k) = true then some (dget (eG m) (en k)).isSome else none) = _
    rw [if_pos (Ky.ok k), dget_eG, Option.isSome_map]
theorem k_dix : K2 subK dr rd (fun (m : Dc κ υ) (k : κ) => Res.of (dg m k)) rd := fun m k x y od od' S e p e' p' => by
  have key : subK x y S = (Res.of ((y.er S).bind fun k => od.dk k)).bind fun r => (Res.of r).bind fun d => .ok (.v (.f d), S) := by
    unfold subK
    rw [e]
    rcases p with rfl | rfl <;> rfl
  rw [key, er_of e' p']
  show Ans _ ((Res.of (od.dk (en k))).bind _) _
  rw [dk_of p]
  show Ans (Res.of (dg m k)) _ _
  cases dg m k with
  | none => exact trivial
  | some v => exact v_ok (P'' := rd) (.inl rfl)
theorem in_of {m : Dc κ υ} {k : κ} {x y : Opd} {od od' : OD} {S : Sg} (neg : Bool) (e : Opd.od S x = some od) (p : rd k od) (e' : Opd.od S y = some od') (p' : dr m od') : inK neg x y S = .ok (.v (.f (.bool (if neg = true then !(dg m k).isSome else (dg m k).isSome))), S) := by
  have key : inK neg x y S = (Res.of ((x.er S).bind fun k => od'.dh k)).bind fun b => .ok (.v (.f (.bool (if neg = true then !b else b))), S) := by
    unfold inK
    rw [e']
    rcases p' with rfl | rfl <;> rfl
  rw [key, er_of e p]
  show (Res.of (od'.dh (en k))).bind _ = _
  rw [dh_of p']
  rfl
theorem k_inD : K2 (inK false) rd dr (fun (k : κ) (m : Dc κ υ) => .ok (dg m k).isSome) rd := fun k m x y od od' S e p e' p' => by
  rw [in_of false e p e' p']
  exact v_ok (.inl rfl)
theorem k_ninD : K2 (inK true) rd dr (fun (k : κ) (m : Dc κ υ) => .ok (!(dg m k).isSome)) rd := fun k m x y od od' S e p e' p' => by
  rw [in_of true e p e' p']
  exact v_ok (.inl rfl)
theorem dr_isD {m : Dc κ υ} {od : OD} (h : dr m od) : isD od = true := by rcases h with rfl | rfl <;> rfl
/-- d.get(k, z) -/
theorem get2_g {Γ : Cn} {fo fa fb : FE} {rm : Res (Dc κ υ)} {rk : Res κ} {rz : Res υ} (h : GE Γ fo rm dr) (h2 : GE Γ fa rk rd) (h3 : IE Γ (fFz fb) rz rd fun _ => Γ) [Sc υ] : GV Γ (fGet2 fo fa (fFz fb)) (rm.bind fun m => rk.bind fun k => rz.bind fun z => .ok ((dg m k).getD z)) rd := fun S s => by
  rw [fGet2_ap]
  refine (h S s).bind fun m z ⟨s1, q⟩ => ?_
  obtain ⟨od, e, p⟩ := q z.2 s1
  rw [e]
  show Ans _ ((guardR (isD od)).bind _) _
  rw [dr_isD p]
  show Ans _ ((fa z.2).bind _) _
  refine (h2 z.2 s1).bind fun k w ⟨s2, q2⟩ => (h3 w.2 s2).bind fun c v ⟨s3, od3, e3, p3⟩ => ?_
  obtain ⟨od', e', p'⟩ := q v.2 s3
  obtain ⟨od2, e2, p2⟩ := q2 v.2 s3
  unfold get2K
  rw [e', er_of e2 p2]
  show Ans _ ((Res.of (od'.dk (en k))).bind _) _
  rw [dk_of p', e3, Rd.sc p3]
  cases dg m k with
  | none => exact ⟨_, rfl, s3, _, rfl, .inl rfl⟩
  | some v => exact ⟨_, rfl, s3, _, rfl, .inl rfl⟩
end
/-! comparisons -/
class Dpt (α : Type) [En α] where
  n : Nat
  le : ∀ a : α, (en a).depth ≤ n
instance : Dpt Int := ⟨0, fun _ => Nat.le_refl _⟩
instance : Dpt Bool := ⟨0, fun _ => Nat.le_refl _⟩
instance : Dpt Str := ⟨0, fun _ => Nat.le_refl _⟩
instance : Dpt Unit := ⟨0, fun _ => Nat.le_refl _⟩
theorem depthAll_le {n : Nat} : ∀ {ds : List PyData}, (∀ d ∈ ds, d.depth ≤ n) → PyData.depthAll ds ≤ n
  | [], _ => Nat.zero_le _
  | d :: ds, h => by
    unfold PyData.depthAll
    exact Nat.max_le.mpr ⟨h d List.mem_cons_self, depthAll_le fun x z => h x (List.mem_cons_of_mem _ z)⟩
instance [En α] [Dpt α] : Dpt (List α) := ⟨Dpt.n α + 1, fun xs => by
  show PyData.depth (.list (xs.map en)) ≤ _
  unfold PyData.depth
  refine Nat.succ_le_succ (depthAll_le fun d hd => ?_)
  obtain ⟨a, _, rfl⟩ := List.mem_map.mp hd
  exact Dpt.le a⟩
instance [En α] [Dpt α] : Dpt (Tp α) := ⟨Dpt.n α + 1, fun xs => by
  show PyData.depth (.tuple (xs.l.map en)) ≤ _
  unfold PyData.depth
  refine Nat.succ_le_succ (depthAll_le fun d hd => ?_)
  obtain ⟨a, _, rfl⟩ := List.mem_map.mp hd
  exact Dpt.le a⟩
instance [En α] [Dpt α] [En β] [Dpt β] : Dpt (α × β) := ⟨max (Dpt.n α) (Dpt.n β) + 1, fun p => by
  show PyData.depth (.tuple [en p.1, en p.2]) ≤ _
  unfold PyData.depth
  refine Nat.succ_le_succ (depthAll_le fun d hd => ?_)
  have h1 := Dpt.le p.1
  have h2 := Dpt.le p.2
  rcases List.mem_cons.mp hd with rfl | hd
  · omega
  · rw [List.mem_singleton.mp hd]; omega⟩
instance [En α] [Dpt α] [En β] [Dpt β] [En γ] [Dpt γ] : Dpt (T3 α β γ) := ⟨max (max (Dpt.n α) (Dpt.n β)) (Dpt.n γ) + 1, fun p => by
  show PyData.depth (.tuple [en p.a, en p.b, en p.c]) ≤ _
  unfold PyData.depth
  refine Nat.succ_le_succ (depthAll_le fun d hd => ?_)
  have h1 := Dpt.le p.a
  have h2 := Dpt.le p.b
  have h3 := Dpt.le p.c
  simp only [List.mem_cons, List.not_mem_nil, or_false] at hd
  rcases hd with rfl | rfl | rfl <;> omega⟩
instance [En α] [Dpt α] : Dpt (Option α) := ⟨Dpt.n α, fun o => by
  cases o with
  | none => exact Nat.zero_le _
  | some a => exact Dpt.le a⟩
class EnEq (α : Type) [En α] [DecidableEq α] : Prop where
  eq : ∀ a b : α, PyData.eqv (en a) (en b) = decide (a = b)
instance : EnEq Int := ⟨eqv_ii⟩
instance : EnEq Bool := ⟨fun a b => by cases a <;> cases b <;> rfl⟩
theorem eqvAll_map [En α] [DecidableEq α] [EnEq α] : ∀ xs ys : List α, PyData.eqvAll (xs.map en) (ys.map en) = decide (xs = ys)
  | [], [] => by simp [PyData.eqvAll]
  | [], _ :: _ => by simp [PyData.eqvAll]
  | _ :: _, [] => by simp [PyData.eqvAll]
  | x :: xs, y :: ys => by
    show (PyData.eqv (en x) (en y) && PyData.eqvAll (xs.map en) (ys.map en)) = _
    rw [EnEq.eq, eqvAll_map xs ys, ← Bool.decide_and]
    exact decide_eq_decide.mpr (by simp)
instance [En α] [DecidableEq α] [EnEq α] : EnEq (List α) := ⟨fun a b => by
  show PyData.eqv (.list _) (.list _) = _
  unfold PyData.eqv
  exact eqvAll_map a b⟩
instance [En α] [DecidableEq α] [EnEq α] : EnEq (Tp α) := ⟨fun a b => by
  show PyData.eqv (.tuple _) (.tuple _) = _
  unfold PyData.eqv
  rw [eqvAll_map a.l b.l]
  refine decide_eq_decide.mpr ?_
  cases a; cases b; simp⟩
instance [En α] [DecidableEq α] [EnEq α] [En β] [DecidableEq β] [EnEq β] : EnEq (α × β) := ⟨fun a b => by
  show PyData.eqv (.tuple [en a.1, en a.2]) (.tuple [en b.1, en b.2]) = _
  simp only [PyData.eqv, PyData.eqvAll, EnEq.eq, Bool.and_true]
  rw [← Bool.decide_and]
  exact decide_eq_decide.mpr (by rw [Prod.ext_iff])⟩
instance [En α] [DecidableEq α] [EnEq α] [En β] [DecidableEq β] [EnEq β] [En γ] [DecidableEq γ] [EnEq γ] : EnEq (T3 α β γ) := ⟨fun a b => by
  show PyData.eqv (.tuple [en a.a, en a.b, en a.c]) (.tuple [en b.a, en b.b, en b.c]) = _
  simp only [PyData.eqv, PyData.eqvAll, EnEq.eq, Bool.and_true]
  rw [← Bool.decide_and, ← Bool.decide_and]
  refine decide_eq_decide.mpr ?_
  cases a; cases b; simp⟩
theorem roomE [En α] [Dpt α] (h : Dpt.n α ≤ 50) (a b : α) : room2 (en a) (en b) = true := decide_eq_true (Nat.le_trans (Nat.min_le_left _ _) (Nat.le_trans (Dpt.le a) h))
theorem cmp_of {p : P2} {x y : Opd} {S : Sg} {od od' : OD} {d d' : PyData} (e : Opd.od S x = some od) (h : Rd d od) (e' : Opd.od S y = some od') (h' : Rd d' od') {b : Bool} (q : p d d' = some b) : cmpK p x y S = .ok (.v (.f (.bool b)), S) := cmpK_ap p x y S d d' b (dat_of e h) (dat_of e' h') q
theorem k_eq [En α] [DecidableEq α] [EnEq α] [Dpt α] (hd : Dpt.n α ≤ 50) : K2 (cmpK pEq) rd rd (fun a b : α => .ok (decide (a = b))) rd := fun a b x y od od' S e p e' p' => by
  rw [cmp_of (b := decide (a = b)) e p e' p' (by unfold pEq; rw [if_pos (roomE hd a b), EnEq.eq])]
  exact v_ok (.inl rfl)
theorem k_ne [En α] [DecidableEq α] [EnEq α] [Dpt α] (hd : Dpt.n α ≤ 50) : K2 (cmpK pNe) rd rd (fun a b : α => .ok (!decide (a = b))) rd := fun a b x y od od' S e p e' p' => by
  rw [cmp_of (b := !decide (a = b)) e p e' p' (by unfold pNe; rw [if_pos (roomE hd a b), EnEq.eq])]
  exact v_ok (.inl rfl)
theorem k_lt : K2 (cmpK pLt) rd rd (fun a b : Int => .ok (decide (a < b))) rd := fun a b x y od od' S e p e' p' => by
  rw [cmp_of e p e' p' (pLt_ii a b)]
  exact v_ok (.inl rfl)
theorem k_gt : K2 (cmpK pGt) rd rd (fun a b : Int => .ok (decide (b < a))) rd := fun a b x y od od' S e p e' p' => by
  rw [cmp_of e p e' p' (pGt_ii a b)]
  exact v_ok (.inl rfl)
theorem k_le : K2 (cmpK pLe) rd rd (fun a b : Int => .ok (decide (a ≤ b))) rd := fun a b x y od od' S e p e' p' => by
  rw [cmp_of e p e' p' (pLe_ii a b)]
  exact v_ok (.inl rfl)
theorem k_ge : K2 (cmpK pGe) rd rd (fun a b : Int => .ok (decide (b ≤ a))) rd := fun a b x y od od' S e p e' p' => by
  rw [cmp_of e p e' p' (pGe_ii a b)]
  exact v_ok (.inl rfl)
def lt2 (a b : Int × Int) : Bool := decide (a.1 < b.1 ∨ (a.1 = b.1 ∧ a.2 < b.2))
theorem lt_pp (a b : Int × Int) : pLt (en a) (en b) = some (lt2 a b) := by
  obtain ⟨a1, a2⟩ := a
  obtain ⟨b1, b2⟩ := b
  show pLt (.tuple [.int a1, .int a2]) (.tuple [.int b1, .int b2]) = _
  have h1 : cmpOk (.tuple [.int a1, .int a2]) (.tuple [.int b1, .int b2]) = true := by
    unfold cmpOk room2
    simp [PySem.W.alike, PySem.W.alikeAll, notNone, PyData.depth, PyData.depthAll]
  unfold pLt
  rw [if_pos h1]
  congr 1
  unfold PySem.W.dataLt PySem.W.keyToks lt2
  simp [PySem.W.keyToksAll, PySem.W.keyToks, PyProof.Rows.lexLt, itemLt]
  by_cases q : a1 < b1
  · simp [q]
  · by_cases q2 : b1 < a1
    · have : ¬ a1 = b1 := by omega
      simp [q, q2, this]
    · have : a1 = b1 := by omega
      subst this
      simp
theorem k_ltP : K2 (cmpK pLt) rd rd (fun a b : Int × Int => .ok (lt2 a b)) rd := fun a b x y od od' S e p e' p' => by
  rw [cmp_of e p e' p' (lt_pp a b)]
  exact v_ok (.inl rfl)
/-- whether something stands in a list -/
def memL {α : Type} [DecidableEq α] (a : α) (xs : List α) : Bool := decide (a ∈ xs)
theorem any_eqv [En α] [DecidableEq α] [EnEq α] (a : α) (xs : List α) : ((xs.map en).any fun y => PyData.eqv y (en a)) = decide (a ∈ xs) := by
  induction xs with
  | nil => rfl
  | cons x xs ih =>
    rw [List.map_cons, List.any_cons, ih, EnEq.eq, ← Bool.decide_or]
    exact decide_eq_decide.mpr (by simp [eq_comm])
theorem pInE [En α] [DecidableEq α] [EnEq α] [Dpt α] (hd : Dpt.n α ≤ 50) (a : α) (xs : List α) (d : PyData) (h : d = .list (xs.map en) ∨ d = .tuple (xs.map en)) : pIn (en a) d = some (decide (a ∈ xs)) := by
  have : decide (min (PyData.depthAll (xs.map en)) (en a).depth ≤ 50) = true := decide_eq_true (Nat.le_trans (Nat.min_le_right _ _) (Nat.le_trans (Dpt.le a) hd))
  unfold pIn
  rcases h with rfl | rfl
  · show (if decide (min (PyData.depthAll (xs.map en)) (en a).depth ≤ 50) = true then some ((xs.map en).any fun y => PyData.eqv y (en a)) else none) = _
    rw [if_pos this, any_eqv]
  · show (if decide (min (PyData.depthAll (xs.map en)) (en a).depth ≤ 50) = true then some ((xs.map en).any fun y => PyData.eqv y (en a)) else none) = _
    rw [if_pos this, any_eqv]
theorem inK_of {neg : Bool} {x y : Opd} {S : Sg} {od' : OD} {ds : List PyData} (e' : Opd.od S y = some od') (p' : Rd (.list ds) od' ∨ Rd (.tuple ds) od') : inK neg x y S = cmpK (if neg = true then pNotIn else pIn) x y S := by
  unfold inK
  rw [e']
  rcases p' with p' | p'
  · rcases p' with rfl | ⟨_, _, rfl⟩ <;> rfl
  · rw [p'.tup]
section
variable [En α] [DecidableEq α] [EnEq α] [Dpt α]
theorem k_inL (hd : Dpt.n α ≤ 50) : K2 (inK false) rd rd (fun (a : α) (xs : List α) => .ok (memL a xs)) rd := fun a b x y od od' S e p e' p' => by
  rw [inK_of e' (.inl p')]
  simp only [if_true, Bool.false_eq_true, if_false]
  rw [cmp_of (b := decide (a ∈ b)) e p e' p' (pInE hd a b _ (.inl rfl))]
  exact v_ok (.inl rfl)
theorem k_ninL (hd : Dpt.n α ≤ 50) : K2 (inK true) rd rd (fun (a : α) (xs : List α) => .ok (!memL a xs)) rd := fun a b x y od od' S e p e' p' => by
  have q : pNotIn (en a) (en b) = some (!decide (a ∈ b)) := by
    unfold pNotIn
    rw [pInE hd a b (en b) (.inl rfl)]
    rfl
  rw [inK_of e' (.inl p')]
  simp only [if_true, Bool.false_eq_true, if_false]
  rw [cmp_of (b := !decide (a ∈ b)) e p e' p' q]
  exact v_ok (.inl rfl)
theorem k_inT (hd : Dpt.n α ≤ 50) : K2 (inK false) rd rd (fun (a : α) (xs : Tp α) => .ok (memL a xs.l)) rd := fun a b x y od od' S e p e' p' => by
  rw [inK_of e' (.inr p')]
  simp only [if_true, Bool.false_eq_true, if_false]
  rw [cmp_of (b := decide (a ∈ b.l)) e p e' p' (pInE hd a b.l _ (.inr rfl))]
  exact v_ok (.inl rfl)
theorem k_ninT (hd : Dpt.n α ≤ 50) : K2 (inK true) rd rd (fun (a : α) (xs : Tp α) => .ok (!memL a xs.l)) rd := fun a b x y od od' S e p e' p' => by
  have q : pNotIn (en a) (en b) = some (!decide (a ∈ b.l)) := by
    unfold pNotIn
    rw [pInE hd a b.l (en b) (.inr rfl)]
    rfl
  rw [inK_of e' (.inr p')]
  simp only [if_true, Bool.false_eq_true, if_false]
  rw [cmp_of (b := !decide (a ∈ b.l)) e p e' p' q]
  exact v_ok (.inl rfl)
end
/-! one argument -/
theorem len_of {x : Opd} {S : Sg} {od : OD} {ds : List PyData} (e : Opd.od S x = some od) (p : Rd (.list ds) od ∨ Rd (.tuple ds) od) : lenK [x] S = .ok (.v (.f (.int ds.length)), S) := by
  unfold lenK
  dsimp only
  rw [e]
  rcases p with p | p
  · rcases p with rfl | ⟨es, h, rfl⟩
    · rfl
    · cases h
      show (.ok (.v (.f (.int ((ds.map OD.f).length : Nat))), S) : Res ES) = _
      rw [List.length_map]
  · rw [p.tup]; rfl
theorem k_lenL [En α] : K1 lenK rd (fun xs : List α => .ok (xs.length : Int)) rd := fun a x od S e p => by
  rw [len_of e (.inl p), List.length_map]
  exact v_ok (.inl rfl)
theorem k_lenT [En α] : K1 lenK rd (fun xs : Tp α => .ok (xs.l.length : Int)) rd := fun a x od S e p => by
  rw [len_of e (.inr p), List.length_map]
  exact v_ok (.inl rfl)
theorem k_lenP [En α] [En β] : K1 lenK rd (fun xs : α × β => .ok (2 : Int)) rd := fun a x od S e p => by
  rw [len_of e (.inr p)]
  exact v_ok (.inl rfl)
theorem k_lenO [En α] : K1 lenK oo (fun xs : List (List α) => .ok (xs.length : Int)) rd := fun a x od S e p => by
  unfold lenK
  dsimp only
  rw [e, show od = _ from p]
  show Ans _ (.ok (.v (.f (.int ((a.map fun ys => OD.l ((ys.map en).map .f)).length : Nat))), S) : Res ES) _
  rw [List.length_map]
  exact v_ok (.inl rfl)
theorem k_abs : K1 absK rd (fun i : Int => .ok (if i < 0 then -i else i)) rd := fun a x od S e p => by
  unfold absK
  dsimp only
  rw [dat_of e p]
  exact v_ok (.inl rfl)
theorem k_list [En α] : K1 listK rd (fun xs : List α => .ok xs) ow := fun a x od S e p => by
  unfold listK
  dsimp only
  rw [e]
  show Ans _ ((Res.of od.kidA).bind _) _
  rw [Rd.kidA p]
  exact v_ok rfl
theorem k_listT [En α] : K1 listK rd (fun xs : Tp α => .ok xs.l) ow := fun a x od S e p => by
  unfold listK
  dsimp only
  rw [e, Rd.sc p]
  exact v_ok rfl
theorem k_tup [En α] : K1 tupK rd (fun xs : List α => .ok (Tp.mk xs)) rd := fun a x od S e p => by
  have key : tupK [x] S = (Res.of od.kid).bind fun ds => .ok (.v (.f (.tuple ds)), S) := by
    unfold tupK
    dsimp only
    rw [e]
    rcases p with rfl | ⟨_, _, rfl⟩ <;> rfl
  rw [key, Rd.kid p]
  exact v_ok (.inl rfl)
theorem k_all : K1 allK rd (fun xs : List Bool => .ok (xs.all id)) rd := fun a x od S e p => by
  unfold allK
  dsimp only
  rw [e]
  show Ans _ ((Res.of (od.kid.bind allBl)).bind _) _
  rw [Rd.kid p]
  have : allBl (a.map en) = some a := by
    clear p e
    induction a with
    | nil => rfl
    | cons b a ih =>
      show (allBl (a.map en)).map (b :: ·) = _
      rw [ih]
      rfl
  show Ans _ ((Res.of (allBl (a.map en))).bind _) _
  rw [this]
  exact v_ok (.inl rfl)
theorem k_intB : K1 intC rd (fun b : Bool => .ok (if b = true then (1 : Int) else 0)) rd := fun a x od S e p => by
  unfold intC
  dsimp only
  rw [dat_of e p]
  exact v_ok (.inl rfl)
theorem k_intI : K1 intC rd (fun b : Int => .ok b) rd := fun a x od S e p => by
  unfold intC
  dsimp only
  rw [dat_of e p]
  exact v_ok (.inl rfl)
def keysD (m : Dc κ υ) : List κ := m.map (·.1)
theorem allInt_map : ∀ xs : List Int, allInt (xs.map en) = some xs
  | [] => rfl
  | x :: xs => by
    show (allInt (xs.map en)).map (x :: ·) = _
    rw [allInt_map xs]
    rfl
def sortKeys (m : Dc Int υ) : Res (List Int) := (guardR (decide (m.length < 64))).bind fun _ => .ok (sortI (keysD m))
theorem dkv_of [En υ] {m : Dc Int υ} {od : OD} (h : dr m od) : od.dkv = some ((keysD m).map en) := by
  rcases h with rfl | rfl
  · show some ((eM m).map Prod.fst) = _
    unfold eM keysD
    rw [List.map_map, List.map_map]
    rfl
  · show some ((eG m).map Prod.fst) = _
    unfold eG keysD
    rw [List.map_map, List.map_map]
    rfl
theorem k_sortD [En υ] : K1 sortDK dr (fun m : Dc Int υ => sortKeys m) ow := fun a x od S e p => by
  unfold sortDK
  dsimp only
  rw [e]
  show Ans _ ((Res.of (od.dkv.bind allInt)).bind _) _
  rw [dkv_of p]
  show Ans _ ((Res.of (allInt ((keysD a).map en))).bind _) _
  rw [allInt_map]
  show Ans _ ((guardR (decide ((keysD a).length < 64))).bind _) _
  have : (keysD a).length = a.length := List.length_map ..
  rw [this]
  exact guard_ans fun _ => v_ok rfl
theorem k_dict [En υ] : K1 dictK dr (fun m : Dc Int υ => .ok m) dw := fun a x od S e p => by
  have key : od.dcp = some (eG a) := by
    rcases p with rfl | rfl
    · show (frsO ((eM a).map Prod.snd)).map (fun ds => ((eM a).map Prod.fst).zip ds) = _
      have : (eM a).map Prod.snd = (a.map fun p => en p.2).map OD.f := by
        unfold eM
        rw [List.map_map, List.map_map]
        rfl
      rw [this, frs_f]
      show some (((eM a).map Prod.fst).zip (a.map fun p => en p.2)) = _
      have : (eM a).map Prod.fst = a.map fun p => en p.1 := by
        unfold eM
        rw [List.map_map]
        rfl
      rw [this, List.zip_map', eG]
    · rfl
  unfold dictK
  dsimp only
  rw [e]
  show Ans _ ((Res.of od.dcp).bind _) _
  rw [key]
  refine v_ok ?_
  show OD.m false ((eG a).map fun q => (q.1, OD.f q.2)) = OD.m (Ky.t Int) (eM a)
  unfold eG eM
  rw [List.map_map]
  rfl
def minL (xs : List Int) : Option Int := match xs with
  | [] => none
  | x :: xs => some (xs.foldl (fun a b => if b < a then b else a) x)
end
end DL
set_option Elab.async false
set_option linter.all false
set_option maxRecDepth 100000
set_option maxHeartbeats 4000000
namespace DL
open PySem PySem.Spec PyProof.Rows L2
open En (en)
section
variable {α β γ δ ε ρ σ τ : Type}
/-! ### frozen, taken -/
def fr [En α] (a : α) : Pd := fun od => od = .f (en a)
def dz [En κ] [Ky κ] [En υ] (m : Dc κ υ) : Pd := fun od => od = .g (Ky.t κ) (eG m)
theorem fr_rd [En α] (a : α) (od : OD) (h : fr a od) : rd a od := .inl h
theorem rd_fr [En α] [Sc α] (a : α) (od : OD) (h : rd a od) : fr a od := Rd.sc h
theorem dz_dr [En κ] [Ky κ] [En υ] (m : Dc κ υ) (od : OD) (h : dz m od) : dr m od := .inr h
theorem fro_fr [En α] (a : α) (od : OD) (h : fr a od) : frOD od = true := by rw [show od = _ from h]; rfl
theorem fro_dz [En κ] [Ky κ] [En υ] (m : Dc κ υ) (od : OD) (h : dz m od) : frOD od = true := by rw [show od = _ from h]; rfl
theorem fro_rs [En α] (a : List α) (od : OD) (h : rs a od) : frOD od = true := by rw [show od = _ from h]; rfl
theorem take_var [En α] {a : α} {Γ : Cn} {n : Nat} (h : Γ[n]? = some (dv (rd a))) {S : Sg} (s : Sat S Γ) : takeO (.i n) S = some (.f (en a), S.set n (some (.f (en a)))) ∧ Sat (S.set n (some (.f (en a)))) Γ := by
  obtain ⟨od, e, p⟩ := s.get h
  rw [takeO_i, e]
  show (od.fz.map fun od' => (od', S.set n (some od'))) = _ ∧ _
  rw [Rd.fz p]
  exact ⟨rfl, s.setS h ⟨_, rfl, .inl rfl⟩⟩
theorem fV_run {S : Sg} {Γ : Cn} (s : Sat S Γ) {n : Nat} {P : Pd} (h : Γ[n]? = some (dv P)) : fV n S = Res.ok (Opd.i n, S) := by
  obtain ⟨od, e, p⟩ := s.get h
  unfold fV
  rw [e]
theorem tk_var [En α] (a : α) {Γ : Cn} {n : Nat} (h : Γ[n]? = some (dv (rd a))) : GV Γ (fTk (fV n)) (.ok a) fr := fun S s => by
  obtain ⟨e, s2⟩ := take_var h s
  rw [fTk_ap, fV_run s h]
  show Ans _ ((Res.of (takeO (.i n) S)).bind _) _
  rw [e]
  exact ⟨_, rfl, s2, _, rfl, rfl⟩
theorem tk_val {Γ : Cn} {f : FE} {r : Res β} {P : β → Pd} {Γ' : β → Cn} (h : IE Γ f r P Γ') : IE Γ (fTk f) r P Γ' := fun S s => by
  rw [fTk_ap]
  exact (h S s).bindR fun b z ⟨h1, od, e, p⟩ => ⟨(.v od, z.2), by rw [e]; rfl, h1, od, rfl, p⟩
theorem fz_var [En α] (a : α) {Γ : Cn} {n : Nat} (h : Γ[n]? = some (dv (rd a))) : GV Γ (fFz (fV n)) (.ok a) fr := fun S s => by
  obtain ⟨e, s2⟩ := take_var h s
  rw [fFz_ap, fV_run s h]
  show Ans _ ((Res.of (takeO (.i n) S)).bind _) _
  rw [e]
  exact ⟨_, rfl, s2, _, rfl, rfl⟩
theorem fz_rs [En α] (a : List α) {Γ : Cn} {n : Nat} (h : Γ[n]? = some (dv (rs a))) : GV Γ (fFz (fV n)) (.ok a) rs := fun S s => by
  obtain ⟨od, e, p⟩ := s.get h
  rw [fFz_ap, fV_run s h]
  show Ans _ ((Res.of (takeO (.i n) S)).bind _) _
  rw [takeO_i, e, show od = _ from p]
  exact ⟨_, rfl, s.setS h ⟨_, rfl, rfl⟩, _, rfl, rfl⟩
theorem fz_val [En α] {v : β → α} {Γ : Cn} {f : FE} {r : Res β} {Γ' : β → Cn} (h : IE Γ f r (fun b => rd (v b)) Γ') : IE Γ (fFz f) r (fun b => fr (v b)) Γ' := fun S s => by
  rw [fFz_ap]
  exact (h S s).bindR fun b z ⟨h1, od, e, p⟩ => ⟨(.v (.f (en (v b))), z.2), by rw [e, frzO_v, Rd.fz p]; rfl, h1, _, rfl, rfl⟩
theorem fz_oo [En α] {v : β → List (List α)} {Γ : Cn} {f : FE} {r : Res β} {Γ' : β → Cn} (h : IE Γ f r (fun b => oo (v b)) Γ') : IE Γ (fFz f) r (fun b => fr (v b)) Γ' := fun S s => by
  rw [fFz_ap]
  refine (h S s).bindR fun b z ⟨h1, od, e, p⟩ => ⟨(.v (.f (en (v b))), z.2), ?_, h1, _, rfl, rfl⟩
  rw [e, frzO_v, show od = _ from p]
  have key : ∀ xss : List (List α), OD.ers (xss.map fun ys => .l ((ys.map en).map .f)) = some (xss.map fun ys => .list (ys.map en)) := fun xss => by
    induction xss with
    | nil => unfold OD.ers; rfl
    | cons x xss ih =>
      rw [List.map_cons]
      unfold OD.ers
      rw [ih, er_l]
      rfl
  show ((Res.of (((OD.ers ((v b).map fun ys => .l ((ys.map en).map .f))).map fun ds => OD.f (.list ds)).map fun od' => (od', z.2))).bind _) = _
  rw [key]
  rfl
theorem fz_ooV [En α] (a : List (List α)) {Γ : Cn} {n : Nat} (h : Γ[n]? = some (dv (oo a))) : IE Γ (fFz (fV n)) (.ok a) fr (fun _ => Γ.set n (dv (rd a))) := fun S s => by
  obtain ⟨od, e, p⟩ := s.get h
  have key : ∀ xss : List (List α), OD.ers (xss.map fun ys => .l ((ys.map en).map .f)) = some (xss.map fun ys => .list (ys.map en)) := fun xss => by
    induction xss with
    | nil => unfold OD.ers; rfl
    | cons x xss ih =>
      rw [List.map_cons]
      unfold OD.ers
      rw [ih, er_l]
      rfl
  rw [fFz_ap, fV_run s h]
  show Ans _ ((Res.of (takeO (.i n) S)).bind _) _
  rw [takeO_i, e, show od = _ from p]
  show Ans _ ((Res.of (((OD.ers (a.map fun ys => .l ((ys.map en).map .f))).map fun ds => OD.f (.list ds)).map fun od' => (od', S.set n (some od')))).bind _) _
  rw [key]
  exact ⟨_, rfl, s.set n ⟨_, rfl, .inl rfl⟩, _, rfl, rfl⟩
/-! ### tests -/
def IT (Γ : Cn) (t : Sg → Res (Bool × Sg)) (r : Res β) (c : β → Bool) (Γ' : β → Cn) : Prop := ∀ S, Sat S Γ → Ans r (t S) fun b z => z.1 = c b ∧ Sat z.2 (Γ' b)
abbrev GT' (Γ : Cn) (t : Sg → Res (Bool × Sg)) (r : Res Bool) : Prop := IT Γ t r id fun _ => Γ
section
variable {Γ : Cn} {f g : FE} {t t' : Sg → Res (Bool × Sg)} {r r' : Res Bool}
theorem gt_val (h : GE Γ f r rd) : GT' Γ (fB f) r := fun S s => by
  rw [fB_ap]
  refine (h S s).bindR fun b z ⟨s1, q⟩ => ?_
  obtain ⟨od, e, p⟩ := q z.2 s1
  refine ⟨(b, z.2), ?_, rfl, s1⟩
  rw [dat_of e p]
  rfl
theorem it_val {v : β → Bool} {r : Res β} {Γ' : β → Cn} (h : IE Γ f r (fun b => rd (v b)) Γ') : IT Γ (fB f) r v Γ' := fun S s => by
  rw [fB_ap]
  refine (h S s).bindR fun b z ⟨s1, od, e, p⟩ => ?_
  refine ⟨(v b, z.2), ?_, rfl, s1⟩
  rw [dat_of (od := od) (by rw [e]; rfl) p]
  rfl
theorem gt_and (h : GT' Γ t r) (h' : GT' Γ t' r') : GT' Γ (fAndT t t') (r.bind fun a => if a = true then r' else .ok false) := fun S s => by
  refine (h S s).bind fun b z ⟨e, s1⟩ => ?_
  rw [e]
  cases b with
  | true => exact h' z.2 s1
  | false => exact ⟨_, rfl, rfl, s1⟩
theorem gt_or (h : GT' Γ t r) (h' : GT' Γ t' r') : GT' Γ (fOrT t t') (r.bind fun a => if a = true then .ok true else r') := fun S s => by
  refine (h S s).bind fun b z ⟨e, s1⟩ => ?_
  rw [e]
  cases b with
  | true => exact ⟨_, rfl, rfl, s1⟩
  | false => exact h' z.2 s1
theorem gt_not (h : GT' Γ t r) : GT' Γ (fNotT t) (r.bind fun a => .ok (!a)) := fun S s => (h S s).bind fun b z ⟨e, s1⟩ => ⟨_, rfl, by rw [e]; rfl, s1⟩
theorem gt_andO {a b : Bool} (h : GT' Γ t (.ok a)) (h' : GT' Γ t' (.ok b)) : GT' Γ (fAndT t t') (.ok (a && b)) := by
  have := gt_and h h'
  cases a <;> exact this
theorem gt_orO {a b : Bool} (h : GT' Γ t (.ok a)) (h' : GT' Γ t' (.ok b)) : GT' Γ (fOrT t t') (.ok (a || b)) := by
  have := gt_or h h'
  cases a <;> exact this
theorem gt_yes : GT' Γ fYes (.ok true) := fun S s => ⟨_, rfl, rfl, s⟩
theorem gv_and (h : GT' Γ (fB f) r) (h' : GV Γ g r' rd) : GV Γ (fAnd f g) (r.bind fun a => if a = true then r' else .ok false) rd := fun S s => by
  refine (h S s).bind fun b z ⟨e, s1⟩ => ?_
  rw [e]
  cases b with
  | true => exact h' z.2 s1
  | false => exact ⟨_, rfl, s1, _, rfl, .inl rfl⟩
theorem gv_or (h : GT' Γ (fB f) r) (h' : GV Γ g r' rd) : GV Γ (fOr f g) (r.bind fun a => if a = true then .ok true else r') rd := fun S s => by
  refine (h S s).bind fun b z ⟨e, s1⟩ => ?_
  rw [e]
  cases b with
  | true => exact ⟨_, rfl, s1, _, rfl, .inl rfl⟩
  | false => exact h' z.2 s1
theorem gv_andO {a b : Bool} (h : GT' Γ (fB f) (.ok a)) (h' : GV Γ g (.ok b) rd) : GV Γ (fAnd f g) (.ok (a && b)) rd := by
  have := gv_and h h'
  cases a <;> exact this
theorem gv_orO {a b : Bool} (h : GT' Γ (fB f) (.ok a)) (h' : GV Γ g (.ok b) rd) : GV Γ (fOr f g) (.ok (a || b)) rd := by
  have := gv_or h h'
  cases a <;> exact this
theorem gv_not (h : GT' Γ (fB f) r) : GV Γ (fNot f) (r.bind fun a => .ok (!a)) rd := fun S s => by
  rw [fNot_ap]
  exact (h S s).bind fun b z ⟨e, s1⟩ => ⟨_, rfl, s1, _, rfl, by rw [e]; exact .inl rfl⟩
theorem ge_if {P : α → Pd} {a b : Res α} (h : GT' Γ t r) (h1 : GE Γ f a P) (h2 : GE Γ g b P) : GE Γ (fIf t f g) (r.bind fun c => if c = true then a else b) P := fun S s => by
  refine (h S s).bind fun c z ⟨e, s1⟩ => ?_
  rw [e]
  cases c with
  | true => exact h1 z.2 s1
  | false => exact h2 z.2 s1
theorem gv_if {P : α → Pd} {a b : Res α} (h : GT' Γ t r) (h1 : GV Γ f a P) (h2 : GV Γ g b P) : GV Γ (fIf t f g) (r.bind fun c => if c = true then a else b) P := fun S s => by
  refine (h S s).bind fun c z ⟨e, s1⟩ => ?_
  rw [e]
  cases c with
  | true => exact h1 z.2 s1
  | false => exact h2 z.2 s1
theorem tk_if {P : α → Pd} {a b : Res α} (h : GT' Γ t r) (h1 : GV Γ (fTk f) a P) (h2 : GV Γ (fTk g) b P) : GV Γ (fTk (fIf t f g)) (r.bind fun c => if c = true then a else b) P := fun S s => by
  have key : fTk (fIf t f g) S = (t S).bind fun c => if c.1 = true then fTk f c.2 else fTk g c.2 := by
    rw [fTk_ap]
    show ((t S).bind _).bind _ = _
    rw [Res.bind_assoc]
    congr 1
    funext c
    split <;> rfl
  rw [key]
  refine (h S s).bind fun c z ⟨e, s1⟩ => ?_
  rw [e]
  cases c with
  | true => exact h1 z.2 s1
  | false => exact h2 z.2 s1
theorem fz_if {P : α → Pd} {a b : Res α} (h : GT' Γ t r) (h1 : GV Γ (fFz f) a P) (h2 : GV Γ (fFz g) b P) : GV Γ (fFz (fIf t f g)) (r.bind fun c => if c = true then a else b) P := fun S s => by
  have key : fFz (fIf t f g) S = (t S).bind fun c => if c.1 = true then fFz f c.2 else fFz g c.2 := by
    rw [fFz_ap]
    show ((t S).bind _).bind _ = _
    rw [Res.bind_assoc]
    congr 1
    funext c
    split <;> rfl
  rw [key]
  refine (h S s).bind fun c z ⟨e, s1⟩ => ?_
  rw [e]
  cases c with
  | true => exact h1 z.2 s1
  | false => exact h2 z.2 s1
theorem lk_if {P : α → Pd} {a b : Res α} (h : GT' Γ t r) (h1 : GV Γ (fFz (fLk f)) a P) (h2 : GV Γ (fFz (fLk g)) b P) : GV Γ (fFz (fLk (fIf t f g))) (r.bind fun c => if c = true then a else b) P := fun S s => by
  have key : fFz (fLk (fIf t f g)) S = (t S).bind fun c => if c.1 = true then fFz (fLk f) c.2 else fFz (fLk g) c.2 := by
    rw [fFz_ap]
    show (((t S).bind _).bind _).bind _ = _
    rw [Res.bind_assoc, Res.bind_assoc]
    congr 1
    funext c
    split <;> rw [fFz_ap, fLk_ap, Res.bind_assoc] <;> rfl
  rw [key]
  refine (h S s).bind fun c z ⟨e, s1⟩ => ?_
  rw [e]
  cases c with
  | true => exact h1 z.2 s1
  | false => exact h2 z.2 s1
end
theorem lk_rd [En α] (a : α) {Γ : Cn} {n : Nat} (h : Γ[n]? = some (dv (rd a))) : GV Γ (fFz (fLk (fV n))) (.ok a) fr := fun S s => by
  obtain ⟨od, e, p⟩ := s.get h
  have k : fLk (fV n) S = Res.ok (Opd.i n, S) := by
    rw [fLk_ap, fV_run s h]
    show (match Opd.od S (.i n) with
      | some (.m t kvs) => _
      | some _ => Res.ok (Opd.i n, S)
      | none => .stuck) = _
    rw [od_i, e]
    rcases p with rfl | ⟨_, _, rfl⟩ <;> rfl
  have := fz_var a h S s
  rw [fFz_ap, fV_run s h] at this
  rw [fFz_ap, k]
  exact this
theorem lk_rs [En α] (a : List α) {Γ : Cn} {n : Nat} (h : Γ[n]? = some (dv (rs a))) : GV Γ (fFz (fLk (fV n))) (.ok a) rs := fun S s => by
  obtain ⟨od, e, p⟩ := s.get h
  have k : fLk (fV n) S = Res.ok (Opd.i n, S) := by
    rw [fLk_ap, fV_run s h]
    show (match Opd.od S (.i n) with
      | some (.m t kvs) => _
      | some _ => Res.ok (Opd.i n, S)
      | none => .stuck) = _
    rw [od_i, e, show od = _ from p]
    rfl
  have := fz_rs a h S s
  rw [fFz_ap, fV_run s h] at this
  rw [fFz_ap, k]
  exact this
theorem ers_eM [En κ] [En υ] (m : Dc κ υ) : OD.ers ((eM m).map Prod.snd) = some (m.map fun p => en p.2) := by
  have : (eM m).map Prod.snd = (m.map fun p => en p.2).map OD.f := by
    unfold eM
    rw [List.map_map, List.map_map]
    rfl
  rw [this, ers_f]
theorem zip_eM [En κ] [En υ] (m : Dc κ υ) : ((eM m).map Prod.fst).zip (m.map fun p => en p.2) = eG m := by
  have : (eM m).map Prod.fst = m.map fun p => en p.1 := by
    unfold eM
    rw [List.map_map]
    rfl
  rw [this, List.zip_map', eG]
theorem lock_run [En κ] [Ky κ] [En υ] {m : Dc κ υ} {Γ : Cn} {n : Nat} (h : Γ[n]? = some (dv (dr m))) {S : Sg} (s : Sat S Γ) : ∃ S', fLk (fV n) S = Res.ok (Opd.i n, S') ∧ Sat S' Γ ∧ S'[n]? = some (some (.g (Ky.t κ) (eG m))) := by
  obtain ⟨od, e, p⟩ := s.get h
  have hn : n < S.length := (List.getElem?_eq_some_iff.mp e).1
  rcases p with rfl | rfl
  · refine ⟨S.set n (some (.g (Ky.t κ) (eG m))), ?_, s.setS h ⟨_, rfl, .inr rfl⟩, by rw [set_get, if_pos rfl, if_pos hn]⟩
    rw [fLk_ap, fV_run s h]
    show (match Opd.od S (.i n) with
      | some (.m t kvs) => (Res.of (OD.ers (kvs.map Prod.snd))).bind fun ds => Res.ok (Opd.i n, S.set n (some (.g t ((kvs.map Prod.fst).zip ds))))
      | some _ => Res.ok (Opd.i n, S)
      | none => .stuck) = _
    rw [od_i, e]
    show (Res.of (OD.ers ((eM m).map Prod.snd))).bind _ = _
    rw [ers_eM]
    show Res.ok (Opd.i n, S.set n (some (.g (Ky.t κ) (((eM m).map Prod.fst).zip (m.map fun p => en p.2))))) = _
    rw [zip_eM]
  · refine ⟨S, ?_, s, e⟩
    rw [fLk_ap, fV_run s h]
    show (match Opd.od S (.i n) with
      | some (.m t kvs) => (Res.of (OD.ers (kvs.map Prod.snd))).bind fun ds => Res.ok (Opd.i n, S.set n (some (.g t ((kvs.map Prod.fst).zip ds))))
      | some _ => Res.ok (Opd.i n, S)
      | none => .stuck) = _
    rw [od_i, e]
    rfl
theorem lk_dr [En κ] [Ky κ] [En υ] (m : Dc κ υ) {Γ : Cn} {n : Nat} (h : Γ[n]? = some (dv (dr m))) : GV Γ (fFz (fLk (fV n))) (.ok m) dz := fun S s => by
  obtain ⟨S', e, s', e2⟩ := lock_run h s
  rw [fFz_ap, e]
  show Ans _ ((Res.of (takeO (.i n) S')).bind _) _
  rw [takeO_i, e2]
  exact ⟨_, rfl, s'.setS h ⟨_, rfl, .inr rfl⟩, _, rfl, rfl⟩
theorem lk_dw [En κ] [Ky κ] [En υ] {Γ : Cn} {f : FE} {r : Res (Dc κ υ)} (h : GV Γ f r dw) : GV Γ (fFz (fLk f)) r dz := fun S s => by
  rw [fFz_ap, fLk_ap, Res.bind_assoc]
  refine (h S s).bindR fun m z ⟨s1, od, e, p⟩ => ?_
  refine ⟨(.v (.g (Ky.t κ) (eG m)), z.2), ?_, s1, _, rfl, rfl⟩
  rw [e, show od = _ from p]
  show (((Res.of (OD.ers ((eM m).map Prod.snd))).bind _).bind _) = _
  rw [ers_eM]
  show (.ok (.v (.g (Ky.t κ) (((eM m).map Prod.fst).zip (m.map fun p => en p.2))), z.2) : Res ES) = _
  rw [zip_eM]
theorem lk_val [En α] {v : β → α} {Γ : Cn} {f : FE} {r : Res β} {Γ' : β → Cn} (h : IE Γ f r (fun b => rd (v b)) Γ') : IE Γ (fFz (fLk f)) r (fun b => fr (v b)) Γ' := fun S s => by
  rw [fFz_ap, fLk_ap, Res.bind_assoc]
  refine (h S s).bindR fun b z ⟨h1, od, e, p⟩ => ⟨(.v (.f (en (v b))), z.2), ?_, h1, _, rfl, rfl⟩
  rw [e]
  have := Rd.fz p
  rcases p with rfl | ⟨ds, _, rfl⟩
  · rfl
  · show ((Res.of ((OD.fz (.l (ds.map OD.f))).map fun od' => (od', z.2))).bind fun b => (.ok (.v b.1, b.2) : Res ES)) = _
    rw [this]; rfl
/-! ### calls -/
def AllP : List Pd → List OD → Prop
  | [], [] => True
  | P :: Ps, od :: ods => P od ∧ AllP Ps ods
  | _, _ => False
def TF (m : List OD → Res OD) (t : τ → Res ρ) (Ps : τ → List Pd) (R : ρ → Pd) : Prop := ∀ a ods, AllP (Ps a) ods → Ans (t a) (m ods) fun r od => R r od
def TFD (m : OD → List OD → Res (OD × OD)) (t : List Int → τ → Res (ρ × List Int)) (Ps : τ → List Pd) (R : ρ → Pd) : Prop := ∀ d a od0 ods, ow d od0 → AllP (Ps a) ods → Ans (t d a) (m od0 ods) fun r o => R r.1 o.1 ∧ ow r.2 o.2
def GA (Γ : Cn) (g : Sg → Res (List Opd × Sg)) (r : Res τ) (Ps : τ → List Pd) : Prop := ∀ S, Sat S Γ → Ans r (g S) fun a z => Sat z.2 Γ ∧ ∃ ods, valsO z.1 = some ods ∧ ods.all frOD = true ∧ AllP (Ps a) ods
theorem ga_nil {Γ : Cn} : GA Γ fNil (.ok ()) (fun _ => []) := fun S s => ⟨_, rfl, s, [], rfl, rfl, trivial⟩
theorem ga_cons {Γ : Cn} {f : FE} {g : Sg → Res (List Opd × Sg)} {r : Res α} {r' : Res τ} {P P' : α → Pd} {Ps : τ → List Pd} (w : ∀ a od, P a od → P' a od) (w2 : ∀ a od, P a od → frOD od = true) (h : GV Γ f r P) (h' : GA Γ g r' Ps) : GA Γ (fCons f g) (r.bind fun a => r'.bind fun b => .ok (a, b)) (fun p => P' p.1 :: Ps p.2) := fun S s => (h S s).bind fun a z ⟨s1, od, e, p⟩ => by
  refine (h' z.2 s1).bind fun b y ⟨s2, ods, e1, e2, p2⟩ => ⟨_, rfl, s2, od :: ods, ?_, ?_, w _ _ p, p2⟩
  · dsimp only
    rw [e, valsO_v, e1]
    rfl
  · rw [List.all_cons, w2 _ _ p, e2]
    rfl
theorem ga_fr [En α] {Γ : Cn} {f : FE} {g : Sg → Res (List Opd × Sg)} {r : Res α} {r' : Res τ} {Ps : τ → List Pd} (h : GV Γ f r fr) (h' : GA Γ g r' Ps) : GA Γ (fCons f g) (r.bind fun a => r'.bind fun b => .ok (a, b)) (fun p => rd p.1 :: Ps p.2) := ga_cons (fun a od => fr_rd a od) (fun a od => fro_fr a od) h h'
theorem ga_dz [En κ] [Ky κ] [En υ] {Γ : Cn} {f : FE} {g : Sg → Res (List Opd × Sg)} {r : Res (Dc κ υ)} {r' : Res τ} {Ps : τ → List Pd} (h : GV Γ f r dz) (h' : GA Γ g r' Ps) : GA Γ (fCons f g) (r.bind fun a => r'.bind fun b => .ok (a, b)) (fun p => dr p.1 :: Ps p.2) := ga_cons (fun a od => dz_dr a od) (fun a od => fro_dz a od) h h'
theorem ga_rs [En α] {Γ : Cn} {f : FE} {g : Sg → Res (List Opd × Sg)} {r : Res (List α)} {r' : Res τ} {Ps : τ → List Pd} (h : GV Γ f r rs) (h' : GA Γ g r' Ps) : GA Γ (fCons f g) (r.bind fun a => r'.bind fun b => .ok (a, b)) (fun p => rs p.1 :: Ps p.2) := ga_cons (fun a od h => h) (fun a od => fro_rs a od) h h'
theorem gv_call {Γ : Cn} {g : Sg → Res (List Opd × Sg)} {m : List OD → Res OD} {t : τ → Res ρ} {Ps : τ → List Pd} {R : ρ → Pd} {r : Res τ} (F : TF m t Ps R) (h : GA Γ g r Ps) : GV Γ (fCall m g) (r.bind t) R := fun S s => by
  rw [fCall_ap]
  refine (h S s).bind fun a z ⟨s1, ods, e1, e2, p⟩ => ?_
  rw [e1]
  show Ans _ ((Res.of (frzAll ods)).bind _) _
  rw [frzAll_ap, if_pos e2]
  exact (F a ods p).bindR fun r od q => ⟨_, rfl, s1, od, rfl, q⟩
theorem ie_callD {Γ : Cn} {n : Nat} {d : List Int} {g : Sg → Res (List Opd × Sg)} {m : OD → List OD → Res (OD × OD)} {t : List Int → τ → Res (ρ × List Int)} {Ps : τ → List Pd} {R : ρ → Pd} {r : Res τ} (F : TFD m t Ps R) (hd : Γ[n]? = some (dv (ow d))) (h : GA Γ g r Ps) : IE Γ (fCallD m (fCons (fV n) g)) (r.bind fun a => t d a) (fun p => R p.1) (fun p => Γ.set n (dv (ow p.2))) := fun S s => by
  rw [fCallD_ap, fCons_ap, fV_run s hd]
  show Ans _ (((g S).bind fun b => .ok (Opd.i n :: b.1, b.2)).bind _) _
  rw [Res.bind_assoc]
  refine (h S s).bind fun a z ⟨s1, ods, e1, e2, p⟩ => ?_
  show Ans _ ((Res.of ((valsO z.1).bind frzAll)).bind fun ods => (Res.of (Opd.od z.2 (.i n))).bind fun od0 => (m od0 ods).bind fun r => (.ok (.v r.1, z.2.set n (some r.2)) : Res ES)) _
  rw [e1]
  show Ans _ ((Res.of (frzAll ods)).bind _) _
  rw [frzAll_ap, if_pos e2]
  obtain ⟨od, e3, p3⟩ := s1.get hd
  show Ans _ ((Res.of (Opd.od z.2 (.i n))).bind _) _
  rw [od_i, e3]
  exact (F d a od ods p3 p).bindR fun r o q => ⟨_, rfl, s1.set n ⟨_, rfl, q.2⟩, _, rfl, q.1⟩
/-! ### lists that change -/
def popI (xs : List α) (i : Int) : Res (α × List α) := (Res.of (ixN xs.length i)).bind fun j => (Res.of xs[j]?).bind fun x => (guardR (decide (xs.length < 1000000))).bind fun _ => .ok (x, xs.eraseIdx j)
def appL (xs : List α) (x : α) : Res (List α) := (guardR (decide (xs.length < 1000000))).bind fun _ => .ok (xs ++ [x])
theorem erase_map (f : α → β) : ∀ (xs : List α) (j : Nat), (xs.map f).eraseIdx j = (xs.eraseIdx j).map f
  | [], _ => rfl
  | _ :: _, 0 => rfl
  | x :: xs, j + 1 => congrArg (f x :: ·) (erase_map f xs j)
theorem ow_isL [En α] {xs : List α} {od : OD} (h : ow xs od) : isL od = true := by rw [show od = _ from h]; rfl
theorem meth_run {Γ : Cn} {n : Nat} {P : Pd} (hx : Γ[n]? = some (dv P)) (hl : ∀ od, P od → isL od = true) {S : Sg} (s : Sat S Γ) (ga : Sg → Res (List Opd × Sg)) (k : Opd → List Opd → Sg → Res ES) : fMeth isL (fV n) ga k S = (ga S).bind fun b => k (.i n) b.1 b.2 := by
  obtain ⟨od, e, p⟩ := s.get hx
  rw [fMeth_ap, fV_run s hx, cMeth1_ok, od_i, e]
  show cMeth2 isL (.i n) S ga k (some od) = _
  rw [cMeth2_ok, if_pos (hl od p)]
  rfl
theorem ie_pop [En α] {v : β → Int} {Γ : Cn} {n : Nat} {xs : List α} {f : FE} {r : Res β} {Γ1 : β → Cn} (hx : Γ[n]? = some (dv (ow xs))) (h : IE Γ f r (fun b => rd (v b)) Γ1) (h1 : ∀ b, (Γ1 b)[n]? = some (dv (ow xs))) : IE Γ (fMeth isL (fV n) (fCons f fNil) popK) (r.bind fun b => (popI xs (v b)).bind fun p => .ok (p, b)) (fun p => rd p.1.1) (fun p => (Γ1 p.2).set n (dv (ow p.1.2))) := fun S s => by
  rw [meth_run hx (fun _ => ow_isL) s, fCons_ap]
  show Ans _ (((f S).bind fun a => .ok ([a.1], a.2)).bind fun b => popK (.i n) b.1 b.2) _
  rw [Res.bind_assoc]
  refine (h S s).bind fun b z ⟨s1, od, e, p⟩ => ?_
  obtain ⟨od2, e2, p2⟩ := s1.get (h1 b)
  show Ans _ (popK (.i n) [z.1] z.2) _
  have key : popK (.i n) [z.1] z.2 = (Res.of (frsO ((xs.map en).map .f))).bind fun ds => (Res.of (ixN ds.length (v b))).bind fun j => (Res.of ds[j]?).bind fun d => (guardR (decide (ds.length < 1000000))).bind fun _ => .ok (.v (.f d), z.2.set n (some (.l ((ds.eraseIdx j).map .f)))) := by
    unfold popK onList
    dsimp only
    rw [e2, show od2 = _ from p2]
    dsimp only
    rw [dat_of (od := od) (by rw [e]; rfl) p]
    rfl
  rw [key, frs_f]
  show Ans _ ((Res.of (ixN (xs.map en).length (v b))).bind _) _
  rw [List.length_map]
  unfold popI
  cases hj : ixN xs.length (v b) with
  | none => trivial
  | some j =>
    show Ans (((Res.of xs[j]?).bind _).bind _) ((Res.of (xs.map en)[j]?).bind _) _
    rw [List.getElem?_map]
    cases hc : xs[j]? with
    | none => trivial
    | some c =>
      show Ans (((guardR (decide (xs.length < 1000000))).bind _).bind _) ((guardR (decide (xs.length < 1000000))).bind _) _
      cases decide (xs.length < 1000000) with
      | false => trivial
      | true =>
        refine ⟨_, rfl, s1.set n ⟨_, rfl, ?_⟩, _, rfl, .inl rfl⟩
        rw [erase_map]
        rfl
theorem ie_append [En α] {v : β → α} {Γ : Cn} {n : Nat} {xs : List α} {f : FE} {r : Res β} {Γ1 : β → Cn} (hx : Γ[n]? = some (dv (ow xs))) (h : IE Γ (fTk f) r (fun b => fr (v b)) Γ1) (h1 : ∀ b, (Γ1 b)[n]? = some (dv (ow xs))) : IE Γ (fMeth isL (fV n) (fCons (fTk f) fNil) appendK) (r.bind fun b => (appL xs (v b)).bind fun p => .ok (p, b)) (fun _ => rd ()) (fun p => (Γ1 p.2).set n (dv (ow p.1))) := fun S s => by
  rw [meth_run hx (fun _ => ow_isL) s, fCons_ap]
  show Ans _ (((fTk f S).bind fun a => .ok ([a.1], a.2)).bind fun b => appendK (.i n) b.1 b.2) _
  rw [Res.bind_assoc]
  refine (h S s).bind fun b z ⟨s1, od, e, p⟩ => ?_
  obtain ⟨od2, e2, p2⟩ := s1.get (h1 b)
  show Ans _ (appendK (.i n) [z.1] z.2) _
  rw [e]
  have key : appendK (.i n) [.v od] z.2 = (guardR (decide (((xs.map en).map OD.f).length < 1000000))).bind fun _ => .ok (.v (.f .none), z.2.set n (some (.l ((xs.map en).map .f ++ [od])))) := by
    unfold appendK onList
    dsimp only
    rw [e2, show od2 = _ from p2]
  rw [key, List.length_map, List.length_map]
  unfold appL
  cases decide (xs.length < 1000000) with
  | false => trivial
  | true =>
    refine ⟨_, rfl, s1.set n ⟨_, rfl, ?_⟩, _, rfl, .inl rfl⟩
    show OD.l ((xs.map en).map .f ++ [od]) = OD.l (((xs ++ [v b]).map en).map .f)
    rw [show od = _ from p, List.map_append, List.map_append]
    rfl
/-- an append, said plainly -/
theorem ie_app [En α] {Γ : Cn} {n : Nat} {xs : List α} {f : FE} {r : Res α} (hx : Γ[n]? = some (dv (ow xs))) (h : GV Γ (fTk f) r fr) : IE Γ (fMeth isL (fV n) (fCons (fTk f) fNil) appendK) (r.bind fun b => appL xs b) (fun _ => rd ()) (fun p => Γ.set n (dv (ow p))) := fun S s => by
  have := ie_append (v := id) hx h (fun _ => hx) S s
  cases r with
  | ok a =>
    show Ans (appL xs a) _ _
    cases q : appL xs a with
    | ok ys =>
      have e : ((Res.ok a).bind fun b => (appL xs (id b)).bind fun p => (.ok (p, b) : Res (List α × α))) = .ok (ys, a) := by
        show (appL xs a).bind _ = _
        rw [q]; rfl
      rw [e] at this
      exact this
    | exc x => unfold appL guardR at q; split at q <;> cases q
    | stuck => trivial
  | exc x => exact this
  | stuck => trivial
theorem ie_extend [En α] {Γ : Cn} {n : Nat} {xs : List α} {f : FE} {r : Res (List α)} (hx : Γ[n]? = some (dv (ow xs))) (h : GE Γ f r rd) : IE Γ (fMeth isL (fV n) (fCons f fNil) extendK) (r.bind fun b => addL xs b) (fun _ => rd ()) (fun p => Γ.set n (dv (ow p))) := fun S s => by
  rw [meth_run hx (fun _ => ow_isL) s, fCons_ap]
  show Ans _ (((f S).bind fun a => .ok ([a.1], a.2)).bind fun b => extendK (.i n) b.1 b.2) _
  rw [Res.bind_assoc]
  refine (h S s).bind fun b z ⟨s1, q⟩ => ?_
  obtain ⟨od2, e2, p2⟩ := s1.get hx
  obtain ⟨od, e, p⟩ := q z.2 s1
  show Ans _ (extendK (.i n) [z.1] z.2) _
  have key : extendK (.i n) [z.1] z.2 = (Res.of od.kid).bind fun ds => (guardR (decide (((xs.map en).map OD.f).length + ds.length < 1000000))).bind fun _ => .ok (.v (.f .none), z.2.set n (some (.l ((xs.map en).map .f ++ ds.map .f)))) := by
    unfold extendK onList
    dsimp only
    rw [e2, show od2 = _ from p2]
    dsimp only
    rw [e]
    rfl
  rw [key, Rd.kid p]
  show Ans _ ((guardR (decide (((xs.map en).map OD.f).length + (b.map en).length < 1000000))).bind _) _
  rw [List.length_map, List.length_map, List.length_map]
  unfold addL
  cases decide (xs.length + b.length < 1000000) with
  | false => trivial
  | true =>
    refine ⟨_, rfl, s1.set n ⟨_, rfl, ?_⟩, _, rfl, .inl rfl⟩
    show OD.l ((xs.map en).map .f ++ (b.map en).map .f) = OD.l (((xs ++ b).map en).map .f)
    rw [List.map_append, List.map_append]
end
end DL
set_option Elab.async false
set_option linter.all false
set_option maxRecDepth 100000
set_option maxHeartbeats 4000000
namespace DL
open PySem PySem.Spec PyProof.Rows L2
open En (en)
section
variable {α β γ δ ε ρ σ τ : Type} {Γ : Cn}
def ro [En α] (xs : List (List α)) : Pd := fun od => oo xs od ∨ fr xs od
theorem oo_ro [En α] (xs : List (List α)) (od : OD) (h : oo xs od) : ro xs od := .inl h
theorem fz_ro [En α] (a : List (List α)) {n : Nat} (h : Γ[n]? = some (dv (ro a))) : GV Γ (fFz (fV n)) (.ok a) fr := fun S s => by
  obtain ⟨od, e, p⟩ := s.get h
  have key : ∀ xss : List (List α), OD.ers (xss.map fun ys => .l ((ys.map en).map .f)) = some (xss.map fun ys => .list (ys.map en)) := fun xss => by
    induction xss with
    | nil => unfold OD.ers; rfl
    | cons x xss ih =>
      rw [List.map_cons]
      unfold OD.ers
      rw [ih, er_l]
      rfl
  have e2 : od.fz = some (.f (en a)) := by
    rcases p with p | p
    · rw [show od = _ from p]
      show (OD.ers (a.map fun ys => .l ((ys.map en).map .f))).map (fun ds => OD.f (.list ds)) = _
      rw [key]
      rfl
    · rw [show od = _ from p]; rfl
  rw [fFz_ap, fV_run s h]
  show Ans _ ((Res.of (takeO (.i n) S)).bind _) _
  rw [takeO_i, e]
  show Ans _ ((Res.of (od.fz.map fun od' => (od', S.set n (some od')))).bind _) _
  rw [e2]
  exact ⟨_, rfl, s.setS h ⟨_, rfl, .inr rfl⟩, _, rfl, rfl⟩
theorem Le.refl : ∀ Γ : Cn, Le Γ Γ
  | [] => .nil
  | _ :: Γ => .same (Le.refl Γ)
/-! ### more expressions -/
theorem gv_tup2 [En α] [En β] {f g : FE} {r : Res α} {r' : Res β} (h : GV Γ (fFz f) r fr) (h' : GV Γ (fFz g) r' fr) : GV Γ (fTup (fCons (fFz f) (fCons (fFz g) fNil))) (r.bind fun a => r'.bind fun b => .ok (a, b)) rd := fun S s => by
  rw [fTup_ap, fCons_ap]
  show Ans _ (((fFz f S).bind fun a => (fCons (fFz g) fNil a.2).bind fun b => .ok (a.1 :: b.1, b.2)).bind _) _
  rw [Res.bind_assoc]
  refine (h S s).bind fun a z ⟨s1, od, e, p⟩ => ?_
  show Ans _ ((((fFz g z.2).bind fun a => .ok ([a.1], a.2)).bind _).bind _) _
  rw [Res.bind_assoc, Res.bind_assoc]
  refine (h' z.2 s1).bind fun b y ⟨s2, od', e', p'⟩ => ?_
  show Ans _ ((Res.of ((valsO [z.1, y.1]).bind frsO)).bind _) _
  rw [e, e', show od = _ from p, show od' = _ from p']
  exact ⟨_, rfl, s2, _, rfl, .inl rfl⟩
/-- a pair of which the second draws -/
theorem ie_tup2 [En α] [En β] {v : δ → β} {f g : FE} {r : Res α} {r' : Res δ} {Γ' : δ → Cn} (h : GV Γ (fFz f) r fr) (h' : IE Γ (fFz g) r' (fun b => fr (v b)) Γ') : IE Γ (fTup (fCons (fFz f) (fCons (fFz g) fNil))) (r.bind fun a => r'.bind fun b => .ok ((a, v b), b)) (fun p => rd p.1) (fun p => Γ' p.2) := fun S s => by
  rw [fTup_ap, fCons_ap]
  show Ans _ (((fFz f S).bind fun a => (fCons (fFz g) fNil a.2).bind fun b => .ok (a.1 :: b.1, b.2)).bind _) _
  rw [Res.bind_assoc]
  refine (h S s).bind fun a z ⟨s1, od, e, p⟩ => ?_
  show Ans _ ((((fFz g z.2).bind fun a => .ok ([a.1], a.2)).bind _).bind _) _
  rw [Res.bind_assoc, Res.bind_assoc]
  refine (h' z.2 s1).bind fun b y ⟨s2, od', e', p'⟩ => ?_
  show Ans _ ((Res.of ((valsO [z.1, y.1]).bind frsO)).bind _) _
  rw [e, e', show od = _ from p, show od' = _ from p']
  exact ⟨_, rfl, s2, _, rfl, .inl rfl⟩
theorem gv_tup3 [En α] [En β] [En γ] {f g k : FE} {r : Res α} {r' : Res β} {r2 : Res γ} (h : GV Γ (fFz f) r fr) (h' : GV Γ (fFz g) r' fr) (h2 : GV Γ (fFz k) r2 fr) : GV Γ (fTup (fCons (fFz f) (fCons (fFz g) (fCons (fFz k) fNil)))) (r.bind fun a => r'.bind fun b => r2.bind fun c => .ok (T3.mk a b c)) rd := fun S s => by
  rw [fTup_ap, fCons_ap]
  show Ans _ (((fFz f S).bind fun a => (fCons (fFz g) (fCons (fFz k) fNil) a.2).bind fun b => .ok (a.1 :: b.1, b.2)).bind _) _
  rw [Res.bind_assoc]
  refine (h S s).bind fun a z ⟨s1, od, e, p⟩ => ?_
  show Ans _ ((((fFz g z.2).bind fun a => (fCons (fFz k) fNil a.2).bind fun b => .ok (a.1 :: b.1, b.2)).bind _).bind _) _
  rw [Res.bind_assoc, Res.bind_assoc]
  refine (h' z.2 s1).bind fun b y ⟨s2, od', e', p'⟩ => ?_
  show Ans _ ((((fFz k y.2).bind fun a => .ok ([a.1], a.2)).bind _).bind _) _
  rw [Res.bind_assoc, Res.bind_assoc]
  refine (h2 y.2 s2).bind fun c x ⟨s3, od2, e2, p2⟩ => ?_
  show Ans _ ((Res.of ((valsO [z.1, y.1, x.1]).bind frsO)).bind _) _
  rw [e, e', e2, show od = _ from p, show od' = _ from p', show od2 = _ from p2]
  exact ⟨_, rfl, s3, _, rfl, .inl rfl⟩
theorem gv_nil (α : Type) [En α] : GV Γ (fLst fNil) (.ok ([] : List α)) ow := fun S s => ⟨_, rfl, s, _, rfl, rfl⟩
theorem gv_nilO (α : Type) [En α] : GV Γ (fLst fNil) (.ok ([] : List (List α))) oo := fun S s => ⟨_, rfl, s, _, rfl, rfl⟩
theorem gv_lst1 [En α] {f : FE} {r : Res α} (h : GV Γ (fTk f) r fr) : GV Γ (fLst (fCons (fTk f) fNil)) (r.bind fun a => .ok [a]) ow := fun S s => by
  rw [fLst_ap, fCons_ap]
  show Ans _ (((fTk f S).bind fun a => .ok ([a.1], a.2)).bind _) _
  rw [Res.bind_assoc]
  refine (h S s).bind fun a z ⟨s1, od, e, p⟩ => ?_
  show Ans _ ((Res.of (valsO [z.1])).bind _) _
  rw [e, show od = _ from p]
  exact ⟨_, rfl, s1, _, rfl, rfl⟩
theorem gv_lst1O [En α] {f : FE} {r : Res (List α)} (h : GV Γ (fTk f) r ow) : GV Γ (fLst (fCons (fTk f) fNil)) (r.bind fun a => .ok [a]) oo := fun S s => by
  rw [fLst_ap, fCons_ap]
  show Ans _ (((fTk f S).bind fun a => .ok ([a.1], a.2)).bind _) _
  rw [Res.bind_assoc]
  refine (h S s).bind fun a z ⟨s1, od, e, p⟩ => ?_
  show Ans _ ((Res.of (valsO [z.1])).bind _) _
  rw [e, show od = _ from p]
  exact ⟨_, rfl, s1, _, rfl, rfl⟩
theorem gv_dict0 (κ υ : Type) [En κ] [Ky κ] [En υ] {t : Bool} (h : Ky.t κ = t) : GV Γ (fDict0 t) (.ok ([] : Dc κ υ)) dw := fun S s => ⟨_, rfl, s, _, rfl, by rw [← h]; rfl⟩
theorem gv_dict1 [En υ] {fk fv : FE} {r : Res Int} {r' : Res υ} (h : GV Γ (fTk fk) r fr) (h' : GV Γ (fTk fv) r' fr) : GV Γ (fDict1 fk fv) (r.bind fun a => r'.bind fun b => .ok ([(a, b)] : Dc Int υ)) dw := fun S s => by
  show Ans _ ((fTk fk S).bind _) _
  refine (h S s).bind fun a z ⟨s1, od, e, p⟩ => (h' z.2 s1).bind fun b y ⟨s2, od', e', p'⟩ => ?_
  rw [e, e', show od = _ from p, show od' = _ from p']
  exact ⟨_, rfl, s2, _, rfl, rfl⟩
theorem gv_neg {f : FE} {r : Res Int} (h : GE Γ f r rd) : GV Γ (fNeg f) (r.bind fun a => .ok (-a)) rd := fun S s => by
  rw [fNeg_ap]
  refine (h S s).bind fun a z ⟨s1, q⟩ => ?_
  obtain ⟨od, e, p⟩ := q z.2 s1
  rw [dat_of e p]
  exact ⟨_, rfl, s1, _, rfl, .inl rfl⟩
theorem gv_isa [En α] {k : PyData → Bool} {f : FE} {r : Res α} (h : GE Γ f r rd) : GV Γ (isaK k f) (r.bind fun a => .ok (k (en a))) rd := fun S s => by
  rw [isaK_ap]
  refine (h S s).bind fun a z ⟨s1, q⟩ => ?_
  obtain ⟨od, e, p⟩ := q z.2 s1
  rw [dat_of e p]
  exact ⟨_, rfl, s1, _, rfl, .inl rfl⟩
class NN (α : Type) [En α] : Prop where
  nn : ∀ a : α, en a ≠ .none
instance : NN Int := ⟨fun _ h => by cases h⟩
instance : NN Bool := ⟨fun _ h => by cases h⟩
instance : NN Str := ⟨fun _ h => by cases h⟩
instance [En α] : NN (List α) := ⟨fun _ h => by cases h⟩
instance [En α] : NN (Tp α) := ⟨fun _ h => by cases h⟩
instance [En α] [En β] : NN (α × β) := ⟨fun _ h => by cases h⟩
instance [En α] [En β] [En γ] : NN (T3 α β γ) := ⟨fun _ h => by cases h⟩
theorem rd_isNone [En α] [NN α] {o : Option α} {od : OD} (h : rd o od) : od.isNone = o.isNone := by
  cases o with
  | none =>
    rcases h with rfl | ⟨_, h, _⟩
    · rfl
    · cases h
  | some a =>
    have := NN.nn a
    rcases h with rfl | ⟨_, _, rfl⟩
    · show OD.isNone (.f (en a)) = false
      cases e : en a <;> first | rfl | exact absurd e this
    · rfl
theorem gv_isN [En α] [NN α] {f : FE} {r : Res (Option α)} (h : GE Γ f r rd) : GV Γ (fIsN false f) (r.bind fun a => .ok a.isNone) rd := fun S s => by
  rw [fIsN_ap]
  refine (h S s).bind fun a z ⟨s1, q⟩ => ?_
  obtain ⟨od, e, p⟩ := q z.2 s1
  rw [e]
  refine ⟨_, rfl, s1, _, rfl, ?_⟩
  rw [rd_isNone p]
  exact .inl rfl
theorem gv_notN [En α] [NN α] {f : FE} {r : Res (Option α)} (h : GE Γ f r rd) : GV Γ (fIsN true f) (r.bind fun a => .ok (!a.isNone)) rd := fun S s => by
  rw [fIsN_ap]
  refine (h S s).bind fun a z ⟨s1, q⟩ => ?_
  obtain ⟨od, e, p⟩ := q z.2 s1
  rw [e]
  refine ⟨_, rfl, s1, _, rfl, ?_⟩
  rw [rd_isNone p]
  exact .inl rfl
theorem gv_chain {p p' : P2} {op op' : Int → Int → Bool} (hp : ∀ i j, p (.int i) (.int j) = some (op i j)) (hp' : ∀ i j, p' (.int i) (.int j) = some (op' i j)) {fa fb fc : FE} {ra rb rc : Res Int} (h : GE Γ fa ra rd) (h1 : GE Γ fb rb rd) (h2 : GE Γ fc rc rd) : GV Γ (fChain p p' fa fb fc) (ra.bind fun a => rb.bind fun b => if op a b = true then rc.bind fun c => .ok (op' b c) else .ok false) rd := fun S s => by
  refine (h S s).bind fun a z ⟨s1, q⟩ => (h1 z.2 s1).bind fun b y ⟨s2, q1⟩ => ?_
  obtain ⟨od, e, k⟩ := q y.2 s2
  obtain ⟨od1, e1, k1⟩ := q1 y.2 s2
  rw [dat_of e k, dat_of e1 k1]
  show Ans _ ((Res.of (p (.int a) (.int b))).bind _) _
  rw [hp]
  show Ans _ (if op a b = true then _ else _) _
  by_cases w : op a b = true
  · rw [if_pos w, if_pos w]
    refine (h2 y.2 s2).bind fun c x ⟨s3, q2⟩ => ?_
    obtain ⟨od1, e1, k1⟩ := q1 x.2 s3
    obtain ⟨od2, e2, k2⟩ := q2 x.2 s3
    rw [cmp_of e1 k1 e2 k2 (hp' b c)]
    exact ⟨_, rfl, s3, _, rfl, .inl rfl⟩
  · rw [if_neg w, if_neg w]
    exact ⟨_, rfl, s2, _, rfl, .inl rfl⟩
theorem gv_chainO {p p' : P2} {op op' : Int → Int → Bool} (hp : ∀ i j, p (.int i) (.int j) = some (op i j)) (hp' : ∀ i j, p' (.int i) (.int j) = some (op' i j)) {fa fb fc : FE} {a b c : Int} (h : GE Γ fa (.ok a) rd) (h1 : GE Γ fb (.ok b) rd) (h2 : GE Γ fc (.ok c) rd) : GV Γ (fChain p p' fa fb fc) (.ok (op a b && op' b c)) rd := by
  have := gv_chain hp hp' h h1 h2
  simp only [Res.bind_ok] at this
  cases q : op a b with
  | true => rw [q] at this; exact this
  | false => rw [q] at this; exact this
theorem gv_min2 {fa fb : FE} {ra rb : Res Int} (h : GE Γ fa ra rd) (h1 : GE Γ fb rb rd) : GV Γ (fArgs (fCons fa (fCons fb fNil)) min2K) (ra.bind fun a => rb.bind fun b => .ok (if b < a then b else a)) rd := fun S s => by
  rw [fArgs_ap, fCons_ap]
  show Ans _ (((fa S).bind fun a => (fCons fb fNil a.2).bind fun b => .ok (a.1 :: b.1, b.2)).bind _) _
  rw [Res.bind_assoc]
  refine (h S s).bind fun a z ⟨s1, q⟩ => ?_
  show Ans _ ((((fb z.2).bind fun a => .ok ([a.1], a.2)).bind _).bind _) _
  rw [Res.bind_assoc, Res.bind_assoc]
  refine (h1 z.2 s1).bind fun b y ⟨s2, q1⟩ => ?_
  obtain ⟨od, e, k⟩ := q y.2 s2
  obtain ⟨od1, e1, k1⟩ := q1 y.2 s2
  show Ans _ (min2K [z.1, y.1] y.2) _
  unfold min2K
  dsimp only
  rw [dat_of e k, dat_of e1 k1]
  exact ⟨_, rfl, s2, _, rfl, .inl rfl⟩
/-- the least of a list of whole numbers, few -/
def minI (xs : List Int) : Res Int := match xs with
  | [] => .stuck
  | x :: xs => .ok (xs.foldl min x)
theorem minOk_ints (xs : List Int) : MinOk (xs.map .int) := ⟨⟨by
  intro d hd e he
  obtain ⟨i, _, rfl⟩ := List.mem_map.mp hd
  obtain ⟨j, _, rfl⟩ := List.mem_map.mp he
  rfl, by
  intro d hd e
  obtain ⟨i, _, rfl⟩ := List.mem_map.mp hd
  cases e⟩, by
  refine depthAll_le fun d hd => ?_
  obtain ⟨i, _, rfl⟩ := List.mem_map.mp hd
  exact Nat.zero_le _⟩
theorem k_min : K1 minK rd (fun xs : List Int => minI xs) rd := fun a x od S e p => by
  unfold minK
  dsimp only
  rw [e]
  show Ans _ ((Res.of od.kid).bind _) _
  rw [Rd.kid p]
  cases a with
  | nil => trivial
  | cons i is =>
    show Ans _ ((guardP (MinOk (.int i :: is.map .int))).bind _) _
    have ok : MinOk (.int i :: is.map .int) := minOk_ints (i :: is)
    unfold guardP
    rw [if_pos ok]
    show Ans _ (.ok (.v (.f (PySem.W.minD (.int i) (is.map .int))), S) : Res ES) _
    rw [PySem.W.minD_ints]
    exact v_ok (.inl rfl)
def rng (lo : Int) (n : Nat) : List Int := (List.range n).map fun (i : Nat) => lo + (i : Int)
theorem rngD_rng (lo : Int) (n : Nat) : rngD lo n = (rng lo n).map en := by
  unfold rngD rng
  rw [List.map_map]
  rfl
def rngR (j : Int) : Res (List Int) := (guardR (decide (-1000000 ≤ j ∧ j ≤ 1000000))).bind fun _ => .ok (rng 0 j.toNat)
def rngL (j : Int) : Res (List Int) := (guardR (decide (0 ≤ j ∧ j ≤ 1000000))).bind fun _ => .ok (rng 0 j.toNat)
def rngR2 (i j : Int) : Res (List Int) := (guardR (decide ((-1000000 ≤ i ∧ i ≤ 1000000) ∧ (-1000000 ≤ j ∧ j ≤ 1000000)))).bind fun _ => .ok (rng i (j - i).toNat)
theorem gv_lstRg {f : FE} {r : Res Int} (h : GE Γ f r rd) : GV Γ (fLstRg f) (r.bind fun j => rngL j) ow := fun S s => by
  rw [fLstRg_ap]
  refine (h S s).bind fun j z ⟨s1, q⟩ => ?_
  obtain ⟨od, e, k⟩ := q z.2 s1
  rw [dat_of e k]
  show Ans _ ((guardR (decide (0 ≤ j ∧ j ≤ 1000000))).bind _) _
  refine guard_ans fun _ => ⟨_, rfl, s1, _, rfl, ?_⟩
  rw [rngD_rng]
  rfl
/-! slices -/
def GO (Γ : Cn) (f : Sg → Res (Option Int × Sg)) (r : Res (Option Int)) : Prop := ∀ S, Sat S Γ → Ans r (f S) fun a z => z.1 = a ∧ Sat z.2 Γ
theorem go_no : GO Γ fNo (.ok none) := fun S s => ⟨_, rfl, rfl, s⟩
theorem go_so {f : FE} {r : Res Int} (h : GE Γ f r rd) : GO Γ (fSo f) (r.bind fun i => .ok (some i)) := fun S s => by
  rw [fSo_ap]
  refine (h S s).bind fun j z ⟨s1, q⟩ => ?_
  obtain ⟨od, e, k⟩ := q z.2 s1
  rw [dat_of e k]
  exact ⟨_, rfl, rfl, s1⟩
theorem cutD_map (f : α → β) (xs : List α) (lo hi : Option Int) : cutD (xs.map f) lo hi = (cutD xs lo hi).map f := by
  unfold cutD
  rw [List.length_map, ← List.map_drop, ← List.map_take]
theorem gv_slice [En α] {f : FE} {l h : Sg → Res (Option Int × Sg)} {r : Res (List α)} {rl rh : Res (Option Int)} (h0 : GE Γ f r rd) (h1 : GO Γ l rl) (h2 : GO Γ h rh) : GV Γ (fSlice f l h) (r.bind fun xs => rl.bind fun lo => rh.bind fun hi => .ok (cutD xs lo hi)) ow := fun S s => by
  refine (h0 S s).bind fun xs z ⟨s1, q⟩ => (h1 z.2 s1).bind fun lo y ⟨e1, s2⟩ => (h2 y.2 s2).bind fun hi x ⟨e2, s3⟩ => ?_
  obtain ⟨od, e, p⟩ := q x.2 s3
  have key : sliceK z.1 y.1 x.1 x.2 = (Res.of od.kid).bind fun ds => .ok (.v (.l ((cutD ds y.1 x.1).map .f)), x.2) := by
    unfold sliceK
    rw [e]
    rcases p with rfl | ⟨_, _, rfl⟩ <;> rfl
  rw [key, Rd.kid p, e1, e2]
  refine ⟨_, rfl, s3, _, rfl, ?_⟩
  show OD.l _ = OD.l _
  rw [cutD_map]
theorem gv_sliceT [En α] {f : FE} {l h : Sg → Res (Option Int × Sg)} {r : Res (Tp α)} {rl rh : Res (Option Int)} (h0 : GE Γ f r rd) (h1 : GO Γ l rl) (h2 : GO Γ h rh) : GV Γ (fSlice f l h) (r.bind fun xs => rl.bind fun lo => rh.bind fun hi => .ok (Tp.mk (cutD xs.l lo hi))) rd := fun S s => by
  refine (h0 S s).bind fun xs z ⟨s1, q⟩ => (h1 z.2 s1).bind fun lo y ⟨e1, s2⟩ => (h2 y.2 s2).bind fun hi x ⟨e2, s3⟩ => ?_
  obtain ⟨od, e, p⟩ := q x.2 s3
  unfold sliceK
  rw [e, Rd.sc p, e1, e2]
  refine ⟨_, rfl, s3, _, rfl, .inl ?_⟩
  show OD.f (.tuple _) = OD.f (.tuple _)
  rw [cutD_map]
/-! ### sources -/
def TI (Γ : Cn) [En α] (src : Sg → Res (Src × Sg)) (r : Res (List α)) : Prop := ∀ S, Sat S Γ → Ans r (src S) fun xs z => z.1 = ⟨xs.map en, none⟩ ∧ Sat z.2 Γ
theorem ti_fz [En α] {f : FE} {r : Res (List α)} (h : GV Γ (fFz f) r fr) : TI Γ (iFz f) r := fun S s => by
  rw [iFz_ap]
  refine (h S s).bindR fun a z ⟨s1, od, e, p⟩ => ⟨(⟨a.map en, none⟩, z.2), ?_, rfl, s1⟩
  rw [e, show od = _ from p]
  rfl
theorem ti_fzT [En α] {f : FE} {r : Res (Tp α)} (h : GV Γ (fFz f) r fr) : TI Γ (iFz f) (r.bind fun t => .ok t.l) := fun S s => by
  rw [iFz_ap]
  refine (h S s).bind fun a z ⟨s1, od, e, p⟩ => ?_
  rw [e, show od = _ from p]
  exact ⟨_, rfl, rfl, s1⟩
theorem ti_rs [En α] {f : FE} {r : Res (List α)} (h : GV Γ (fFz f) r rs) : TI Γ (iFz f) r := fun S s => by
  rw [iFz_ap]
  refine (h S s).bindR fun a z ⟨s1, od, e, p⟩ => ⟨(⟨a.map en, none⟩, z.2), ?_, rfl, s1⟩
  rw [e, show od = _ from p]
  rfl
theorem ti_rng1 {f : FE} {r : Res Int} (h : GE Γ f r rd) : TI Γ (iRng1 f) (r.bind fun j => rngR j) := fun S s => by
  rw [iRng1_ap]
  refine (h S s).bind fun j z ⟨s1, q⟩ => ?_
  obtain ⟨od, e, k⟩ := q z.2 s1
  rw [dat_of e k]
  show Ans _ ((guardR (decide (-1000000 ≤ j ∧ j ≤ 1000000))).bind _) _
  refine guard_ans fun _ => ⟨_, rfl, ?_, s1⟩
  rw [rngD_rng]
theorem ti_rng2 {f f2 : FE} {r r2 : Res Int} (h : GE Γ f r rd) (h2 : GE Γ f2 r2 rd) : TI Γ (iRng2 f f2) (r.bind fun i => r2.bind fun j => rngR2 i j) := fun S s => by
  refine (h S s).bind fun i z ⟨s1, q⟩ => (h2 z.2 s1).bind fun j y ⟨s2, q2⟩ => ?_
  obtain ⟨od, e, k⟩ := q y.2 s2
  obtain ⟨od2, e2, k2⟩ := q2 y.2 s2
  rw [dat_of e k, dat_of e2 k2]
  show Ans _ ((guardR _).bind _) _
  refine guard_ans fun _ => ⟨_, rfl, ?_, s2⟩
  rw [rngD_rng]
theorem ti_pick [En κ] [Ky κ] [En υ] [En α] (m : Dc κ υ) (xs : List α) {pick : List (PyData × PyData) → List PyData} (hp : pick (eG m) = xs.map en) {n : Nat} (h : Γ[n]? = some (dv (dr m))) : TI Γ (iDict pick (fV n)) (.ok xs) := fun S s => by
  obtain ⟨S', e, s', e2⟩ := lock_run h s
  rw [iDict_ap, e]
  show Ans _ (match Opd.od S' (.i n) with
    | some (.g _ kvs) => (Res.ok (⟨pick kvs, none⟩, S') : Res (Src × Sg))
    | _ => .stuck) _
  rw [od_i, e2]
  refine ⟨_, rfl, ?_, s'⟩
  rw [hp]
theorem ti_keys [En κ] [Ky κ] [En υ] (m : Dc κ υ) {n : Nat} (h : Γ[n]? = some (dv (dr m))) : TI Γ (iDict (List.map Prod.fst) (fV n)) (.ok (keysD m)) := ti_pick m _ (by unfold eG keysD; rw [List.map_map, List.map_map]; rfl) h
theorem ti_vals [En κ] [Ky κ] [En υ] (m : Dc κ υ) {n : Nat} (h : Γ[n]? = some (dv (dr m))) : TI Γ (iDict (List.map Prod.snd) (fV n)) (.ok (m.map (·.2))) := ti_pick m _ (by unfold eG; rw [List.map_map, List.map_map]; rfl) h
theorem ti_items [En κ] [Ky κ] [En υ] (m : Dc κ υ) {n : Nat} (h : Γ[n]? = some (dv (dr m))) : TI Γ (iDict (List.map fun p => .tuple [p.1, p.2]) (fV n)) (.ok m) := ti_pick m m (by unfold eG; rw [List.map_map]; rfl) h
def enumI (xs : List α) : List (Int × α) := xs.zipIdx.map fun p => (((p.2 : Nat) : Int), p.1)
theorem enumD_map [En α] (xs : List α) : enumD (xs.map en) = (enumI xs).map en := by
  unfold enumD enumI
  rw [List.zipIdx_map, List.map_map, List.map_map]
  rfl
theorem ti_enum [En α] {f : FE} {r : Res (List α)} (h : GV Γ (fFz f) r fr) : TI Γ (iEnumF f) (r.bind fun xs => .ok (enumI xs)) := fun S s => by
  rw [iEnumF_ap]
  refine (h S s).bind fun a z ⟨s1, od, e, p⟩ => ?_
  rw [e, show od = _ from p]
  refine ⟨_, rfl, ?_, s1⟩
  show Src.mk (enumD (a.map en)) none = _
  rw [enumD_map]
theorem ti_enumT [En α] {f : FE} {r : Res (Tp α)} (h : GV Γ (fFz f) r fr) : TI Γ (iEnumF f) (r.bind fun xs => .ok (enumI xs.l)) := fun S s => by
  rw [iEnumF_ap]
  refine (h S s).bind fun a z ⟨s1, od, e, p⟩ => ?_
  rw [e, show od = _ from p]
  refine ⟨_, rfl, ?_, s1⟩
  show Src.mk (enumD (a.l.map en)) none = _
  rw [enumD_map]
/-! ### targets -/
def AllV : List Nat → (Nat → Prop) → Prop
  | [], _ => True
  | v :: vs, p => p v ∧ AllV vs p
theorem AllV.mem : ∀ {vs : List Nat} {p : Nat → Prop}, AllV vs p → ∀ v ∈ vs, p v
  | [], _, _, _, h => nomatch h
  | v :: vs, p, h, u, hu => by
    rcases List.mem_cons.mp hu with rfl | hu
    · exact h.1
    · exact AllV.mem h.2 u hu
def setA (S : Sg) : List (Nat × PyData) → Sg
  | [] => S
  | p :: l => setA (S.set p.1 (some (.f p.2))) l
def setC (Γ : Cn) : List (Nat × PyData) → Cn
  | [] => Γ
  | p :: l => setC (Γ.set p.1 (dv (Rd p.2))) l
structure TG [En α] (g : GT) (w : α → List (Nat × PyData)) (vs : List Nat) : Prop where
  go : ∀ a S, (∀ v ∈ vs, v < S.length) → g (en a) S = some (setA S (w a))
  fst : ∀ a, (w a).map Prod.fst = vs
theorem setA_len : ∀ (l : List (Nat × PyData)) (S : Sg), (setA S l).length = S.length
  | [], _ => rfl
  | p :: l, S => by
    show (setA _ l).length = _
    rw [setA_len l, List.length_set]
theorem setA_app : ∀ (l l' : List (Nat × PyData)) (S : Sg), setA S (l ++ l') = setA (setA S l) l'
  | [], _, _ => rfl
  | p :: l, l', S => setA_app l l' _
theorem setC_app : ∀ (l l' : List (Nat × PyData)) (S : Cn), setC S (l ++ l') = setC (setC S l) l'
  | [], _, _ => rfl
  | p :: l, l', S => setC_app l l' _
theorem setC_len : ∀ (l : List (Nat × PyData)) (S : Cn), (setC S l).length = S.length
  | [], _ => rfl
  | p :: l, S => by
    show (setC _ l).length = _
    rw [setC_len l, List.length_set]
theorem Sat.setA : ∀ (l : List (Nat × PyData)) {S : Sg} {Γ : Cn}, Sat S Γ → Sat (setA S l) (setC Γ l)
  | [], _, _, s => s
  | p :: l, S, Γ, s => Sat.setA l (s.set p.1 ⟨_, rfl, .inl rfl⟩)
theorem tg_name [En α] (i : Nat) : TG (α := α) (gN i) (fun a => [(i, en a)]) [i] := ⟨fun a S h => by
  rw [gN_ap, if_pos (h i (List.mem_singleton.mpr rfl))]
  rfl, fun _ => rfl⟩
theorem tg_pair [En α] [En β] {g g' : GT} {w : α → List (Nat × PyData)} {w' : β → List (Nat × PyData)} {vs vs' : List Nat} (h : TG g w vs) (h' : TG g' w' vs') : TG (α := α × β) (gTu 2 (gsCons g (gsCons g' gsNil))) (fun p => w p.1 ++ w' p.2) (vs ++ vs') := ⟨fun a S k => by
  rw [gTu_ap]
  show (if (2 : Nat) = 2 then gsCons g (gsCons g' gsNil) [en a.1, en a.2] S else none) = _
  rw [if_pos rfl]
  show (g (en a.1) S).bind (fun S => (g' (en a.2) S).bind (gsNil [])) = _
  rw [h.go _ _ fun v z => k v (List.mem_append_left _ z)]
  show (g' (en a.2) (DL.setA S (w a.1))).bind (gsNil []) = _
  rw [h'.go _ _ fun v z => by rw [setA_len]; exact k v (List.mem_append_right _ z), setA_app]
  rfl, fun a => by rw [List.map_append, h.fst, h'.fst]⟩
theorem tg_t3 [En α] [En β] [En γ] {g g' g2 : GT} {w : α → List (Nat × PyData)} {w' : β → List (Nat × PyData)} {w2 : γ → List (Nat × PyData)} {vs vs' vs2 : List Nat} (h : TG g w vs) (h' : TG g' w' vs') (h2 : TG g2 w2 vs2) : TG (α := T3 α β γ) (gTu 3 (gsCons g (gsCons g' (gsCons g2 gsNil)))) (fun p => w p.a ++ (w' p.b ++ w2 p.c)) (vs ++ (vs' ++ vs2)) := ⟨fun a S k => by
  rw [gTu_ap]
  show (if (3 : Nat) = 3 then gsCons g (gsCons g' (gsCons g2 gsNil)) [en a.a, en a.b, en a.c] S else none) = _
  rw [if_pos rfl]
  show (g (en a.a) S).bind (fun S => (g' (en a.b) S).bind fun S => (g2 (en a.c) S).bind (gsNil [])) = _
  rw [h.go _ _ fun v z => k v (List.mem_append_left _ z)]
  show (g' (en a.b) (DL.setA S (w a.a))).bind _ = _
  rw [h'.go _ _ fun v z => by rw [setA_len]; exact k v (List.mem_append_right _ (List.mem_append_left _ z))]
  show (g2 (en a.c) (DL.setA (DL.setA S (w a.a)) (w' a.b))).bind _ = _
  rw [h2.go _ _ fun v z => by rw [setA_len, setA_len]; exact k v (List.mem_append_right _ (List.mem_append_right _ z)), setA_app, setA_app]
  rfl, fun a => by rw [List.map_append, List.map_append, h.fst, h'.fst, h2.fst]⟩
/-! ### statements -/
inductive Ex (β ρ : Type) where
  | nx (b : β)
  | rt (c : ρ)
def Res.bindE (r : Res (Ex β ρ)) (k : β → Res (Ex γ ρ)) : Res (Ex γ ρ) := r.bind fun o => match o with
  | .nx b => k b
  | .rt c => .ok (.rt c)
@[simp] theorem bindE_nx (b : β) (k : β → Res (Ex γ ρ)) : Res.bindE (.ok (.nx b)) k = k b := rfl
@[simp] theorem bindE_rt (c : ρ) (k : β → Res (Ex γ ρ)) : Res.bindE (.ok (.rt c)) k = .ok (.rt c) := rfl
@[simp] theorem bindE_exc (c : XD) (k : β → Res (Ex γ ρ)) : Res.bindE (.exc c : Res (Ex β ρ)) k = .exc c := rfl
@[simp] theorem bindE_stuck (k : β → Res (Ex γ ρ)) : Res.bindE (.stuck : Res (Ex β ρ)) k = .stuck := rfl
def Fin (Γe : β → Cn) (Q : ρ → OD → Sg → Prop) : Ex β ρ → Ou → Prop
  | .nx b, .nx S => Sat S (Γe b)
  | .rt c, .rt od S => Q c od S
  | _, _ => False
def SS (Γ : Cn) (f : Sg → Res Ou) (r : Res (Ex β ρ)) (Γe : β → Cn) (Q : ρ → OD → Sg → Prop) : Prop := ∀ S, Sat S Γ → Ans r (f S) (Fin Γe Q)
section
variable {Γe : β → Cn} {Q : ρ → OD → Sg → Prop} {f : FE} {rest st : Sg → Res Ou} {rr : Res (Ex β ρ)}
theorem ss_last (h : SS Γ (fSeq st fPass) rr Γe Q) : SS Γ st rr Γe Q := fun S s => by
  have e : fSeq st fPass S = st S := by
    show (st S).bind _ = _
    cases st S with
    | ok o => cases o <;> rfl
    | exc x => rfl
    | stuck => rfl
  rw [← e]
  exact h S s
theorem ss_pass (b : β) (h : Le Γ (Γe b)) : SS Γ fPass (.ok (.nx b)) Γe Q := fun S s => ⟨_, rfl, h.sat s⟩
theorem ss_doc (h : SS Γ rest rr Γe Q) : SS Γ (fSeq fPass rest) rr Γe Q := fun S s => h S s
theorem ss_wk {Γ' : Cn} (w : Le Γ Γ') (h : SS Γ' st rr Γe Q) : SS Γ st rr Γe Q := fun S s => h S (w.sat s)
/-- a slot's own becomes what is read -/
theorem Sat.wk {S : Sg} (s : Sat S Γ) (i : Nat) {P P' : Pd} (e : Γ[i]? = some (dv P)) (w : ∀ od, P od → P' od) : Sat S (Γ.set i (dv P')) := by
  refine ⟨by rw [List.length_set, s.len], fun j q hj u hu => ?_⟩
  rw [set_get] at hj
  by_cases z : j = i
  · rw [if_pos z] at hj
    subst z
    split at hj
    · cases hj
      obtain ⟨od, e1, p⟩ := s.at_ j _ e u hu
      exact ⟨od, e1, w od p⟩
    · cases hj
  · rw [if_neg z] at hj
    exact s.at_ j q hj u hu
theorem ss_own [En α] (i : Nat) (xs : List α) (e : Γ[i]? = some (dv (ow xs))) (h : SS (Γ.set i (dv (rd xs))) st rr Γe Q) : SS Γ st rr Γe Q := fun S s => h S (s.wk i e fun od => ow_rd xs od)
theorem ss_dic [En κ] [Ky κ] [En υ] (i : Nat) (m : Dc κ υ) (e : Γ[i]? = some (dv (dw m))) (h : SS (Γ.set i (dv (dr m))) st rr Γe Q) : SS Γ st rr Γe Q := fun S s => h S (s.wk i e fun od => dw_dr m od)
theorem ss_roo [En α] (i : Nat) (m : List (List α)) (e : Γ[i]? = some (dv (oo m))) (h : SS (Γ.set i (dv (ro m))) st rr Γe Q) : SS Γ st rr Γe Q := fun S s => h S (s.wk i e fun od => oo_ro m od)
theorem ss_assoc {s1 s2 : Sg → Res Ou} (h : SS Γ (fSeq s1 (fSeq s2 rest)) rr Γe Q) : SS Γ (fSeq (fSeq s1 s2) rest) rr Γe Q := fun S s => by
  have e : fSeq (fSeq s1 s2) rest S = fSeq s1 (fSeq s2 rest) S := by
    show ((s1 S).bind _).bind _ = (s1 S).bind _
    rw [Res.bind_assoc]
    congr 1
    funext o
    cases o <;> rfl
  rw [e]
  exact h S s
theorem ss_set {r : Res α} {P : α → Pd} {Γ' : α → Cn} {k : α → Res (Ex β ρ)} (i : Nat) (hl : ∀ a, i < (Γ' a).length) (h : IE Γ (fTk f) r P Γ') (hk : ∀ a, SS ((Γ' a).set i (dv (P a))) rest (k a) Γe Q) : SS Γ (fSeq (fSet i f) rest) (r.bind k) Γe Q := fun S s => by
  rw [fSeq_ap]
  show Ans _ (((fSet i f S)).bind _) _
  rw [fSet_ap, Res.bind_assoc]
  refine (h S s).bind fun a z ⟨s1, od, e, p⟩ => ?_
  have : i < z.2.length := by rw [s1.len]; exact hl a
  rw [e]
  show Ans _ (((guardR (decide (i < z.2.length))).bind _).bind _) _
  rw [decide_eq_true this]
  exact hk a _ (s1.set i ⟨od, rfl, p⟩)
theorem ss_expr {r : Res α} {P : α → Pd} {Γ' : α → Cn} {k : α → Res (Ex β ρ)} (h : IE Γ f r P Γ') (hk : ∀ a, SS (Γ' a) rest (k a) Γe Q) : SS Γ (fSeq (fExpr f) rest) (r.bind k) Γe Q := fun S s => by
  rw [fSeq_ap]
  show Ans _ ((fExpr f S).bind _) _
  rw [fExpr_ap, Res.bind_assoc]
  exact (h S s).bind fun a z ⟨s1, _⟩ => hk a _ s1
theorem ss_unp [En α] {g : GT} {w : α → List (Nat × PyData)} {vs : List Nat} {r : Res δ} {v : δ → α} {Γ' : δ → Cn} {k : δ → Res (Ex β ρ)} (tg : TG g w vs) (hl : ∀ a, AllV vs fun v => v < (Γ' a).length) (h : IE Γ (fFz f) r (fun b => fr (v b)) Γ') (hk : ∀ a, SS (setC (Γ' a) (w (v a))) rest (k a) Γe Q) : SS Γ (fSeq (fUnp g f) rest) (r.bind k) Γe Q := fun S s => by
  rw [fSeq_ap]
  show Ans _ ((fUnp g f S).bind _) _
  rw [fUnp_ap, Res.bind_assoc]
  refine (h S s).bind fun a z ⟨s1, od, e, p⟩ => ?_
  rw [e, show od = _ from p]
  show Ans _ (((Res.of (g (en (v a)) z.2)).bind _).bind _) _
  rw [tg.go _ _ fun u hu => by rw [s1.len]; exact (hl a).mem u hu]
  exact hk a _ (Sat.setA _ s1)
theorem bind_bindE {r : Res δ} {f : δ → Res (Ex σ ρ)} {k : σ → Res (Ex β ρ)} : (r.bind f).bindE k = r.bind fun a => (f a).bindE k := Res.bind_assoc _ _ _
theorem fin_bind {Γj : σ → Cn} {x : Res (Ex σ ρ)} {fx : Res Ou} {k : σ → Res (Ex β ρ)} {kf : Sg → Res Ou} (hx : Ans x fx (Fin Γj Q)) (hk : ∀ j S, Sat S (Γj j) → Ans (k j) (kf S) (Fin Γe Q)) : Ans (x.bindE k) (fx.bind fun o => match o with
      | .nx s => kf s
      | .rt od s => .ok (.rt od s)) (Fin Γe Q) := hx.bind fun o u hu => by
    cases o with
    | nx j =>
      cases u with
      | nx S' => exact hk j S' hu
      | rt _ _ => exact hu.elim
    | rt c =>
      cases u with
      | nx _ => exact hu.elim
      | rt od S' => exact ⟨_, rfl, hu⟩
theorem ss_if {σ' : Type} {t : Sg → Res (Bool × Sg)} {fa fb : Sg → Res Ou} {r : Res δ} {c : δ → Bool} {Γ' : δ → Cn} {a b : δ → Res (Ex σ' ρ)} {Γj : σ' → Cn} {k : σ' → Res (Ex β ρ)} (h : IT Γ t r c Γ') (ha : ∀ d, SS (Γ' d) fa (a d) Γj Q) (hb : ∀ d, SS (Γ' d) fb (b d) Γj Q) (hk : ∀ j, SS (Γj j) rest (k j) Γe Q) : SS Γ (fSeq (fIfS t fa fb) rest) ((r.bind fun d => if c d = true then a d else b d).bindE k) Γe Q := fun S s => by
  rw [fSeq_ap]
  show Ans _ (((t S).bind fun a => if a.1 = true then fa a.2 else fb a.2).bind _) _
  rw [Res.bind_assoc, bind_bindE]
  refine (h S s).bind fun d z ⟨e, s1⟩ => ?_
  rw [e]
  cases c d with
  | true =>
    rw [if_pos rfl, if_pos rfl]
    exact fin_bind (ha d z.2 s1) fun j S' s' => hk j S' s'
  | false =>
    rw [if_neg Bool.false_ne_true, if_neg Bool.false_ne_true]
    exact fin_bind (hb d z.2 s1) fun j S' s' => hk j S' s'
/-- an if whose body always goes away, and no else -/
theorem ss_ifr {t : Sg → Res (Bool × Sg)} {fa : Sg → Res Ou} {r : Res δ} {c : δ → Bool} {Γ' : δ → Cn} {a k : δ → Res (Ex β ρ)} (h : IT Γ t r c Γ') (ha : ∀ d, SS (Γ' d) (fSeq fa rest) (a d) Γe Q) (hk : ∀ d, SS (Γ' d) rest (k d) Γe Q) : SS Γ (fSeq (fIfS t fa fPass) rest) (r.bind fun d => if c d = true then a d else k d) Γe Q := fun S s => by
  rw [fSeq_ap]
  show Ans _ (((t S).bind fun a => if a.1 = true then fa a.2 else fPass a.2).bind _) _
  rw [Res.bind_assoc]
  refine (h S s).bind fun d z ⟨e, s1⟩ => ?_
  rw [e]
  cases c d with
  | true => exact ha d z.2 s1
  | false => exact hk d z.2 s1
/-- what comes behind a return is not looked at -/
theorem ss_gone {c : ρ} {r : Res α} {g : α → ρ} (h : SS Γ st (r.bind fun a => .ok (.rt (g a))) Γe Q) : SS Γ (fSeq st rest) (r.bind fun a => .ok (.rt (g a))) Γe Q := fun S s => by
  have := h S s
  rw [fSeq_ap]
  show Ans _ ((st S).bind _) _
  cases r with
  | ok a =>
    obtain ⟨o, e, q⟩ := this
    rw [e]
    cases o with
    | nx _ => exact q.elim
    | rt od S' => exact ⟨_, rfl, q⟩
  | exc x =>
    have e : st S = .exc x := this
    rw [e]
    exact rfl
  | stuck => trivial
theorem ss_ret {r : Res α} {P : α → Pd} {Γ' : α → Cn} {io : Bool} (g : α → ρ) (h : IE Γ f r P Γ') (hq : ∀ a od S, P a od → Sat S (Γ' a) → Q (g a) od S) : SS Γ (fSeq (fRet io f) rest) (r.bind fun a => .ok (.rt (g a))) Γe Q := fun S s => by
  rw [fSeq_ap]
  show Ans _ ((fRet io f S).bind _) _
  rw [fRet_ap, Res.bind_assoc]
  refine (h S s).bind fun a z ⟨s1, od, e, p⟩ => ?_
  rw [e]
  exact ⟨_, rfl, hq a od z.2 p s1⟩
theorem ss_retV {P : Pd} {io : Bool} {c : ρ} {n : Nat} (e : Γ[n]? = some (dv P)) (hio : (io && n == 0) = false) (hq : ∀ od S, P od → Sat S (Γ.set n any) → Q c od S) : SS Γ (fSeq (fRet io (fV n)) rest) (.ok (.rt c)) Γe Q := fun S s => by
  obtain ⟨od, e1, p⟩ := s.get e
  rw [fSeq_ap]
  show Ans _ ((fRet io (fV n) S).bind _) _
  rw [fRet_ap, fV_run s e]
  show Ans _ (((guardR (!(io && n == 0))).bind _).bind _) _
  rw [hio]
  show Ans _ (((Res.of (Opd.od S (.i n))).bind _).bind _) _
  rw [od_i, e1]
  exact ⟨_, rfl, hq od _ p (s.set n trivial)⟩
theorem ss_end : SS Γ fPass (.ok (.nx ()) : Res (Ex Unit ρ)) (fun _ => []) Q → True := fun _ => trivial
theorem ss_stuck : SS Γ (fSeq fStuck rest) (.stuck : Res (Ex β ρ)) Γe Q := fun S s => trivial
theorem ss_any (f : Sg → Res Ou) : SS Γ f (.stuck : Res (Ex β ρ)) Γe Q := fun S s => trivial
/-! loops -/
def forR (b : α → σ → Res (Ex σ ρ)) : List α → σ → Res (Ex σ ρ)
  | [], x => .ok (.nx x)
  | a :: as, x => (b a x).bindE fun y => forR b as y
def whileR : Nat → (σ → Res Bool) → (σ → Res (Ex σ ρ)) → σ → Res (Ex σ ρ)
  | 0, _, _, _ => .stuck
  | n + 1, t, b, x => (t x).bind fun c => if c = true then (b x).bindE fun y => whileR n t b y else .ok (.nx x)
theorem forL_ok [En α] {g : GT} {w : α → List (Nat × PyData)} {vs : List Nat} {body : Sg → Res Ou} {b : α → σ → Res (Ex σ ρ)} {Γl : σ → Cn} (tg : TG g w vs) (hl : ∀ x, AllV vs fun v => v < (Γl x).length) (hb : ∀ a x, SS (setC (Γl x) (w a)) body (b a x) Γl Q) : ∀ (as : List α) (x : σ) (S : Sg), Sat S (Γl x) → Ans (forR b as x) (forL g body (as.map en) S) (Fin Γl Q)
  | [], x, S, s => ⟨_, rfl, s⟩
  | a :: as, x, S, s => by
    show Ans ((b a x).bindE fun y => forR b as y) ((Res.of (g (en a) S)).bind fun s1 => (body s1).bind fun o => match o with
      | .nx s => forL g body (as.map en) s
      | .rt od s => .ok (.rt od s)) _
    rw [tg.go _ _ fun v hv => by rw [s.len]; exact (hl x).mem v hv]
    exact fin_bind (hb a x _ (Sat.setA _ s)) fun j S' s' => forL_ok tg hl hb as j S' s'
theorem ss_for [En α] {src : Sg → Res (Src × Sg)} {g : GT} {w : α → List (Nat × PyData)} {vs : List Nat} {body : Sg → Res Ou} {r : Res (List α)} (b : α → σ → Res (Ex σ ρ)) (Γl : σ → Cn) (x0 : σ) {k : σ → Res (Ex β ρ)} (hs : TI Γ src r) (tg : TG g w vs) (hl : ∀ x, AllV vs fun v => v < (Γl x).length) (h0 : Le Γ (Γl x0)) (hb : ∀ a x, SS (setC (Γl x) (w a)) body (b a x) Γl Q) (hk : ∀ x, SS (Γl x) rest (k x) Γe Q) : SS Γ (fSeq (fFor src g body) rest) (r.bind fun xs => (forR b xs x0).bindE k) Γe Q := fun S s => by
  rw [fSeq_ap]
  show Ans _ ((fFor src g body S).bind _) _
  rw [fFor_ap, Res.bind_assoc]
  refine (hs S s).bind fun xs z ⟨e, s1⟩ => ?_
  rw [e]
  exact fin_bind (forL_ok tg hl hb xs x0 z.2 (h0.sat s1)) fun j S' s' => hk j S' s'
theorem ss_while {t : Sg → Res (Bool × Sg)} {body : Sg → Res Ou} {rt : σ → Res Bool} (b : σ → Res (Ex σ ρ)) (Γl : σ → Cn) (x0 : σ) {k : σ → Res (Ex β ρ)} {n : Nat} (h0 : Le Γ (Γl x0)) (ht : ∀ x, GT' (Γl x) t (rt x)) (hb : ∀ x, SS (Γl x) body (b x) Γl Q) (hk : ∀ x, SS (Γl x) rest (k x) Γe Q) : SS Γ (fSeq (fWhile n t body) rest) ((whileR n rt b x0).bindE k) Γe Q := fun S s => by
  rw [fSeq_ap]
  refine fin_bind (Γj := Γl) ?_ fun j S' s' => hk j S' s'
  have key : ∀ (n : Nat) (x : σ) (S : Sg), Sat S (Γl x) → Ans (whileR n rt b x) (fWhile n t body S) (Fin Γl Q) := fun n => by
    induction n with
    | zero => exact fun _ _ _ => trivial
    | succ n ih =>
      intro x S s
      show Ans ((rt x).bind _) ((t S).bind _) _
      refine (ht x S s).bind fun c z ⟨e, s1⟩ => ?_
      rw [e]
      cases c with
      | true => exact fin_bind (hb x z.2 s1) fun j S' s' => ih j S' s'
      | false => exact ⟨_, rfl, s1⟩
  exact key n x0 S (h0.sat s)
end
/-! stores -/
def setI (xs : List α) (i : Int) (a : α) : Res (List α) := (Res.of (ixN xs.length i)).bind fun j => .ok (xs.set j a)
def setII (xs : List (List α)) (i k : Int) (a : α) : Res (List (List α)) := (Res.of (ixN xs.length i)).bind fun j => (Res.of xs[j]?).bind fun ys => (Res.of (ixN ys.length k)).bind fun l => .ok (xs.set j (ys.set l a))
def putD [DecidableEq κ] (m : Dc κ υ) (k : κ) (v : υ) : Res (Dc κ υ) := (guardR (decide (m.length < 1000000))).bind fun _ => .ok (dp m k v)
section
variable {Γe : β → Cn} {Q : ρ → OD → Sg → Prop} {fe fi : FE} {rest st : Sg → Res Ou} {rr : Res (Ex β ρ)}
theorem ss_st [En α] {n : Nat} {xs : List α} {r : Res α} {ri : Res Int} {k : List α → Res (Ex β ρ)} (hx : Γ[n]? = some (dv (ow xs))) (h : GV Γ (fTk fe) r fr) (hi : GE Γ fi ri rd) (hk : ∀ ys, SS (Γ.set n (dv (ow ys))) rest (k ys) Γe Q) : SS Γ (fSeq (fSt n fe fi) rest) (r.bind fun a => ri.bind fun i => (setI xs i a).bind k) Γe Q := fun S s => by
  rw [fSeq_ap]
  show Ans _ ((fSt n fe fi S).bind _) _
  rw [fSt_ap]
  show Ans _ (((fTk fe S).bind _).bind _) _
  rw [Res.bind_assoc]
  refine (h S s).bind fun a z ⟨s1, od, e, p⟩ => ?_
  rw [e]
  show Ans _ (((fV n z.2).bind fun _ => (fi z.2).bind fun i => (storeK n i.1 od i.2).bind fun s => .ok (Ou.nx s)).bind _) _
  rw [fV_run s1 hx]
  show Ans _ (((fi z.2).bind _).bind _) _
  rw [Res.bind_assoc]
  refine (hi z.2 s1).bind fun i y ⟨s2, q⟩ => ?_
  obtain ⟨od2, e2, p2⟩ := q y.2 s2
  obtain ⟨od3, e3, p3⟩ := s2.get hx
  have key : storeK n y.1 od y.2 = (Res.of (ixN ((xs.map en).map OD.f).length i)).bind fun j => .ok (y.2.set n (some (.l (((xs.map en).map OD.f).set j od)))) := by
    unfold storeK
    rw [e3, show od3 = _ from p3]
    dsimp only
    rw [dat_of e2 p2]
    rfl
  rw [key, List.length_map, List.length_map]
  unfold setI
  cases ixN xs.length i with
  | none => trivial
  | some j =>
    refine hk _ _ (s2.set n ⟨_, rfl, ?_⟩)
    rw [show od = _ from p, ← List.map_set, ← List.map_set]
    rfl
theorem ss_stD [En κ] [Ky κ] [DecidableEq κ] [En υ] {n : Nat} {m : Dc κ υ} {r : Res υ} {ri : Res κ} {k : Dc κ υ → Res (Ex β ρ)} (hx : Γ[n]? = some (dv (dw m))) (h : GV Γ (fTk fe) r fr) (hi : GE Γ fi ri rd) (hk : ∀ ys, SS (Γ.set n (dv (dw ys))) rest (k ys) Γe Q) : SS Γ (fSeq (fSt n fe fi) rest) (r.bind fun a => ri.bind fun i => (putD m i a).bind k) Γe Q := fun S s => by
  rw [fSeq_ap]
  show Ans _ ((fSt n fe fi S).bind _) _
  rw [fSt_ap]
  show Ans _ (((fTk fe S).bind _).bind _) _
  rw [Res.bind_assoc]
  refine (h S s).bind fun a z ⟨s1, od, e, p⟩ => ?_
  rw [e]
  show Ans _ (((fV n z.2).bind fun _ => (fi z.2).bind fun i => (storeK n i.1 od i.2).bind fun s => .ok (Ou.nx s)).bind _) _
  rw [fV_run s1 hx]
  show Ans _ (((fi z.2).bind _).bind _) _
  rw [Res.bind_assoc]
  refine (hi z.2 s1).bind fun i y ⟨s2, q⟩ => ?_
  obtain ⟨od2, e2, p2⟩ := q y.2 s2
  obtain ⟨od3, e3, p3⟩ := s2.get hx
  have key : storeK n y.1 od y.2 = (guardR (decide (m.length < 1000000))).bind fun _ => .ok (y.2.set n (some (.m (Ky.t κ) (eM (dp m i a))))) := by
    unfold storeK
    rw [e3, show od3 = _ from p3]
    dsimp only
    rw [er_of e2 p2]
    show (guardR (keyFt (Ky.t κ) (en i) && decide ((eM m).length < 1000000) && (!((eM m).any fun p => PyData.eqv p.1 (en i)) || isF od))).bind _ = _
    rw [Ky.ok, show od = _ from p]
    show (guardR (decide ((eM m).length < 1000000) && (!((eM m).any fun p => PyData.eqv p.1 (en i)) || true))).bind _ = _
    rw [Bool.or_true, Bool.and_true, show (eM m).length = m.length from List.length_map ..]
    rw [dput_eM]
  rw [key]
  unfold putD
  rw [Res.bind_assoc]
  cases decide (m.length < 1000000) with
  | false => trivial
  | true => exact hk _ _ (s2.set n ⟨_, rfl, rfl⟩)
theorem ss_st2 [En α] {n m : Nat} {xs : List (List α)} {r : Res α} {ri : Res Int} {c : Int} {k : List (List α) → Res (Ex β ρ)} (hx : Γ[n]? = some (dv (oo xs))) (hm : Γ[m]? = some (dv (rd c))) (h : GV Γ (fTk fe) r fr) (hi : GE Γ fi ri rd) (hk : ∀ ys, SS (Γ.set n (dv (oo ys))) rest (k ys) Γe Q) : SS Γ (fSeq (fSt2 n m fe fi) rest) (r.bind fun a => ri.bind fun i => (setII xs i c a).bind k) Γe Q := fun S s => by
  rw [fSeq_ap]
  show Ans _ ((fSt2 n m fe fi S).bind _) _
  show Ans _ (((fTk fe S).bind _).bind _) _
  rw [Res.bind_assoc]
  refine (h S s).bind fun a z ⟨s1, od, e, p⟩ => ?_
  rw [e]
  show Ans _ (((fV n z.2).bind fun _ => (fi z.2).bind fun i => (fV m i.2).bind fun _ => (Res.of (childI n i.1 i.2)).bind fun c => match (Opd.i m).dat i.2 with
    | some (.int k) => (Res.of (ixN c.2.2.length k)).bind fun j2 => .ok (Ou.nx (i.2.set n (some (.l (c.2.1.set c.1 (.l (c.2.2.set j2 od)))))))
    | _ => .stuck).bind _) _
  rw [fV_run s1 hx]
  show Ans _ (((fi z.2).bind _).bind _) _
  rw [Res.bind_assoc]
  refine (hi z.2 s1).bind fun i y ⟨s2, q⟩ => ?_
  obtain ⟨od2, e2, p2⟩ := q y.2 s2
  obtain ⟨od3, e3, p3⟩ := s2.get hx
  obtain ⟨od4, e4, p4⟩ := s2.get hm
  rw [fV_run s2 hm]
  show Ans _ (((Res.of (childI n y.1 y.2)).bind _).bind _) _
  have key : childI n y.1 y.2 = (ixN (xs.map fun (ys : List α) => OD.l ((ys.map en).map .f)).length i).bind fun j => match (xs.map fun (ys : List α) => OD.l ((ys.map en).map .f))[j]? with
      | some (.l ys) => some (j, (xs.map fun (ys : List α) => OD.l ((ys.map en).map .f)), ys)
      | _ => none := by
    unfold childI
    rw [e3, show od3 = _ from p3]
    dsimp only
    rw [dat_of e2 p2]
    rfl
  have key2 : (Opd.i m).dat y.2 = some (.int c) := dat_of (by rw [od_i, e4]; rfl) p4
  rw [key, List.length_map]
  unfold setII
  cases hj : ixN xs.length i with
  | none => trivial
  | some j =>
    show Ans (((Res.of xs[j]?).bind _).bind _) (((Res.of (match (xs.map fun (ys : List α) => OD.l ((ys.map en).map .f))[j]? with
      | some (.l ys) => some (j, (xs.map fun (ys : List α) => OD.l ((ys.map en).map .f)), ys)
      | _ => none)).bind _).bind _) _
    rw [List.getElem?_map]
    cases hc : xs[j]? with
    | none => trivial
    | some ys =>
      show Ans (((Res.of (ixN ys.length c)).bind _).bind _) ((match (Opd.i m).dat y.2 with
        | some (.int k) => (Res.of (ixN ((ys.map en).map OD.f).length k)).bind fun j2 => .ok (Ou.nx (y.2.set n (some (.l ((xs.map fun (ys : List α) => OD.l ((ys.map en).map .f)).set j (.l (((ys.map en).map OD.f).set j2 od)))))))
        | _ => .stuck).bind _) _
      rw [key2]
      show Ans (((Res.of (ixN ys.length c)).bind _).bind _) (((Res.of (ixN ((ys.map en).map OD.f).length c)).bind _).bind _) _
      rw [List.length_map, List.length_map]
      cases ixN ys.length c with
      | none => trivial
      | some l =>
        refine hk _ _ (s2.set n ⟨_, rfl, ?_⟩)
        show OD.l ((xs.map fun (ys : List α) => OD.l ((ys.map en).map .f)).set j (.l (((ys.map en).map OD.f).set l od))) = OD.l ((xs.set j (ys.set l a)).map fun (ys : List α) => OD.l ((ys.map en).map .f))
        rw [show od = _ from p, List.map_set, List.map_set, List.map_set]
end
end
end DL
set_option Elab.async false
set_option linter.all false
set_option maxRecDepth 100000
set_option maxHeartbeats 4000000
namespace DL
open PySem PySem.Spec PyProof.Rows L2
open En (en)
section
variable {α β γ δ ε ρ σ τ : Type} {Γ : Cn}
/-! ### comprehensions -/
/-- outside of vs a state is as Γ says -/
def Out (vs : List Nat) (S : Sg) (Γ : Cn) : Prop := S.length = Γ.length ∧ ∀ i, i ∉ vs → ∀ p, Γ[i]? = some p → ∀ o, S[i]? = some o → p o
theorem Sat.out {S : Sg} (s : Sat S Γ) (vs : List Nat) : Out vs S Γ := ⟨s.len, fun i _ => s.at_ i⟩
theorem Out.wipe {vs : List Nat} {S : Sg} (s : Out vs S Γ) : Out vs (wipeS S vs) Γ := ⟨by rw [wipeS_len]; exact s.1, fun i hi p hp o ho => s.2 i hi p hp o (by rw [← wipeS_out hi]; exact ho)⟩
theorem Out.setA : ∀ (l : List (Nat × PyData)) {S : Sg} {Γ : Cn}, Out (l.map Prod.fst) S Γ → Sat (setA S l) (setC Γ l)
  | [], S, Γ, s => ⟨s.1, fun i => s.2 i (fun z => nomatch z)⟩
  | p :: l, S, Γ, s => by
    refine Out.setA l (S := S.set p.1 (some (.f p.2))) (Γ := Γ.set p.1 (dv (Rd p.2))) ⟨by rw [List.length_set, List.length_set]; exact s.1, fun i hi q hq o ho => ?_⟩
    rw [set_get] at hq ho
    by_cases e : i = p.1
    · rw [if_pos e] at hq ho
      split at hq
      · split at ho
        · cases hq; cases ho; exact ⟨_, rfl, .inl rfl⟩
        · cases ho
      · cases hq
    · rw [if_neg e] at hq ho
      exact s.2 i (fun z => (List.mem_cons.mp z).elim e hi) q hq o ho
theorem setC_out : ∀ (l : List (Nat × PyData)) {Γ : Cn} {i : Nat}, i ∉ l.map Prod.fst → (setC Γ l)[i]? = Γ[i]?
  | [], _, _, _ => rfl
  | p :: l, Γ, i, h => by
    show (setC (Γ.set p.1 _) l)[i]? = _
    rw [setC_out l fun z => h (List.mem_cons_of_mem _ z), set_get, if_neg fun z => h (by rw [z]; exact List.mem_cons_self)]
theorem Sat.outC {l : List (Nat × PyData)} {S : Sg} (s : Sat S (setC Γ l)) : Out (l.map Prod.fst) S Γ := ⟨by rw [s.len, setC_len], fun i hi p hp o ho => s.at_ i p (by rw [setC_out l hi]; exact hp) o ho⟩
theorem Out.rest {vs : List Nat} {S S0 : Sg} (s : Out vs S Γ) (s0 : Sat S0 Γ) : Sat (restS S S0 vs) Γ := by
  have hl : S.length = S0.length := s.1.trans s0.len.symm
  refine ⟨by rw [restS_len]; exact s.1, fun i p hp o ho => ?_⟩
  rw [restS_get hl] at ho
  by_cases q : i ∈ vs
  · rw [if_pos q] at ho
    exact s0.at_ i p hp o ho
  · rw [if_neg q] at ho
    exact s.2 i q p hp o ho
def FrC (Γ : Cn) (vs : List Nat) : Prop := ∀ v ∈ vs, ∃ p, Γ[v]? = some p ∧ ∀ o, p o → ∀ od, o = some od → frOD od = true
theorem frc_nil : FrC Γ [] := fun _ h => nomatch h
theorem frc_cons {v : Nat} {vs : List Nat} {p : Option OD → Prop} (h : Γ[v]? = some p) (hp : ∀ o, p o → ∀ od, o = some od → frOD od = true) (r : FrC Γ vs) : FrC Γ (v :: vs) := fun u hu => by
  rcases List.mem_cons.mp hu with rfl | hu
  · exact ⟨p, h, hp⟩
  · exact r u hu
theorem fro_jk (o : Option OD) (h : jk o) (od : OD) (e : o = some od) : frOD od = true := h od e
theorem fro_rd [En α] [Sc α] {a : α} (o : Option OD) (h : dv (rd a) o) (od : OD) (e : o = some od) : frOD od = true := by
  obtain ⟨od', e', p⟩ := h
  rw [e] at e'
  cases e'
  rw [Rd.sc p]
  rfl
theorem fro_Rd [En α] [Sc α] {a : α} (o : Option OD) (h : dv (Rd (en a)) o) (od : OD) (e : o = some od) : frOD od = true := fro_rd (a := a) o h od e
theorem FrC.ok {vs : List Nat} (h : FrC Γ vs) {S : Sg} (s : Sat S Γ) : okOwn S vs = true := by
  refine List.all_eq_true.mpr fun v hv => ?_
  obtain ⟨p, e, k⟩ := h v hv
  cases q : S[v]? with
  | none => rfl
  | some o =>
    cases o with
    | none => rfl
    | some od => exact k _ (s.at_ v p e _ q) od rfl
def noR {α : Type} : Res α → Res α
  | .ok a => .ok a
  | _ => .stuck
@[simp] theorem noR_ok (a : α) : noR (.ok a) = .ok a := rfl
theorem Ans.noX {r : Res α} {fr : Res β} {Q : α → β → Prop} (h : Ans r fr Q) : Ans (noR r) (noX fr) Q := by
  cases r with
  | ok a =>
    obtain ⟨b, e, q⟩ := h
    rw [e]
    exact ⟨b, rfl, q⟩
  | exc x => exact trivial
  | stuck => exact trivial
theorem Ans.bindL {ξ : Type} {r : Res α} {fr : Res β} {Q : α → β → Prop} (h : Ans r fr Q) {k : α → Res ξ} {Q' : ξ → β → Prop} (hk : ∀ a b, Q a b → ∃ c, k a = .ok c ∧ Q' c b) : Ans (r.bind k) fr Q' := by
  cases r with
  | ok a =>
    obtain ⟨b, e, q⟩ := h
    obtain ⟨c, e2, q2⟩ := hk a b q
    show Ans (k a) fr Q'
    rw [e2]
    exact ⟨b, e, q2⟩
  | exc x => exact h
  | stuck => trivial
def compR (t : α → Res Bool) (e : α → Res β) : List α → Res (List β)
  | [] => .ok []
  | a :: as => (noR (t a)).bind fun c => if c = true then (noR (e a)).bind fun b => (compR t e as).bind fun bs => .ok (b :: bs) else compR t e as
def compG (xs : List α) (t : α → Res Bool) (e : α → Res β) : Res (List β) := (guardR (decide (xs.length < 1000000))).bind fun _ => compR t e xs
def compSR (st : α → σ → Res (Option β × σ)) : List α → σ → Res (List β × σ)
  | [], x => .ok ([], x)
  | a :: as, x => (noR (st a x)).bind fun y => (compSR st as y.2).bind fun r => .ok ((match y.1 with
    | some b => b :: r.1
    | none => r.1), r.2)
def compS (xs : List α) (x0 : σ) (st : α → σ → Res (Option β × σ)) : Res (List β × σ) := (guardR (decide (xs.length < 1000000))).bind fun _ => compSR st xs x0
section
variable [En α] {g : GT} {w : α → List (Nat × PyData)} {vs : List Nat} {src : Sg → Res (Src × Sg)} {t : Sg → Res (Bool × Sg)} {el : FE} {rs : Res (List α)}
theorem compL_cons (ds0 : List PyData) (d : PyData) (ds : List PyData) (sg : Sg) : compL vs none ds0 g t el (d :: ds) sg = (Res.of (g d (wipeS sg vs))).bind fun s1 => (noX (t s1)).bind fun b => if b.1 = true then
      (noX (fTk el b.2)).bind fun o => match o.1 with
        | .v od => (compL vs none ds0 g t el ds o.2).bind fun r => .ok (od :: r.1, r.2)
        | .i _ => .stuck
    else compL vs none ds0 g t el ds b.2 := rfl
theorem compL_ok {rt : α → Res Bool} {re : α → Res β} {P : β → Pd} (F : β → OD) (hP : ∀ b od, P b od → od = F b) (tg : TG g w vs) (hl : AllV vs fun v => v < Γ.length) (ht : ∀ a, GT' (setC Γ (w a)) t (rt a)) (he : ∀ a, GV (setC Γ (w a)) (fTk el) (re a) P) (ds0 : List PyData) : ∀ (as : List α) (S : Sg), Out vs S Γ → Ans (compR rt re as) (compL vs none ds0 g t el (as.map en) S) fun ys z => z.1 = ys.map F ∧ Out vs z.2 Γ
  | [], S, s => ⟨([], S), rfl, rfl, s⟩
  | a :: as, S, s => by
    have fs := tg.fst a
    rw [List.map_cons, compL_cons]
    have sw := s.wipe
    rw [tg.go _ _ fun v hv => by rw [sw.1]; exact hl.mem v hv]
    have s1 : Sat (setA (wipeS S vs) (w a)) (setC Γ (w a)) := Out.setA _ (by rw [fs]; exact sw)
    refine (ht a _ s1).noX.bind fun c z ⟨e, s2⟩ => ?_
    rw [e]
    cases c with
    | true =>
      refine (he a _ s2).noX.bind fun b y ⟨s3, od, e3, p⟩ => ?_
      rw [e3]
      have o3 := s3.outC
      rw [fs] at o3
      refine (compL_ok F hP tg hl ht he ds0 as y.2 o3).bind fun bs x ⟨e4, o4⟩ => ⟨_, rfl, ?_, o4⟩
      rw [hP b od p, e4]
      rfl
    | false =>
      have o2 := s2.outC
      rw [fs] at o2
      exact compL_ok F hP tg hl ht he ds0 as z.2 o2
theorem gv_compF {rt : α → Res Bool} {re : α → Res β} {P : β → Pd} (F : β → OD) (hP : ∀ b od, P b od → od = F b) (hs : TI Γ src rs) (tg : TG g w vs) (hl : AllV vs fun v => v < Γ.length) (hf : FrC Γ vs) (ht : ∀ a, GT' (setC Γ (w a)) t (rt a)) (he : ∀ a, GV (setC Γ (w a)) (fTk el) (re a) P) : GV Γ (fComp vs src g t el) (rs.bind fun xs => compG xs rt re) (fun ys od => od = .l (ys.map F)) := fun S s => by
  rw [fComp_ap]
  refine (hs S s).bind fun xs z ⟨e, s1⟩ => ?_
  rw [e]
  dsimp only
  rw [hf.ok s1, Bool.true_and, List.length_map]
  refine guard_ans fun _ => ?_
  exact (compL_ok F hP tg hl ht he (xs.map en) xs z.2 (s1.out vs)).bindR fun ys y ⟨e1, o1⟩ => ⟨_, rfl, o1.rest s1, _, rfl, by rw [e1]⟩
theorem gv_comp [En β] {rt : α → Res Bool} {re : α → Res β} (hs : TI Γ src rs) (tg : TG g w vs) (hl : AllV vs fun v => v < Γ.length) (hf : FrC Γ vs) (ht : ∀ a, GT' (setC Γ (w a)) t (rt a)) (he : ∀ a, GV (setC Γ (w a)) (fTk el) (re a) fr) : GV Γ (fComp vs src g t el) (rs.bind fun xs => compG xs rt re) ow := (gv_compF (fun b => .f (en b)) (fun b od h => h) hs tg hl hf ht he).wk fun ys od h => by
  rw [h]
  show OD.l _ = OD.l _
  rw [List.map_map]
  rfl
theorem gv_compO [En β] {rt : α → Res Bool} {re : α → Res (List β)} (hs : TI Γ src rs) (tg : TG g w vs) (hl : AllV vs fun v => v < Γ.length) (hf : FrC Γ vs) (ht : ∀ a, GT' (setC Γ (w a)) t (rt a)) (he : ∀ a, GV (setC Γ (w a)) (fTk el) (re a) ow) : GV Γ (fComp vs src g t el) (rs.bind fun xs => compG xs rt re) oo := gv_compF (fun (b : List β) => .l ((b.map en).map .f)) (fun b od h => h) hs tg hl hf ht he
theorem compS_ok [En β] {Γl : σ → Cn} {ct : δ → Bool} {rt : α → σ → Res δ} {Γt : α → σ → δ → Cn} {re : α → σ → δ → Res ε} {v : ε → β} {nx : α → σ → δ → ε → σ} {sk : α → σ → δ → σ} {Γ2 : α → σ → δ → ε → Cn} (tg : TG g w vs) (hl : ∀ x, AllV vs fun v => v < (Γl x).length) (ht : ∀ a x, IT (setC (Γl x) (w a)) t (rt a x) ct (Γt a x)) (he : ∀ a x d, IE (Γt a x d) (fTk el) (re a x d) (fun e => fr (v e)) (Γ2 a x d)) (h1 : ∀ a x d e, Le (Γ2 a x d e) (setC (Γl (nx a x d e)) (w a))) (h2 : ∀ a x d, Le (Γt a x d) (setC (Γl (sk a x d)) (w a))) (ds0 : List PyData) : ∀ (as : List α) (x : σ) (S : Sg), Out vs S (Γl x) → Ans (compSR (fun a x => (noR (rt a x)).bind fun d => if ct d = true then (noR (re a x d)).bind fun e => .ok (some (v e), nx a x d e) else .ok (none, sk a x d)) as x) (compL vs none ds0 g t el (as.map en) S) fun ys z => z.1 = (ys.1.map en).map .f ∧ Out vs z.2 (Γl ys.2)
  | [], x, S, s => ⟨([], S), rfl, rfl, s⟩
  | a :: as, x, S, s => by
    have fs := tg.fst a
    rw [List.map_cons, compL_cons]
    have sw := s.wipe
    rw [tg.go _ _ fun v hv => by rw [sw.1]; exact (hl x).mem v hv]
    have s1 : Sat (setA (wipeS S vs) (w a)) (setC (Γl x) (w a)) := Out.setA _ (by rw [fs]; exact sw)
    have q := (ht a x _ s1).noX
    show Ans ((noR ((noR (rt a x)).bind _)).bind _) ((noX (t (setA (wipeS S vs) (w a)))).bind _) _
    cases hr : noR (rt a x) with
    | exc e =>
      cases hq : rt a x <;> rw [hq] at hr <;> cases hr
    | stuck => trivial
    | ok d =>
      rw [hr] at q
      obtain ⟨z, e1, e, s2⟩ := q
      rw [e1]
      show Ans ((noR (if ct d = true then _ else _)).bind _) (if z.1 = true then _ else _) _
      rw [e]
      cases hc : ct d with
      | true =>
        rw [if_pos rfl, if_pos rfl]
        have q2 := (he a x d _ s2).noX
        cases hr2 : noR (re a x d) with
        | exc e => cases hq : re a x d <;> rw [hq] at hr2 <;> cases hr2
        | stuck => trivial
        | ok b =>
          rw [hr2] at q2
          obtain ⟨y, e2, s3, od, e3, p⟩ := q2
          rw [e2]
          show Ans ((compSR _ as (nx a x d b)).bind _) (match y.1 with
            | .v od => (compL vs none ds0 g t el (as.map en) y.2).bind fun r => .ok (od :: r.1, r.2)
            | .i _ => .stuck) _
          rw [e3]
          have o3 := ((h1 a x d b).sat s3).outC
          rw [fs] at o3
          refine (compS_ok tg hl ht he h1 h2 ds0 as (nx a x d b) y.2 o3).bind fun bs u ⟨e4, o4⟩ => ⟨_, rfl, ?_, o4⟩
          rw [show od = _ from p, e4]
          rfl
      | false =>
        have o2 := ((h2 a x d).sat s2).outC
        rw [fs] at o2
        have q3 := compS_ok tg hl ht he h1 h2 ds0 as (sk a x d) z.2 o2
        rw [if_neg Bool.false_ne_true, if_neg Bool.false_ne_true]
        exact q3.bindL fun r z h => ⟨_, rfl, h⟩
theorem gi_comp [En β] {Γl : σ → Cn} (x0 : σ) {ct : δ → Bool} {rt : α → σ → Res δ} {Γt : α → σ → δ → Cn} {re : α → σ → δ → Res ε} {v : ε → β} {nx : α → σ → δ → ε → σ} {sk : α → σ → δ → σ} {Γ2 : α → σ → δ → ε → Cn} (hs : TI Γ src rs) (tg : TG g w vs) (h0 : Le Γ (Γl x0)) (hl : ∀ x, AllV vs fun v => v < (Γl x).length) (hf : FrC Γ vs) (hn : ∀ x, (Γl x).length = (Γl x0).length) (hv : ∀ x, AllV vs fun v => (Γl x)[v]? = (Γl x0)[v]?) (ht : ∀ a x, IT (setC (Γl x) (w a)) t (rt a x) ct (Γt a x)) (he : ∀ a x d, IE (Γt a x d) (fTk el) (re a x d) (fun e => fr (v e)) (Γ2 a x d)) (h1 : ∀ a x d e, Le (Γ2 a x d e) (setC (Γl (nx a x d e)) (w a))) (h2 : ∀ a x d, Le (Γt a x d) (setC (Γl (sk a x d)) (w a))) : IE Γ (fComp vs src g t el) (rs.bind fun xs => compS xs x0 fun a x => (noR (rt a x)).bind fun d => if ct d = true then (noR (re a x d)).bind fun e => .ok (some (v e), nx a x d e) else .ok (none, sk a x d)) (fun r => ow r.1) (fun r => Γl r.2) := fun S s => by
  rw [fComp_ap]
  refine (hs S s).bind fun xs z ⟨e, s1⟩ => ?_
  rw [e]
  dsimp only
  rw [hf.ok s1, Bool.true_and, List.length_map]
  refine guard_ans fun _ => ?_
  have s0 := h0.sat s1
  refine Ans.bindR (Q := fun (ys : List β × σ) (z : List OD × Sg) => z.1 = (ys.1.map en).map .f ∧ Out vs z.2 (Γl ys.2)) (compS_ok tg hl ht he h1 h2 (xs.map en) xs x0 z.2 (s0.out vs)) fun ys y ⟨e1, o1⟩ => ⟨_, rfl, ?_, _, rfl, by rw [e1]; rfl⟩
  have hl2 : y.2.length = z.2.length := by rw [o1.1, s0.len]; exact hn ys.2
  refine ⟨by rw [restS_len]; exact o1.1, fun i p hp o ho => ?_⟩
  rw [restS_get hl2] at ho
  by_cases q : i ∈ vs
  · rw [if_pos q] at ho
    rw [(hv ys.2).mem i q] at hp
    exact s0.at_ i p hp o ho
  · rw [if_neg q] at ho
    exact o1.2 i q p hp o ho
end
end
/-! ### contracts -/
section
variable {β ρ τ : Type}
def endR (r : Res (Ex β ρ)) : Res ρ := r.bind fun o => match o with
  | .rt c => .ok c
  | .nx _ => .stuck
def endU (r : Res (Ex β ρ)) : Res Unit := r.bind fun o => match o with
  | .nx _ => .ok ()
  | .rt _ => .stuck
@[simp] theorem endR_rt (c : ρ) : endR (.ok (.rt c) : Res (Ex β ρ)) = .ok c := rfl
@[simp] theorem endU_nx (c : β) : endU (.ok (.nx c) : Res (Ex β ρ)) = .ok () := rfl
def QP (R : ρ → Pd) : ρ → OD → Sg → Prop := fun c od _ => R c od
def QD (R : ρ → Pd) : ρ × List Int → OD → Sg → Prop := fun c od S => R c.1 od ∧ ∃ od0, S[0]? = some (some od0) ∧ ow c.2 od0
theorem allP_sat : ∀ {Ps : List Pd} {ods : List OD}, AllP Ps ods → ∀ n, Sat (ods.map some ++ List.replicate n none) (Ps.map dv ++ List.replicate n jk)
  | [], [], _, n => by
    refine ⟨by simp, fun i p hp o ho => ?_⟩
    simp only [List.map_nil, List.nil_append, List.getElem?_replicate] at hp ho
    by_cases q : i < n
    · rw [if_pos q] at hp ho
      cases hp; cases ho
      exact fun od e => by cases e
    · rw [if_neg q] at hp
      cases hp
  | P :: Ps, od :: ods, h, n => by
    have ih := allP_sat h.2 n
    refine ⟨congrArg (· + 1) ih.len, fun i p hp o ho => ?_⟩
    cases i with
    | zero => cases hp; cases ho; exact ⟨od, rfl, h.1⟩
    | succ i => exact ih.at_ i p (by simpa using hp) o (by simpa using ho)
  | [], _ :: _, h, _ => h.elim
  | _ :: _, [], h, _ => h.elim
theorem allP_len : ∀ {Ps : List Pd} {ods : List OD}, AllP Ps ods → ods.length = Ps.length
  | [], [], _ => rfl
  | _ :: _, _ :: _, h => congrArg (· + 1) (allP_len h.2)
  | [], _ :: _, h => h.elim
  | _ :: _, [], h => h.elim
theorem tf_ret {N : List Str} {b : Sg → Res Ou} {t : τ → Res (Ex β ρ)} {Ps : τ → List Pd} {R : ρ → Pd} {Γe : β → Cn} (h : ∀ a, SS ((Ps a).map dv ++ List.replicate (N.length - (Ps a).length) jk) b (t a) Γe (QP R)) : TF (semP N b) (fun a => endR (t a)) Ps R := fun a ods ha => by
  unfold semP st0 endR
  rw [allP_len ha]
  refine (h a _ (allP_sat ha _)).bind fun o u hu => ?_
  cases o with
  | nx b => trivial
  | rt c =>
    cases u with
    | nx _ => exact hu.elim
    | rt od S => exact ⟨od, rfl, hu⟩
theorem tf_unit {N : List Str} {b : Sg → Res Ou} {t : τ → Res (Ex β ρ)} {Ps : τ → List Pd} {Q : ρ → OD → Sg → Prop} {Γe : β → Cn} (h : ∀ a, SS ((Ps a).map dv ++ List.replicate (N.length - (Ps a).length) jk) b (t a) Γe Q) : TF (semP N b) (fun a => endU (t a)) Ps (rd : Unit → Pd) := fun a ods ha => by
  unfold semP st0 endU
  rw [allP_len ha]
  refine (h a _ (allP_sat ha _)).bind fun o u hu => ?_
  cases o with
  | rt b => trivial
  | nx c =>
    cases u with
    | rt _ _ => exact hu.elim
    | nx S => exact ⟨_, rfl, .inl rfl⟩
theorem tfd_ret {N : List Str} {b : Sg → Res Ou} {t : List Int → τ → Res (Ex β (ρ × List Int))} {Ps : τ → List Pd} {R : ρ → Pd} {Γe : β → Cn} (h : ∀ d a, SS ((ow d :: Ps a).map dv ++ List.replicate (N.length - (ow d :: Ps a).length) jk) b (t d a) Γe (QD R)) : TFD (semD N b) (fun d a => endR (t d a)) Ps R := fun d a od0 ods h0 ha => by
  have ha' : AllP (ow d :: Ps a) (od0 :: ods) := ⟨h0, ha⟩
  unfold semD st0 endR
  rw [allP_len ha']
  refine (h d a _ (allP_sat ha' _)).bind fun o u hu => ?_
  cases o with
  | nx b => trivial
  | rt c =>
    cases u with
    | nx _ => exact hu.elim
    | rt od S =>
      obtain ⟨q, od1, e, q2⟩ := hu
      show Ans _ ((Res.of (Opd.od S (.i 0))).bind _) _
      rw [od_i, e]
      exact ⟨_, rfl, q, q2⟩
end
end DL
set_option Elab.async false
set_option linter.all false
set_option maxRecDepth 100000
set_option maxHeartbeats 4000000
namespace DL
open PySem PySem.Spec PyProof.Rows L2
open En (en)
section
variable {α β γ δ ε ρ σ τ : Type} {Γ : Cn}
/-! ### sets by their length -/
def nubT {α : Type} [DecidableEq α] : List α → List α
  | [] => []
  | x :: xs => x :: (nubT xs).filter fun y => !decide (x = y)
class StT (α : Type) [En α] : Prop where
  key : ∀ a : α, keyN (en a) = true
  tup : ∀ a : α, (en a).isTuple = true
  dep : ∀ a : α, (en a).depth ≤ 7
instance : StT (Int × Int) := ⟨fun _ => rfl, fun _ => rfl, fun p => by
  show PyData.depth (.tuple [.int p.1, .int p.2]) ≤ 7
  simp [PyData.depth, PyData.depthAll]⟩
instance : StT ((Int × Int) × (Int × Int)) := ⟨fun _ => rfl, fun _ => rfl, fun p => by
  show PyData.depth (.tuple [.tuple [.int p.1.1, .int p.1.2], .tuple [.int p.2.1, .int p.2.2]]) ≤ 7
  simp [PyData.depth, PyData.depthAll]⟩
def lenSet {α : Type} [DecidableEq α] (xs : List α) : Res Int := (guardR (decide (xs.length < 64))).bind fun _ => .ok ((nubT xs).length : Int)
section
variable [En α] [DecidableEq α] [EnEq α] [StT α]
theorem nub_map (xs : List α) : nubD (xs.map en) = (nubT xs).map en := by
  induction xs with
  | nil => rfl
  | cons x xs ih =>
    show en x :: (nubD (xs.map en)).filter (fun y => !PyData.eqv (en x) y) = en x :: ((nubT xs).filter fun y => !decide (x = y)).map en
    rw [ih, List.filter_map]
    congr 3
    funext y
    show (!PyData.eqv (en x) (en y)) = _
    rw [EnEq.eq]
theorem setOk_map (xs : List α) : setOk (xs.map en) = decide (xs.length < 64) := by
  have h1 : keyNs (xs.map en) = true := by
    induction xs with
    | nil => rfl
    | cons x xs ih =>
      show (keyN (en x) && keyNs (xs.map en)) = true
      rw [StT.key, ih]
      rfl
  have h2 : allTup (xs.map en) = true := List.all_eq_true.mpr fun d hd => by
    obtain ⟨a, _, rfl⟩ := List.mem_map.mp hd
    exact StT.tup a
  have h3 : PyData.depthAll (xs.map en) ≤ 7 := depthAll_le fun d hd => by
    obtain ⟨a, _, rfl⟩ := List.mem_map.mp hd
    exact StT.dep a
  unfold setOk
  rw [h1, h2, List.length_map]
  show decide (xs.length < 64 ∧ PyData.depthAll (xs.map en) ≤ 8) = _
  exact decide_eq_decide.mpr ⟨fun h => h.1, fun h => ⟨h, by omega⟩⟩
theorem gv_lenSet {f : FE} {r : Res (List α)} (h : GV Γ (fFz f) r fr) : GV Γ (fLenSet f) (r.bind fun xs => lenSet xs) rd := fun S s => by
  rw [fLenSet_ap]
  refine (h S s).bind fun xs z ⟨s1, od, e, p⟩ => ?_
  rw [e, show od = _ from p]
  show Ans _ ((guardR (setOk (xs.map en))).bind _) _
  rw [setOk_map]
  refine guard_ans fun _ => ⟨_, rfl, s1, _, rfl, ?_⟩
  rw [nub_map, List.length_map]
  exact .inl rfl
theorem gv_lenSetT {f : FE} {r : Res (Tp α)} (h : GV Γ (fFz f) r fr) : GV Γ (fLenSet f) (r.bind fun xs => lenSet xs.l) rd := fun S s => by
  rw [fLenSet_ap]
  refine (h S s).bind fun xs z ⟨s1, od, e, p⟩ => ?_
  rw [e, show od = _ from p]
  show Ans _ ((guardR (setOk (xs.l.map en))).bind _) _
  rw [setOk_map]
  refine guard_ans fun _ => ⟨_, rfl, s1, _, rfl, ?_⟩
  rw [nub_map, List.length_map]
  exact .inl rfl
end
/-! ### lists of two, nothing is None, slices of what draws -/
theorem gv_lst2 [En α] {f g : FE} {r r' : Res α} (h : GV Γ (fTk f) r fr) (h' : GV Γ (fTk g) r' fr) : GV Γ (fLst (fCons (fTk f) (fCons (fTk g) fNil))) (r.bind fun a => r'.bind fun b => .ok [a, b]) ow := fun S s => by
  rw [fLst_ap, fCons_ap]
  show Ans _ (((fTk f S).bind fun a => (fCons (fTk g) fNil a.2).bind fun b => .ok (a.1 :: b.1, b.2)).bind _) _
  rw [Res.bind_assoc]
  refine (h S s).bind fun a z ⟨s1, od, e, p⟩ => ?_
  show Ans _ ((((fTk g z.2).bind fun a => .ok ([a.1], a.2)).bind _).bind _) _
  rw [Res.bind_assoc, Res.bind_assoc]
  refine (h' z.2 s1).bind fun b y ⟨s2, od', e', p'⟩ => ?_
  show Ans _ ((Res.of (valsO [z.1, y.1])).bind _) _
  rw [e, e', show od = _ from p, show od' = _ from p']
  exact ⟨_, rfl, s2, _, rfl, rfl⟩
theorem nn_isNone [En α] [NN α] {a : α} {od : OD} (h : rd a od) : od.isNone = false := by
  have := NN.nn a
  rcases h with rfl | ⟨_, _, rfl⟩
  · show OD.isNone (.f (en a)) = false
    cases e : en a <;> first | rfl | exact absurd e this
  · rfl
theorem gv_isNn [En α] [NN α] {f : FE} {r : Res α} (h : GE Γ f r rd) : GV Γ (fIsN false f) (r.bind fun _ => .ok false) rd := fun S s => by
  rw [fIsN_ap]
  refine (h S s).bind fun a z ⟨s1, q⟩ => ?_
  obtain ⟨od, e, p⟩ := q z.2 s1
  rw [e]
  refine ⟨_, rfl, s1, _, rfl, ?_⟩
  rw [nn_isNone p]
  exact .inl rfl
theorem gv_notNn [En α] [NN α] {f : FE} {r : Res α} (h : GE Γ f r rd) : GV Γ (fIsN true f) (r.bind fun _ => .ok true) rd := fun S s => by
  rw [fIsN_ap]
  refine (h S s).bind fun a z ⟨s1, q⟩ => ?_
  obtain ⟨od, e, p⟩ := q z.2 s1
  rw [e]
  refine ⟨_, rfl, s1, _, rfl, ?_⟩
  rw [nn_isNone p]
  exact .inl rfl
theorem ie_slice [En α] {v : δ → List α} {Γ' : δ → Cn} {f : FE} {l h : Sg → Res (Option Int × Sg)} {r : Res δ} {rl rh : δ → Res (Option Int)} (h0 : IE Γ f r (fun b => rd (v b)) Γ') (h1 : ∀ b, GO (Γ' b) l (rl b)) (h2 : ∀ b, GO (Γ' b) h (rh b)) : IE Γ (fSlice f l h) (r.bind fun b => (rl b).bind fun lo => (rh b).bind fun hi => .ok (cutD (v b) lo hi, b)) (fun p => ow p.1) (fun p => Γ' p.2) := fun S s => by
  refine (h0 S s).bind fun b z ⟨s1, od, e, p⟩ => (h1 b z.2 s1).bind fun lo y ⟨e1, s2⟩ => (h2 b y.2 s2).bind fun hi x ⟨e2, s3⟩ => ?_
  have key : sliceK z.1 y.1 x.1 x.2 = (Res.of od.kid).bind fun ds => .ok (.v (.l ((cutD ds y.1 x.1).map .f)), x.2) := by
    unfold sliceK
    rw [e]
    rcases p with rfl | ⟨_, _, rfl⟩ <;> rfl
  rw [key, Rd.kid p, e1, e2]
  refine ⟨_, rfl, s3, _, rfl, ?_⟩
  show OD.l _ = OD.l _
  rw [cutD_map]
/-! ### the same, otherwise said -/
theorem IE.cast {f : FE} {r r' : Res β} {P : β → Pd} {Γ' : β → Cn} (h : IE Γ f r P Γ') (e : r = r') : IE Γ f r' P Γ' := e ▸ h
theorem GE.cast {f : FE} {r r' : Res β} {P : β → Pd} (h : GE Γ f r P) (e : r = r') : GE Γ f r' P := e ▸ h
theorem IT.cast {t : Sg → Res (Bool × Sg)} {r r' : Res β} {c : β → Bool} {Γ' : β → Cn} (h : IT Γ t r c Γ') (e : r = r') : IT Γ t r' c Γ' := e ▸ h
theorem TI.cast [En α] {src : Sg → Res (Src × Sg)} {r r' : Res (List α)} (h : TI Γ src r) (e : r = r') : TI Γ src r' := e ▸ h
@[simp] theorem of_sub (a b : Int) : Res.of (pSub a b) = .ok (a - b) := rfl
/-! ### sources -/
theorem ti_pair [En α] {f : FE} {r : Res (α × α)} (h : GV Γ (fFz f) r fr) : TI Γ (iFz f) (r.bind fun p => .ok [p.1, p.2]) := fun S s => by
  rw [iFz_ap]
  refine (h S s).bind fun a z ⟨s1, od, e, p⟩ => ?_
  rw [e, show od = _ from p]
  exact ⟨_, rfl, rfl, s1⟩
def TII (Γ : Cn) [En α] (src : Sg → Res (Src × Sg)) (r : Res (List α × δ)) (Γ' : δ → Cn) : Prop := ∀ S, Sat S Γ → Ans r (src S) fun xs z => z.1 = ⟨xs.1.map en, none⟩ ∧ Sat z.2 (Γ' xs.2)
theorem TII.cast [En α] {src : Sg → Res (Src × Sg)} {r r' : Res (List α × δ)} {Γ' : δ → Cn} (h : TII Γ src r Γ') (e : r = r') : TII Γ src r' Γ' := e ▸ h
theorem tii_rng1 {v : δ → Int} {Γ' : δ → Cn} {f : FE} {r : Res δ} (h : IE Γ f r (fun b => rd (v b)) Γ') : TII Γ (iRng1 f) (r.bind fun b => (rngR (v b)).bind fun xs => .ok (xs, b)) Γ' := fun S s => by
  rw [iRng1_ap]
  refine (h S s).bind fun b z ⟨s1, od, e, p⟩ => ?_
  rw [e, dat_of (S := z.2) (x := .v od) rfl p]
  show Ans _ ((guardR (decide (-1000000 ≤ v b ∧ v b ≤ 1000000))).bind _) _
  unfold rngR
  rw [Res.bind_assoc]
  refine guard_ans fun _ => ⟨_, rfl, ?_, s1⟩
  rw [rngD_rng]
section
variable {Γe : β → Cn} {Q : ρ → OD → Sg → Prop} {f : FE} {rest st : Sg → Res Ou} {rr : Res (Ex β ρ)}
theorem ss_forI [En α] {src : Sg → Res (Src × Sg)} {g : GT} {w : α → List (Nat × PyData)} {vs : List Nat} {body : Sg → Res Ou} {r : Res (List α × δ)} {Γ' : δ → Cn} (b : α → σ → Res (Ex σ ρ)) (Γl : σ → Cn) (x0 : δ → σ) {k : σ → Res (Ex β ρ)} (hs : TII Γ src r Γ') (tg : TG g w vs) (hl : ∀ x, AllV vs fun v => v < (Γl x).length) (h0 : ∀ d, Le (Γ' d) (Γl (x0 d))) (hb : ∀ a x, SS (setC (Γl x) (w a)) body (b a x) Γl Q) (hk : ∀ x, SS (Γl x) rest (k x) Γe Q) : SS Γ (fSeq (fFor src g body) rest) (r.bind fun xs => (forR b xs.1 (x0 xs.2)).bindE k) Γe Q := fun S s => by
  rw [fSeq_ap]
  show Ans _ ((fFor src g body S).bind _) _
  rw [fFor_ap, Res.bind_assoc]
  refine (hs S s).bind fun xs z ⟨e, s1⟩ => ?_
  rw [e]
  exact fin_bind (forL_ok tg hl hb xs.1 (x0 xs.2) z.2 ((h0 xs.2).sat s1)) fun j S' s' => hk j S' s'
/-- a store of what was drawn -/
theorem ss_stI [En α] {n : Nat} {r : Res δ} {v : δ → α} {xs : δ → List α} {Γ1 : δ → Cn} {fe fi : FE} {ri : δ → Res Int} {k : δ → List α → Res (Ex β ρ)} (hx0 : ∃ xs : List α, Γ[n]? = some (dv (ow xs))) (hx : ∀ b, (Γ1 b)[n]? = some (dv (ow (xs b)))) (h : IE Γ (fTk fe) r (fun b => fr (v b)) Γ1) (hi : ∀ b, GE (Γ1 b) fi (ri b) rd) (hk : ∀ b ys, SS ((Γ1 b).set n (dv (ow ys))) rest (k b ys) Γe Q) : SS Γ (fSeq (fSt n fe fi) rest) (r.bind fun b => (ri b).bind fun i => (setI (xs b) i (v b)).bind (k b)) Γe Q := fun S s => by
  rw [fSeq_ap]
  show Ans _ ((fSt n fe fi S).bind _) _
  rw [fSt_ap]
  show Ans _ (((fTk fe S).bind _).bind _) _
  rw [Res.bind_assoc]
  refine (h S s).bind fun b z ⟨s1, od, e, p⟩ => ?_
  rw [e]
  show Ans _ (((fV n z.2).bind fun _ => (fi z.2).bind fun i => (storeK n i.1 od i.2).bind fun s => .ok (Ou.nx s)).bind _) _
  rw [fV_run s1 (hx b)]
  show Ans _ (((fi z.2).bind _).bind _) _
  rw [Res.bind_assoc]
  refine (hi b z.2 s1).bind fun i y ⟨s2, q⟩ => ?_
  obtain ⟨od2, e2, p2⟩ := q y.2 s2
  obtain ⟨od3, e3, p3⟩ := s2.get (hx b)
  have key : storeK n y.1 od y.2 = (Res.of (ixN (((xs b).map en).map OD.f).length i)).bind fun j => .ok (y.2.set n (some (.l ((((xs b).map en).map OD.f).set j od)))) := by
    unfold storeK
    rw [e3, show od3 = _ from p3]
    dsimp only
    rw [dat_of e2 p2]
    rfl
  rw [key, List.length_map, List.length_map]
  unfold setI
  cases ixN (xs b).length i with
  | none => trivial
  | some j =>
    refine hk b _ _ (s2.set n ⟨_, rfl, ?_⟩)
    rw [show od = _ from p, ← List.map_set, ← List.map_set]
    rfl
end
end
end DL
set_option Elab.async false
set_option linter.all false
set_option maxRecDepth 100000
set_option maxHeartbeats 4000000
namespace DL
open PySem PySem.Spec PyProof.Rows L2
open En (en)

/-! is_between -/
noncomputable def tb_is_between (part : Int) (low : Int) (high : Int) : Res (Ex Unit Bool) :=
  (Res.ok (((PyData.isInt (en part)) && ((!(PyData.isBool (en part))) && (decide (low ≤ part) && decide (part ≤ high))))) : Res Bool).bind fun b1 => Res.ok (Ex.rt b1)
noncomputable def t_is_between (part : Int) (low : Int) (high : Int) : Res Bool := endR (tb_is_between part low high)
/-! is_tie -/
noncomputable def tb_is_tie (tie : (Int × Int)) (many : Int) : Res (Ex Unit Bool) :=
  (Res.ok (((!(PyData.isTuple (en tie))) || (!decide ((2 : Int) = (2 : Int))))) : Res Bool).bind fun d2 => if d2 = true then (Res.ok (false) : Res Bool).bind fun b3 => Res.ok (Ex.rt b3) else (((t_is_between tie.1 (0 : Int) (many - (1 : Int)))).bind fun r5 => (if r5 = true then ((t_is_between tie.2 (0 : Int) (many - (1 : Int)))).bind fun r4 => (if r4 = true then Res.ok ((!decide (tie.1 = tie.2))) else Res.ok false) else Res.ok false) : Res Bool).bind fun b6 => Res.ok (Ex.rt b6)
noncomputable def t_is_tie (tie : (Int × Int)) (many : Int) : Res Bool := endR (tb_is_tie tie many)
/-! need_net -/
noncomputable def tb_need_net (net : (Int × (Tp (Int × Int)))) : Res (Ex Unit Unit) :=
  ((if (!(PyData.isTuple (en net))) = true then Res.ok true else (if (!decide ((2 : Int) = (2 : Int))) = true then Res.ok true else ((t_is_between net.1 (2 : Int) (8 : Int))).bind fun r8 => Res.ok ((!r8)))) : Res Bool).bind fun d7 => if d7 = true then Res.stuck else (Res.ok (net) : Res (Int × (Tp (Int × Int)))).bind fun p9 => ((if (!(PyData.isTuple (en p9.2))) = true then Res.ok true else (if (decide ((24 : Int) < ((p9.2.l.length : Nat) : Int))) = true then Res.ok true else ((compG p9.2.l (fun (x11 : (Int × Int)) => ((t_is_tie x11 p9.1)).bind fun r12 => Res.ok ((!r12))) (fun (x11 : (Int × Int)) => Res.ok (x11)))).bind fun r13 => Res.ok ((!decide (r13 = ([] : (List (Int × Int)))))))) : Res Bool).bind fun d10 => if d10 = true then Res.stuck else (((lenSet p9.2.l)).bind fun r16 => Res.ok ((decide (r16 < ((p9.2.l.length : Nat) : Int)))) : Res Bool).bind fun d15 => if d15 = true then Res.stuck else Res.ok (Ex.nx ())
noncomputable def t_need_net (net : (Int × (Tp (Int × Int)))) : Res Unit := endU (tb_need_net net)
/-! need_ties -/
noncomputable def tb_need_ties (net : (Int × (Tp (Int × Int)))) (fallen : (List Int)) (root : Int) : Res (Ex Unit Unit) :=
  (((compG fallen (fun (x21 : Int) => ((t_is_between x21 (0 : Int) (((net.2.l.length : Nat) : Int) - (1 : Int)))).bind fun r22 => Res.ok ((!r22))) (fun (x21 : Int) => Res.ok (x21)))).bind fun r23 => Res.ok ((!decide (r23 = ([] : (List Int))))) : Res Bool).bind fun d20 => if d20 = true then Res.stuck else (((t_is_between root (0 : Int) (net.1 - (1 : Int)))).bind fun r25 => Res.ok ((!r25)) : Res Bool).bind fun d24 => if d24 = true then Res.stuck else Res.ok (Ex.nx ())
noncomputable def t_need_ties (net : (Int × (Tp (Int × Int)))) (fallen : (List Int)) (root : Int) : Res Unit := endU (tb_need_ties net fallen root)
/-! usable -/
noncomputable def tb_usable (net : (Int × (Tp (Int × Int)))) (fallen : (List Int)) : Res (Ex Unit (List Int)) :=
  (Res.ok (net.2) : Res (Tp (Int × Int))).bind fun ties_26 => (((rngR ((ties_26.l.length : Nat) : Int))).bind fun r28 => (compG r28 (fun (x27 : Int) => Res.ok ((!memL x27 fallen))) (fun (x27 : Int) => Res.ok (x27))) : Res (List Int)).bind fun stand_29 => ((compG stand_29 (fun (x30 : Int) => Res.ok (true)) (fun (x30 : Int) => (getI ties_26.l x30))) : Res (List (Int × Int))).bind fun pairs_31 => ((compG stand_29 (fun (x32 : Int) => ((getI ties_26.l x32)).bind fun r33 => ((getI ties_26.l x32)).bind fun r34 => Res.ok ((memL (r33.2, r34.1) pairs_31))) (fun (x32 : Int) => Res.ok (x32))) : Res (List Int)).bind fun b35 => Res.ok (Ex.rt b35)
noncomputable def t_usable (net : (Int × (Tp (Int × Int)))) (fallen : (List Int)) : Res (List Int) := endR (tb_usable net fallen)
/-! levels -/
noncomputable def tb_levels (net : (Int × (Tp (Int × Int)))) (some' : (List Int)) (root : Int) : Res (Ex Unit (Dc Int Int)) :=
  (Res.ok ([(root, (0 : Int))]) : Res (Dc Int Int)).bind fun found_36 => (Res.ok ([root]) : Res (List Int)).bind fun waiting_37 => (whileR 1000000 (fun (s38 : (Dc Int Int) × (List Int)) => (Res.ok ((!decide (s38.2 = ([] : (List Int))))) : Res Bool)) (fun (s38 : (Dc Int Int) × (List Int)) => ((((popI s38.2 (0 : Int))).bind fun r39 => Res.ok ((r39, (0 : Int))) : Res ((Int × (List Int)) × Int)).bind fun here_40 => (Res.ok (some') : Res (List Int)).bind fun xs57 => (forR (fun (number_41 : Int) (s42 : (Dc Int Int) × (List Int)) => (((getI net.2.l number_41) : Res (Int × Int)).bind fun p43 => ((Res.ok (((decide (p43.1 = here_40.1.1)) && (!(dg s42.1 p43.2).isSome))) : Res Bool).bind fun d44 => if d44 = true then ((((Res.of (dg s42.1 here_40.1.1))).bind fun r51 => Res.ok ((r51 + (1 : Int))) : Res Int).bind fun a54 => (Res.ok (p43.2) : Res Int).bind fun j55 => (putD s42.1 j55 a54).bind fun found_52 => ((appL s42.2 p43.2) : Res (List Int)).bind fun b53 => Res.ok (Ex.nx (found_52, b53)) : Res (Ex ((Dc Int Int) × (List Int)) (Dc Int Int))) else (Res.ok (Ex.nx (s42.1, s42.2)) : Res (Ex ((Dc Int Int) × (List Int)) (Dc Int Int)))).bindE fun s50 => Res.ok (Ex.nx (s50.1, s50.2)) : Res (Ex ((Dc Int Int) × (List Int)) (Dc Int Int)))) xs57 (s38.1, here_40.1.2)).bindE fun s56 => Res.ok (Ex.nx (s56.1, s56.2)) : Res (Ex ((Dc Int Int) × (List Int)) (Dc Int Int)))) (found_36, waiting_37)).bindE fun s58 => Res.ok (Ex.rt (s58.1))
noncomputable def t_levels (net : (Int × (Tp (Int × Int)))) (some' : (List Int)) (root : Int) : Res (Dc Int Int) := endR (tb_levels net some' root)
/-! is_up -/
noncomputable def tb_is_up (net : (Int × (Tp (Int × Int)))) (far : (Dc Int Int)) (number : Int) : Res (Ex Unit Bool) :=
  ((getI net.2.l number) : Res (Int × Int)).bind fun p59 => (((Res.of (dg far p59.2))).bind fun r60 => ((Res.of (dg far p59.1))).bind fun r61 => Res.ok ((lt2 (r60, p59.2) (r61, p59.1))) : Res Bool).bind fun b62 => Res.ok (Ex.rt b62)
noncomputable def t_is_up (net : (Int × (Tp (Int × Int)))) (far : (Dc Int Int)) (number : Int) : Res Bool := endR (tb_is_up net far number)
/-! reached -/
noncomputable def tb_reached (net : (Int × (Tp (Int × Int)))) (some' : (List Int)) (goal : Int) (known : (Dc Int Int)) : Res (Ex Unit (Dc Int Int)) :=
  (Res.ok (known) : Res (Dc Int Int)).bind fun found_63 => (Res.ok ((0 : Int)) : Res Int).bind fun a87 => (Res.ok (goal) : Res Int).bind fun j88 => (putD found_63 j88 a87).bind fun found_64 => (Res.ok (true) : Res Bool).bind fun changed_65 => (whileR 1000000 (fun (s66 : (Dc Int Int) × Bool) => (Res.ok (s66.2) : Res Bool)) (fun (s66 : (Dc Int Int) × Bool) => ((Res.ok (false) : Res Bool).bind fun changed_67 => (Res.ok (some') : Res (List Int)).bind fun xs85 => (forR (fun (number_68 : Int) (s69 : (Dc Int Int) × Bool) => (((getI net.2.l number_68) : Res (Int × Int)).bind fun p70 => (((if ((dg s69.1 p70.2).isSome) = true then (if (!(dg known p70.1).isSome) = true then ((Res.of (dg s69.1 p70.2))).bind fun r72 => Res.ok ((decide ((r72 + (1 : Int)) < ((dg s69.1 p70.1).getD (99 : Int))))) else Res.ok false) else Res.ok false) : Res Bool).bind fun d71 => if d71 = true then ((((Res.of (dg s69.1 p70.2))).bind fun r79 => Res.ok ((r79 + (1 : Int))) : Res Int).bind fun a82 => (Res.ok (p70.1) : Res Int).bind fun j83 => (putD s69.1 j83 a82).bind fun found_80 => (Res.ok (true) : Res Bool).bind fun changed_81 => Res.ok (Ex.nx (found_80, changed_81)) : Res (Ex ((Dc Int Int) × Bool) (Dc Int Int))) else (Res.ok (Ex.nx (s69.1, s69.2)) : Res (Ex ((Dc Int Int) × Bool) (Dc Int Int)))).bindE fun s78 => Res.ok (Ex.nx (s78.1, s78.2)) : Res (Ex ((Dc Int Int) × Bool) (Dc Int Int)))) xs85 (s66.1, changed_67)).bindE fun s84 => Res.ok (Ex.nx (s84.1, s84.2)) : Res (Ex ((Dc Int Int) × Bool) (Dc Int Int)))) (found_64, changed_65)).bindE fun s86 => Res.ok (Ex.rt (s86.1))
noncomputable def t_reached (net : (Int × (Tp (Int × Int)))) (some' : (List Int)) (goal : Int) (known : (Dc Int Int)) : Res (Dc Int Int) := endR (tb_reached net some' goal known)
/-! step -/
noncomputable def tb_step (net : (Int × (Tp (Int × Int)))) (some' : (List Int)) (far : (Dc Int Int)) (here : Int) : Res (Ex Unit Int) :=
  (Res.ok (some') : Res (List Int)).bind fun xs97 => (forR (fun (number_89 : Int) (s90 : Unit) => (((getI net.2.l number_89) : Res (Int × Int)).bind fun p91 => ((if (decide (p91.1 = here)) = true then (if ((dg far p91.2).isSome) = true then ((Res.of (dg far p91.2))).bind fun r93 => ((Res.of (dg far here))).bind fun r94 => Res.ok ((decide ((r93 + (1 : Int)) = r94))) else Res.ok false) else Res.ok false) : Res Bool).bind fun d92 => if d92 = true then Res.ok (Ex.rt (number_89)) else Res.ok (Ex.nx ()) : Res (Ex (Unit) Int))) xs97 ()).bindE fun s95 => (Res.ok ((-1 : Int)) : Res Int).bind fun b96 => Res.ok (Ex.rt b96)
noncomputable def t_step (net : (Int × (Tp (Int × Int)))) (some' : (List Int)) (far : (Dc Int Int)) (here : Int) : Res Int := endR (tb_step net some' far here)
/-! bent -/
noncomputable def tb_bent (net : (Int × (Tp (Int × Int)))) (fallen : (List Int)) (root : Int) : Res (Ex Unit (Tp (Tp Int))) :=
  ((t_need_net net) : Res Unit).bind fun b98 => ((t_need_ties net fallen root) : Res Unit).bind fun b99 => ((t_usable net fallen) : Res (List Int)).bind fun some'_100 => ((t_levels net some'_100 root) : Res (Dc Int Int)).bind fun near_101 => ((compG some'_100 (fun (x102 : Int) => ((getI net.2.l x102)).bind fun r103 => Res.ok (((dg near_101 r103.1).isSome))) (fun (x102 : Int) => Res.ok (x102))) : Res (List Int)).bind fun some'_104 => ((compG some'_104 (fun (x105 : Int) => (t_is_up net near_101 x105)) (fun (x105 : Int) => Res.ok (x105))) : Res (List Int)).bind fun ups_106 => ((compG some'_104 (fun (x107 : Int) => Res.ok ((!memL x107 ups_106))) (fun (x107 : Int) => Res.ok (x107))) : Res (List Int)).bind fun downs_108 => (((rngR net.1)).bind fun r110 => (compG r110 (fun (x109 : Int) => Res.ok (true)) (fun (x109 : Int) => (mulL [(-1 : Int)] net.1))) : Res (List (List Int))).bind fun rows_111 => ((sortKeys near_101) : Res (List Int)).bind fun xs136 => (forR (fun (goal_112 : Int) (s113 : (List (List Int))) => (((t_reached net downs_108 goal_112 ([] : (Dc Int Int))) : Res (Dc Int Int)).bind fun down_114 => ((t_reached net ups_106 goal_112 down_114) : Res (Dc Int Int)).bind fun whole_115 => ((sortKeys near_101) : Res (List Int)).bind fun xs131 => (forR (fun (here_116 : Int) (s117 : (List (List Int))) => (((Res.ok (((!decide (here_116 = goal_112)) && ((dg whole_115 here_116).isSome))) : Res Bool).bind fun d118 => if d118 = true then ((((if ((dg down_114 here_116).isSome) = true then Res.ok (downs_108) else Res.ok (ups_106))).bind fun r125 => ((if ((dg down_114 here_116).isSome) = true then Res.ok (down_114) else Res.ok (whole_115))).bind fun r126 => (t_step net r125 r126 here_116) : Res Int).bind fun a128 => (Res.ok (here_116) : Res Int).bind fun j129 => (setII s117 j129 goal_112 a128).bind fun rows_127 => Res.ok (Ex.nx rows_127) : Res (Ex ((List (List Int))) (Tp (Tp Int)))) else (Res.ok (Ex.nx s117) : Res (Ex ((List (List Int))) (Tp (Tp Int))))).bindE fun s124 => Res.ok (Ex.nx s124) : Res (Ex ((List (List Int))) (Tp (Tp Int))))) xs131 s113).bindE fun s130 => Res.ok (Ex.nx s130) : Res (Ex ((List (List Int))) (Tp (Tp Int))))) xs136 rows_111).bindE fun s132 => (((compG s132 (fun (x133 : (List Int)) => Res.ok (true)) (fun (x133 : (List Int)) => Res.ok ((Tp.mk x133))))).bind fun r134 => Res.ok ((Tp.mk r134)) : Res (Tp (Tp Int))).bind fun b135 => Res.ok (Ex.rt b135)
noncomputable def t_bent (net : (Int × (Tp (Int × Int)))) (fallen : (List Int)) (root : Int) : Res (Tp (Tp Int)) := endR (tb_bent net fallen root)
/-! _law_dice -/
noncomputable def tb__law_dice (script : (List Int)) (k : Int) : Res (Ex Unit (List Int)) :=
  (Res.ok (k) : Res Int).bind fun found_137 => (Res.ok (script) : Res (List Int)).bind fun xs147 => (forR (fun (cell_138 : Int) (s139 : Int) => ((((mulI s139 (31 : Int))).bind fun r140 => (Res.of (pMod (r140 + (if cell_138 < 0 then -cell_138 else cell_138)) (2147483647 : Int))) : Res Int).bind fun found_141 => Res.ok (Ex.nx found_141) : Res (Ex (Int) (List Int)))) xs147 found_137).bindE fun s142 => (((compG script (fun (x143 : Int) => ((Res.of (pPow (10 : Int) (18 : Int)))).bind fun r144 => Res.ok ((decide (r144 ≤ x143)))) (fun (x143 : Int) => Res.ok (x143)))).bind fun r145 => (addL [s142, (0 : Int)] r145) : Res (List Int)).bind fun b146 => Res.ok (Ex.rt b146)
noncomputable def t__law_dice (script : (List Int)) (k : Int) : Res (List Int) := endR (tb__law_dice script k)
/-! _law_off -/
noncomputable def tb__law_off (d : List Int) (most : Int) : Res (Ex Unit (Int × List Int)) :=
  ((((getI d (1 : Int))).bind fun r149 => (if (decide (r149 = (0 : Int))) = true then Res.ok ((decide ((2 : Int) < ((d.length : Nat) : Int)))) else Res.ok false) : Res Bool).bind fun d148 => if d148 = true then ((((popI d (2 : Int))).bind fun r155 => Res.ok ((r155, (2 : Int))) : Res ((Int × (List Int)) × Int)).bind fun b156 => (Res.ok ((1 : Int)) : Res Int).bind fun j158 => (setI b156.1.2 j158 b156.1.1).bind fun d_157 => Res.ok (Ex.nx d_157) : Res (Ex ((List Int)) (Int × List Int))) else (Res.ok (Ex.nx d) : Res (Ex ((List Int)) (Int × List Int)))).bindE fun s154 => (((getI s154 (1 : Int))).bind fun r161 => Res.ok ((decide ((0 : Int) < r161))) : Res Bool).bind fun d160 => if d160 = true then (((getI s154 (1 : Int))).bind fun r162 => (Res.of (pMod r162 most)) : Res Int).bind fun found_163 => (((getI s154 (1 : Int))).bind fun r164 => (Res.of (pDiv r164 most)) : Res Int).bind fun a166 => (Res.ok ((1 : Int)) : Res Int).bind fun j167 => (setI s154 j167 a166).bind fun d_165 => Res.ok (Ex.rt (found_163, d_165)) else (((getI s154 (0 : Int))).bind fun r168 => ((mulI r168 (48271 : Int))).bind fun r169 => (Res.of (pMod (r169 + (11 : Int)) (2147483647 : Int))) : Res Int).bind fun a174 => (Res.ok ((0 : Int)) : Res Int).bind fun j175 => (setI s154 j175 a174).bind fun d_170 => (((getI d_170 (0 : Int))).bind fun r171 => ((Res.of (pDiv r171 (64 : Int)))).bind fun r172 => (Res.of (pMod r172 most)) : Res Int).bind fun b173 => Res.ok (Ex.rt (b173, d_170))
noncomputable def t__law_off (d : List Int) (most : Int) : Res (Int × List Int) := endR (tb__law_off d most)
/-! _law_mixed_t -/
noncomputable def tb__law_mixed_t (d : List Int) (row : (List (Int × Int))) : Res (Ex Unit ((List (Int × Int)) × List Int)) :=
  (Res.ok (row) : Res (List (Int × Int))).bind fun left_176 => (Res.ok (([] : (List (Int × Int)))) : Res (List (Int × Int))).bind fun found_177 => (whileR 1000000 (fun (s178 : (List Int) × (List (Int × Int)) × (List (Int × Int))) => (Res.ok ((!decide (s178.2.1 = ([] : (List (Int × Int)))))) : Res Bool)) (fun (s178 : (List Int) × (List (Int × Int)) × (List (Int × Int))) => ((((t__law_off s178.1 ((s178.2.1.length : Nat) : Int))).bind fun r179 => ((popI s178.2.1 r179.1)).bind fun r180 => ((appL s178.2.2 (r180, r179).1.1)).bind fun r182 => Res.ok ((r182, (r180, r179))) : Res ((List (Int × Int)) × (((Int × Int) × (List (Int × Int))) × (Int × (List Int))))).bind fun b184 => Res.ok (Ex.nx (b184.2.2.2, b184.2.1.2, b184.1)) : Res (Ex ((List Int) × (List (Int × Int)) × (List (Int × Int))) ((List (Int × Int)) × List Int)))) (d, left_176, found_177)).bindE fun s185 => Res.ok (Ex.rt (s185.2.2, s185.1))
noncomputable def t__law_mixed_t (d : List Int) (row : (List (Int × Int))) : Res ((List (Int × Int)) × List Int) := endR (tb__law_mixed_t d row)
/-! _law_mixed_i -/
noncomputable def tb__law_mixed_i (d : List Int) (row : (List Int)) : Res (Ex Unit ((List Int) × List Int)) :=
  (Res.ok (row) : Res (List Int)).bind fun left_186 => (Res.ok (([] : (List Int))) : Res (List Int)).bind fun found_187 => (whileR 1000000 (fun (s188 : (List Int) × (List Int) × (List Int)) => (Res.ok ((!decide (s188.2.1 = ([] : (List Int))))) : Res Bool)) (fun (s188 : (List Int) × (List Int) × (List Int)) => ((((t__law_off s188.1 ((s188.2.1.length : Nat) : Int))).bind fun r189 => ((popI s188.2.1 r189.1)).bind fun r190 => ((appL s188.2.2 (r190, r189).1.1)).bind fun r192 => Res.ok ((r192, (r190, r189))) : Res ((List Int) × ((Int × (List Int)) × (Int × (List Int))))).bind fun b194 => Res.ok (Ex.nx (b194.2.2.2, b194.2.1.2, b194.1)) : Res (Ex ((List Int) × (List Int) × (List Int)) ((List Int) × List Int)))) (d, left_186, found_187)).bindE fun s195 => Res.ok (Ex.rt (s195.2.2, s195.1))
noncomputable def t__law_mixed_i (d : List Int) (row : (List Int)) : Res ((List Int) × List Int) := endR (tb__law_mixed_i d row)
/-! _law_net -/
noncomputable def tb__law_net (d : List Int) (most : Int) : Res (Ex Unit ((Int × (Tp (Int × Int))) × List Int)) :=
  (((t__law_off d (most - (1 : Int)))).bind fun r196 => Res.ok ((((2 : Int) + r196.1), ((2 : Int), r196))) : Res (Int × (Int × (Int × (List Int))))).bind fun many_199 => ((t__law_off many_199.2.2.2 (5 : Int)) : Res (Int × (List Int))).bind fun kind_200 => (((rngR many_199.1)).bind fun r203 => (compG r203 (fun (x201 : Int) => Res.ok (true)) (fun (x201 : Int) => ((Res.of (pMod (x201 + (1 : Int)) many_199.1))).bind fun r202 => Res.ok ((x201, r202)))) : Res (List (Int × Int))).bind fun ties_204 => ((Res.ok ((decide (kind_200.1 = (1 : Int)))) : Res Bool).bind fun d205 => if d205 = true then ((((compG ties_204 (fun (x210 : (Int × Int)) => Res.ok (true)) (fun (x210 : (Int × Int)) => Res.ok ((x210.2, x210.1))))).bind fun r211 => (addL ties_204 r211) : Res (List (Int × Int))).bind fun ties_212 => Res.ok (Ex.nx ties_212) : Res (Ex ((List (Int × Int))) ((Int × (Tp (Int × Int))) × List Int))) else (Res.ok (Ex.nx ties_204) : Res (Ex ((List (Int × Int))) ((Int × (Tp (Int × Int))) × List Int)))).bindE fun s209 => ((Res.ok ((decide (kind_200.1 = (2 : Int)))) : Res Bool).bind fun d213 => if d213 = true then ((((rngR (many_199.1 - (1 : Int)))).bind fun r223 => ((compG r223 (fun (x222 : Int) => Res.ok (true)) (fun (x222 : Int) => Res.ok ((x222, (x222 + (1 : Int))))))).bind fun r226 => ((rngR (many_199.1 - (1 : Int)))).bind fun r225 => ((compG r225 (fun (x224 : Int) => Res.ok (true)) (fun (x224 : Int) => Res.ok (((x224 + (1 : Int)), x224))))).bind fun r227 => (addL r226 r227) : Res (List (Int × Int))).bind fun ties_228 => Res.ok (Ex.nx ties_228) : Res (Ex ((List (Int × Int))) ((Int × (Tp (Int × Int))) × List Int))) else (Res.ok (Ex.nx s209) : Res (Ex ((List (Int × Int))) ((Int × (Tp (Int × Int))) × List Int)))).bindE fun s221 => ((Res.ok ((decide (kind_200.1 = (3 : Int)))) : Res Bool).bind fun d229 => if d229 = true then ((Res.ok (([] : (List (Int × Int)))) : Res (List (Int × Int))).bind fun ties_242 => ((rngR many_199.1) : Res (List Int)).bind fun xs252 => (forR (fun (k_243 : Int) (s244 : (List (Int × Int))) => ((((compG [((k_243 + (1 : Int)), (k_243 + (2 : Int))).1, ((k_243 + (1 : Int)), (k_243 + (2 : Int))).2] (fun (x245 : Int) => Res.ok ((decide (x245 < many_199.1)))) (fun (x245 : Int) => Res.ok ((k_243, x245))))).bind fun r247 => ((compG [((k_243 + (1 : Int)), (k_243 + (2 : Int))).1, ((k_243 + (1 : Int)), (k_243 + (2 : Int))).2] (fun (x246 : Int) => Res.ok ((decide (x246 < many_199.1)))) (fun (x246 : Int) => Res.ok ((x246, k_243))))).bind fun r248 => ((addL r247 r248)).bind fun r249 => (addL s244 r249) : Res (List (Int × Int))).bind fun b250 => Res.ok (Ex.nx b250) : Res (Ex ((List (Int × Int))) ((Int × (Tp (Int × Int))) × List Int)))) xs252 ties_242).bindE fun s251 => Res.ok (Ex.nx s251) : Res (Ex ((List (Int × Int))) ((Int × (Tp (Int × Int))) × List Int))) else (Res.ok (Ex.nx s221) : Res (Ex ((List (Int × Int))) ((Int × (Tp (Int × Int))) × List Int)))).bindE fun s241 => ((Res.ok ((decide (kind_200.1 = (4 : Int)))) : Res Bool).bind fun d253 => if d253 = true then ((((rngR many_199.1)).bind fun r314 => (compS r314 kind_200.2 (fun (x296 : Int) (s304 : (List Int)) => (noR (Res.ok (true))).bind fun d305 => if id d305 = true then (noR (((t__law_off s304 (many_199.1 - (1 : Int)))).bind fun r307 => ((Res.of (pMod (((x296 + (1 : Int)) + r307.1), ((x296 + (1 : Int)), r307)).1 many_199.1))).bind fun r310 => Res.ok (((x296, (r310, (((x296 + (1 : Int)) + r307.1), ((x296 + (1 : Int)), r307))).1), (r310, (((x296 + (1 : Int)) + r307.1), ((x296 + (1 : Int)), r307))))))).bind fun e306 => Res.ok (some e306.1, e306.2.2.2.2.2) else Res.ok (none, s304))) : Res ((List (Int × Int)) × (List Int))).bind fun ties_315 => (((mulI (2 : Int) many_199.1)).bind fun r316 => ((t__law_off ties_315.2 r316)).bind fun r318 => ((rngR r318.1)).bind fun r319 => Res.ok ((r319, r318))).bind fun r335 => (forR (fun (turn_321 : Int) (s322 : (List Int) × (List (Int × Int))) => (((t__law_off s322.1 many_199.1) : Res (Int × (List Int))).bind fun begin'_323 => (((t__law_off begin'_323.2 (many_199.1 - (1 : Int)))).bind fun r324 => ((Res.of (pMod (((begin'_323.1 + (1 : Int)) + r324.1), ((begin'_323.1 + (1 : Int)), r324)).1 many_199.1))).bind fun r327 => ((appL s322.2 ((begin'_323.1, (r327, (((begin'_323.1 + (1 : Int)) + r324.1), ((begin'_323.1 + (1 : Int)), r324))).1), (r327, (((begin'_323.1 + (1 : Int)) + r324.1), ((begin'_323.1 + (1 : Int)), r324)))).1)).bind fun r331 => Res.ok ((r331, ((begin'_323.1, (r327, (((begin'_323.1 + (1 : Int)) + r324.1), ((begin'_323.1 + (1 : Int)), r324))).1), (r327, (((begin'_323.1 + (1 : Int)) + r324.1), ((begin'_323.1 + (1 : Int)), r324)))))) : Res ((List (Int × Int)) × ((Int × Int) × (Int × (Int × (Int × (Int × (List Int)))))))).bind fun b333 => Res.ok (Ex.nx (b333.2.2.2.2.2.2, b333.1)) : Res (Ex ((List Int) × (List (Int × Int))) ((Int × (Tp (Int × Int))) × List Int)))) r335.1 (r335.2.2, ties_315.1)).bindE fun s334 => Res.ok (Ex.nx (s334.1, s334.2)) : Res (Ex ((List Int) × (List (Int × Int))) ((Int × (Tp (Int × Int))) × List Int))) else (Res.ok (Ex.nx (kind_200.2, s241)) : Res (Ex ((List Int) × (List (Int × Int))) ((Int × (Tp (Int × Int))) × List Int)))).bindE fun s295 => ((compG (enumI s295.2) (fun (x337 : (Int × (Int × Int))) => Res.ok ((!memL x337.2 (cutD s295.2 none (some x337.1))))) (fun (x337 : (Int × (Int × Int))) => Res.ok (x337.2))) : Res (List (Int × Int))).bind fun ties_338 => (((t__law_mixed_t s295.1 ties_338)).bind fun r339 => Res.ok (((many_199.1, ((Tp.mk (cutD r339.1 none (some (24 : Int)), r339).1), (cutD r339.1 none (some (24 : Int)), r339)).1), ((Tp.mk (cutD r339.1 none (some (24 : Int)), r339).1), (cutD r339.1 none (some (24 : Int)), r339)))) : Res ((Int × (Tp (Int × Int))) × ((Tp (Int × Int)) × ((List (Int × Int)) × ((List (Int × Int)) × (List Int)))))).bind fun b345 => Res.ok (Ex.rt (b345.1, b345.2.2.2.2))
noncomputable def t__law_net (d : List Int) (most : Int) : Res ((Int × (Tp (Int × Int))) × List Int) := endR (tb__law_net d most)
/-! alike_int -/
noncomputable def tb_alike_int (found : Int) (due_here : Int) : Res (Ex Unit Bool) :=
  (Res.ok (false) : Res Bool).bind fun d346 => if d346 = true then Res.stuck else (Res.ok ((PyData.isBool (en due_here))) : Res Bool).bind fun d347 => if d347 = true then Res.stuck else (Res.ok ((PyData.isInt (en due_here))) : Res Bool).bind fun d348 => if d348 = true then (Res.ok (((PyData.isInt (en found)) && ((!(PyData.isBool (en found))) && (decide (found = due_here))))) : Res Bool).bind fun b349 => Res.ok (Ex.rt b349) else Res.stuck
noncomputable def t_alike_int (found : Int) (due_here : Int) : Res Bool := endR (tb_alike_int found due_here)
/-! alike_row -/
noncomputable def tb_alike_row (found : (Tp Int)) (due_here : (Tp Int)) : Res (Ex Unit Bool) :=
  (Res.ok (false) : Res Bool).bind fun d350 => if d350 = true then Res.stuck else (Res.ok ((PyData.isBool (en due_here))) : Res Bool).bind fun d351 => if d351 = true then Res.stuck else (Res.ok ((PyData.isInt (en due_here))) : Res Bool).bind fun d352 => if d352 = true then Res.stuck else (Res.ok ((PyData.isStr (en due_here))) : Res Bool).bind fun d353 => if d353 = true then Res.stuck else (Res.ok (((!decide ((PyData.isTuple (en due_here)) = (PyData.isTuple (en found)))) || (!decide ((PyData.isList (en due_here)) = (PyData.isList (en found)))))) : Res Bool).bind fun d354 => if d354 = true then Res.stuck else (Res.ok ((!decide (((found.l.length : Nat) : Int) = ((due_here.l.length : Nat) : Int)))) : Res Bool).bind fun d355 => if d355 = true then (Res.ok (false) : Res Bool).bind fun b356 => Res.ok (Ex.rt b356) else (((rngR ((due_here.l.length : Nat) : Int))).bind fun r360 => ((compG r360 (fun (x357 : Int) => Res.ok (true)) (fun (x357 : Int) => ((getI found.l x357)).bind fun r358 => ((getI due_here.l x357)).bind fun r359 => (t_alike_int r358 r359)))).bind fun r361 => Res.ok ((r361.all id)) : Res Bool).bind fun b362 => Res.ok (Ex.rt b362)
noncomputable def t_alike_row (found : (Tp Int)) (due_here : (Tp Int)) : Res Bool := endR (tb_alike_row found due_here)
/-! _law_alike -/
noncomputable def tb__law_alike (found : (Tp (Tp Int))) (due_here : (Tp (Tp Int))) : Res (Ex Unit Bool) :=
  (Res.ok (false) : Res Bool).bind fun d363 => if d363 = true then Res.stuck else (Res.ok ((PyData.isBool (en due_here))) : Res Bool).bind fun d364 => if d364 = true then Res.stuck else (Res.ok ((PyData.isInt (en due_here))) : Res Bool).bind fun d365 => if d365 = true then Res.stuck else (Res.ok ((PyData.isStr (en due_here))) : Res Bool).bind fun d366 => if d366 = true then Res.stuck else (Res.ok (((!decide ((PyData.isTuple (en due_here)) = (PyData.isTuple (en found)))) || (!decide ((PyData.isList (en due_here)) = (PyData.isList (en found)))))) : Res Bool).bind fun d367 => if d367 = true then Res.stuck else (Res.ok ((!decide (((found.l.length : Nat) : Int) = ((due_here.l.length : Nat) : Int)))) : Res Bool).bind fun d368 => if d368 = true then (Res.ok (false) : Res Bool).bind fun b369 => Res.ok (Ex.rt b369) else (((rngR ((due_here.l.length : Nat) : Int))).bind fun r373 => ((compG r373 (fun (x370 : Int) => Res.ok (true)) (fun (x370 : Int) => ((getI found.l x370)).bind fun r371 => ((getI due_here.l x370)).bind fun r372 => (t_alike_row r371 r372)))).bind fun r374 => Res.ok ((r374.all id)) : Res Bool).bind fun b375 => Res.ok (Ex.rt b375)
noncomputable def t__law_alike (found : (Tp (Tp Int))) (due_here : (Tp (Tp Int))) : Res Bool := endR (tb__law_alike found due_here)
/-! _law_of_use -/
noncomputable def tb__law_of_use (net_here : (Int × (Tp (Int × Int)))) (fallen : (List Int)) : Res (Ex Unit (List Int)) :=
  ((compG (enumI net_here.2.l) (fun (x376 : (Int × (Int × Int))) => Res.ok ((!memL x376.1 fallen))) (fun (x376 : (Int × (Int × Int))) => Res.ok (x376.2))) : Res (List (Int × Int))).bind fun stand_377 => ((compG (enumI net_here.2.l) (fun (x378 : (Int × (Int × Int))) => Res.ok (((memL x378.2 stand_377) && (memL (x378.2.2, x378.2.1) stand_377)))) (fun (x378 : (Int × (Int × Int))) => Res.ok (x378.1))) : Res (List Int)).bind fun b379 => Res.ok (Ex.rt b379)
noncomputable def t__law_of_use (net_here : (Int × (Tp (Int × Int)))) (fallen : (List Int)) : Res (List Int) := endR (tb__law_of_use net_here fallen)
/-! _law_near -/
noncomputable def tb__law_near (net_here : (Int × (Tp (Int × Int)))) (some' : (List Int)) (root : Int) : Res (Ex Unit (Dc Int Int)) :=
  (Res.ok ([(root, (0 : Int))]) : Res (Dc Int Int)).bind fun far_380 => ((rngR net_here.1) : Res (List Int)).bind fun xs399 => (forR (fun (turn_381 : Int) (s382 : (Dc Int Int)) => ((Res.ok (some') : Res (List Int)).bind fun xs397 => (forR (fun (k_383 : Int) (s384 : (Dc Int Int)) => (((getI net_here.2.l k_383) : Res (Int × Int)).bind fun p385 => ((Res.ok (((dg s384 p385.1).isSome)) : Res Bool).bind fun d386 => if d386 = true then ((((Res.of (dg s384 p385.1))).bind fun r392 => Res.ok ((if (r392 + (1 : Int)) < ((dg s384 p385.2).getD (99 : Int)) then (r392 + (1 : Int)) else ((dg s384 p385.2).getD (99 : Int)))) : Res Int).bind fun a394 => (Res.ok (p385.2) : Res Int).bind fun j395 => (putD s384 j395 a394).bind fun far_393 => Res.ok (Ex.nx far_393) : Res (Ex ((Dc Int Int)) (Dc Int Int))) else (Res.ok (Ex.nx s384) : Res (Ex ((Dc Int Int)) (Dc Int Int)))).bindE fun s391 => Res.ok (Ex.nx s391) : Res (Ex ((Dc Int Int)) (Dc Int Int)))) xs397 s382).bindE fun s396 => Res.ok (Ex.nx s396) : Res (Ex ((Dc Int Int)) (Dc Int Int)))) xs399 far_380).bindE fun s398 => Res.ok (Ex.rt (s398))
noncomputable def t__law_near (net_here : (Int × (Tp (Int × Int)))) (some' : (List Int)) (root : Int) : Res (Dc Int Int) := endR (tb__law_near net_here some' root)
/-! _law_due -/
noncomputable def tb__law_due (net_here : (Int × (Tp (Int × Int)))) (fallen : (List Int)) (root : Int) : Res (Ex Unit (Tp (Tp Int))) :=
  ((t__law_of_use net_here fallen) : Res (List Int)).bind fun some'_400 => ((t__law_near net_here some'_400 root) : Res (Dc Int Int)).bind fun near_here_401 => ((compG some'_400 (fun (x402 : Int) => ((getI net_here.2.l x402)).bind fun r403 => Res.ok (((dg near_here_401 r403.1).isSome))) (fun (x402 : Int) => Res.ok (x402))) : Res (List Int)).bind fun some'_404 => (Res.ok (([] : (List Int))) : Res (List Int)).bind fun ups_405 => (Res.ok (some'_404) : Res (List Int)).bind fun xs501 => (forR (fun (k_406 : Int) (s407 : (List Int)) => (((getI net_here.2.l k_406) : Res (Int × Int)).bind fun p408 => (((Res.of (dg near_here_401 p408.2))).bind fun r409 => ((Res.of (dg near_here_401 p408.1))).bind fun r410 => ((mulL [k_406] (if (lt2 (r409, p408.2) (r410, p408.1)) = true then (1 : Int) else 0))).bind fun r411 => (addL s407 r411) : Res (List Int)).bind fun ups_412 => Res.ok (Ex.nx ups_412) : Res (Ex ((List Int)) (Tp (Tp Int))))) xs501 ups_405).bindE fun s413 => ((compG some'_404 (fun (x414 : Int) => Res.ok ((!memL x414 s413))) (fun (x414 : Int) => Res.ok (x414))) : Res (List Int)).bind fun downs_415 => (((rngR net_here.1)).bind fun r417 => (compG r417 (fun (x416 : Int) => Res.ok (true)) (fun (x416 : Int) => (mulL [(-(1 : Int))] net_here.1))) : Res (List (List Int))).bind fun rows_418 => (Res.ok ((keysD near_here_401)) : Res (List Int)).bind fun xs500 => (forR (fun (goal_419 : Int) (s420 : (List (List Int))) => ((Res.ok ([(goal_419, (0 : Int))]) : Res (Dc Int Int)).bind fun down_421 => ((rngR net_here.1) : Res (List Int)).bind fun xs495 => (forR (fun (turn_422 : Int) (s423 : (Dc Int Int)) => ((Res.ok (downs_415) : Res (List Int)).bind fun xs445 => (forR (fun (k_424 : Int) (s425 : (Dc Int Int)) => (((((getI net_here.2.l k_424)).bind fun r428 => Res.ok (((dg s425 r428.2).isSome)) : Res Bool).bind fun d427 => if d427 = true then ((((getI net_here.2.l k_424)).bind fun r437 => ((getI net_here.2.l k_424)).bind fun r438 => ((Res.of (dg s425 r438.2))).bind fun r439 => Res.ok ((if (r439 + (1 : Int)) < ((dg s425 r437.1).getD (99 : Int)) then (r439 + (1 : Int)) else ((dg s425 r437.1).getD (99 : Int)))) : Res Int).bind fun a442 => (((getI net_here.2.l k_424)).bind fun r440 => Res.ok (r440.1) : Res Int).bind fun j443 => (putD s425 j443 a442).bind fun down_441 => Res.ok (Ex.nx down_441) : Res (Ex ((Dc Int Int)) (Tp (Tp Int)))) else (Res.ok (Ex.nx s425) : Res (Ex ((Dc Int Int)) (Tp (Tp Int))))).bindE fun s436 => Res.ok (Ex.nx s436) : Res (Ex ((Dc Int Int)) (Tp (Tp Int))))) xs445 s423).bindE fun s444 => Res.ok (Ex.nx s444) : Res (Ex ((Dc Int Int)) (Tp (Tp Int))))) xs495 down_421).bindE fun s446 => (Res.ok (s446) : Res (Dc Int Int)).bind fun far_447 => ((rngR net_here.1) : Res (List Int)).bind fun xs494 => (forR (fun (turn_448 : Int) (s449 : (Dc Int Int)) => ((Res.ok (s413) : Res (List Int)).bind fun xs471 => (forR (fun (k_450 : Int) (s451 : (Dc Int Int)) => (((((getI net_here.2.l k_450)).bind fun r453 => (if ((dg s451 r453.2).isSome) = true then ((getI net_here.2.l k_450)).bind fun r454 => Res.ok ((!(dg s446 r454.1).isSome)) else Res.ok false) : Res Bool).bind fun d452 => if d452 = true then ((((getI net_here.2.l k_450)).bind fun r463 => ((getI net_here.2.l k_450)).bind fun r464 => ((Res.of (dg s451 r464.2))).bind fun r465 => Res.ok ((if (r465 + (1 : Int)) < ((dg s451 r463.1).getD (99 : Int)) then (r465 + (1 : Int)) else ((dg s451 r463.1).getD (99 : Int)))) : Res Int).bind fun a468 => (((getI net_here.2.l k_450)).bind fun r466 => Res.ok (r466.1) : Res Int).bind fun j469 => (putD s451 j469 a468).bind fun far_467 => Res.ok (Ex.nx far_467) : Res (Ex ((Dc Int Int)) (Tp (Tp Int)))) else (Res.ok (Ex.nx s451) : Res (Ex ((Dc Int Int)) (Tp (Tp Int))))).bindE fun s462 => Res.ok (Ex.nx s462) : Res (Ex ((Dc Int Int)) (Tp (Tp Int))))) xs471 s449).bindE fun s470 => Res.ok (Ex.nx s470) : Res (Ex ((Dc Int Int)) (Tp (Tp Int))))) xs494 far_447).bindE fun s472 => (Res.ok ((keysD s472)) : Res (List Int)).bind fun xs493 => (forR (fun (house_473 : Int) (s474 : (List (List Int))) => (((if ((dg s446 house_473).isSome) = true then Res.ok (downs_415) else Res.ok (s413)) : Res (List Int)).bind fun ways_475 => ((compG ways_475 (fun (x476 : Int) => ((getI net_here.2.l x476)).bind fun r477 => (if (decide (r477.1 = house_473)) = true then ((getI net_here.2.l x476)).bind fun r478 => ((Res.of (dg s472 house_473))).bind fun r479 => Res.ok ((decide ((((dg s472 r478.2).getD (99 : Int)) + (1 : Int)) = r479))) else Res.ok false)) (fun (x476 : Int) => Res.ok (x476))) : Res (List Int)).bind fun good_480 => ((Res.ok (((dg s446 house_473).isSome)) : Res Bool).bind fun d481 => if d481 = true then (((compG good_480 (fun (x486 : Int) => ((getI net_here.2.l x486)).bind fun r487 => Res.ok (((dg s446 r487.2).isSome))) (fun (x486 : Int) => Res.ok (x486))) : Res (List Int)).bind fun good_488 => Res.ok (Ex.nx good_488) : Res (Ex ((List Int)) (Tp (Tp Int)))) else (Res.ok (Ex.nx good_480) : Res (Ex ((List Int)) (Tp (Tp Int))))).bindE fun s485 => ((if (!decide (house_473 = goal_419)) = true then (minI s485) else Res.ok ((-(1 : Int)))) : Res Int).bind fun a490 => (Res.ok (house_473) : Res Int).bind fun j491 => (setII s474 j491 goal_419 a490).bind fun rows_489 => Res.ok (Ex.nx rows_489) : Res (Ex ((List (List Int))) (Tp (Tp Int))))) xs493 s420).bindE fun s492 => Res.ok (Ex.nx s492) : Res (Ex ((List (List Int))) (Tp (Tp Int))))) xs500 rows_418).bindE fun s496 => (((compG s496 (fun (x497 : (List Int)) => Res.ok (true)) (fun (x497 : (List Int)) => Res.ok ((Tp.mk x497))))).bind fun r498 => Res.ok ((Tp.mk r498)) : Res (Tp (Tp Int))).bind fun b499 => Res.ok (Ex.rt b499)
noncomputable def t__law_due (net_here : (Int × (Tp (Int × Int)))) (fallen : (List Int)) (root : Int) : Res (Tp (Tp Int)) := endR (tb__law_due net_here fallen root)
/-! law -/
noncomputable def tb_law (script : (List Int)) : Res (Ex Unit Bool) :=
  ((t__law_dice script (0 : Int)) : Res (List Int)).bind fun d_502 => ((rngR (4 : Int)) : Res (List Int)).bind fun xs546 => (forR (fun (turn_503 : Int) (s504 : (List Int)) => (((t__law_net s504 (8 : Int)) : Res ((Int × (Tp (Int × Int))) × (List Int))).bind fun net_here_505 => (((rngR ((net_here_505.1.2.l.length : Nat) : Int))).bind fun r515 => (compS r515 net_here_505.2 (fun (x506 : Int) (s509 : (List Int)) => (noR (((t__law_off s509 (5 : Int))).bind fun r512 => Res.ok (((decide (r512.1 = (0 : Int))), r512)))).bind fun d510 => if d510.1 = true then (noR (Res.ok (x506))).bind fun e511 => Res.ok (some e511, d510.2.2) else Res.ok (none, d510.2.2))) : Res ((List Int) × (List Int))).bind fun fallen_516 => ((((t__law_off fallen_516.2 (9 : Int))).bind fun r517 => Res.ok (((decide (r517.1 = (0 : Int))), r517)) : Res (Bool × (Int × (List Int)))).bind fun d519 => if d519.1 = true then (((rngL ((net_here_505.1.2.l.length : Nat) : Int)) : Res (List Int)).bind fun fallen_523 => Res.ok (Ex.nx (d519.2.2, fallen_523)) : Res (Ex ((List Int) × (List Int)) Bool)) else (Res.ok (Ex.nx (d519.2.2, fallen_516.1)) : Res (Ex ((List Int) × (List Int)) Bool))).bindE fun s522 => ((((t__law_off s522.1 (3 : Int))).bind fun r524 => Res.ok (((decide (r524.1 = (0 : Int))), r524)) : Res (Bool × (Int × (List Int)))).bind fun d526 => if d526.1 = true then ((((addL s522.2 (cutD s522.2 none (some (1 : Int))))).bind fun r531 => (t__law_mixed_i d526.2.2 r531) : Res ((List Int) × (List Int))).bind fun fallen_532 => Res.ok (Ex.nx (fallen_532.2, fallen_532.1)) : Res (Ex ((List Int) × (List Int)) Bool)) else (Res.ok (Ex.nx (d526.2.2, s522.2)) : Res (Ex ((List Int) × (List Int)) Bool))).bindE fun s530 => ((t__law_off s530.1 net_here_505.1.1) : Res (Int × (List Int))).bind fun root_533 => (Res.ok (s530.2) : Res (List Int)).bind fun handed_534 => ((t__law_due net_here_505.1 s530.2 root_533.1) : Res (Tp (Tp Int))).bind fun due_here_535 => ((rngR (2 : Int)) : Res (List Int)).bind fun xs543 => (forR (fun (again_536 : Int) (s537 : Unit) => (((t_bent net_here_505.1 handed_534 root_533.1) : Res (Tp (Tp Int))).bind fun found_538 => (((t__law_alike found_538 due_here_535)).bind fun r540 => (if (!r540) = true then Res.ok true else Res.ok ((!decide (handed_534 = s530.2)))) : Res Bool).bind fun d539 => if d539 = true then (Res.ok (false) : Res Bool).bind fun b541 => Res.ok (Ex.rt b541) else Res.ok (Ex.nx ()) : Res (Ex (Unit) Bool))) xs543 ()).bindE fun s542 => Res.ok (Ex.nx root_533.2) : Res (Ex ((List Int)) Bool))) xs546 d_502).bindE fun s544 => (Res.ok (true) : Res Bool).bind fun b545 => Res.ok (Ex.rt b545)
noncomputable def t_law (script : (List Int)) : Res Bool := endR (tb_law script)
end DL
set_option Elab.async false
set_option linter.all false
set_option maxRecDepth 100000
set_option maxHeartbeats 4000000
namespace DL
open PySem PySem.Spec PyProof.Rows L2

/-! ### what the module holds -/
structure Gd (B : Bs) : Prop where
  b_abs : B.mg "abs" = none
  b_all : B.mg "all" = none
  b_bool : B.mg "bool" = none
  b_dict : B.mg "dict" = none
  b_enumerate : B.mg "enumerate" = none
  b_int : B.mg "int" = none
  b_isinstance : B.mg "isinstance" = none
  b_len : B.mg "len" = none
  b_list : B.mg "list" = none
  b_min : B.mg "min" = none
  b_range : B.mg "range" = none
  b_set : B.mg "set" = none
  b_sorted : B.mg "sorted" = none
  b_str : B.mg "str" = none
  b_tuple : B.mg "tuple" = none
  c_MOST_HOUSES : ∃ t, B.mg "MOST_HOUSES" = some (.int (8) t)
  c_MOST_TIES : ∃ t, B.mg "MOST_TIES" = some (.int (24) t)
  c_NONE : ∃ t, B.mg "NONE" = some (.int (-1) t)
def topS (i : Nat) : Stmt := PySem.Challenge.pw_wormways_k13_bent_round_fallen_ties.main.body.getD i (.Pass ⟨0, 0, 0, 0⟩)
/-! is_between -/
abbrev s_is_between : Stmt := topS 8
abbrev N_is_between : List Str := ["part", "low", "high"]
noncomputable def b_is_between : Sg → Res Ou := (fRet false (fAnd (isaK PyData.isInt (fV 0)) (fAnd (fNot (isaK PyData.isBool (fV 0))) (fChain pLe pLe (fV 1) (fV 0) (fV 2)))))
noncomputable def m_is_between : List OD → Res OD := semP N_is_between b_is_between
theorem sc_is_between : FnScope N_is_between ["part", "low", "high"] (defScope s_is_between) := ⟨rfl, rfl, rfl, by decide +kernel, rfl, by decide +kernel, by decide +kernel⟩
theorem d_is_between {B : Bs} (g : Gd B)  : DSs (B.cx N_is_between (defScope s_is_between) 0 false) (defBody s_is_between) b_is_between :=
  (dss_one (ds_ret (de_and (de_isa isa_int ⟨rfl, g.b_isinstance⟩ ⟨rfl, g.b_int⟩ (by decide +kernel) (de_var 0 rfl (by first | exact .inl rfl | exact .inr (.inl rfl) | exact .inr (.inr rfl)))) (de_and (de_not (de_isa isa_bool ⟨rfl, g.b_isinstance⟩ ⟨rfl, g.b_bool⟩ (by decide +kernel) (de_var 0 rfl (by first | exact .inl rfl | exact .inr (.inl rfl) | exact .inr (.inr rfl))))) (de_one (DV.de (de_chain cr_le cr_le (de_var 1 rfl (by first | exact .inl rfl | exact .inr (.inl rfl) | exact .inr (.inr rfl))) (de_var 0 rfl (by first | exact .inl rfl | exact .inr (.inl rfl) | exact .inr (.inr rfl))) (de_var 2 rfl (by first | exact .inl rfl | exact .inr (.inl rfl) | exact .inr (.inr rfl))))))))))
theorem p_is_between {B : Bs} (g : Gd B) {f : Addr} {fd : FuncData} (F : FunD B.K "is_between" "is_between" (defArgs s_is_between) (defBody s_is_between) (defScope s_is_between) [] [] f fd) (hm : B.mg "is_between" = some (.ref f))  : FnP B 1 "is_between" 3 m_is_between :=
  fnp_of F sc_is_between hm (FunD.bindsN F fun _ _ _ _ _ _ us hl => match us, hl with | [_, _, _], _ => rfl) rfl (d_is_between g )
/-! is_tie -/
abbrev s_is_tie : Stmt := topS 9
abbrev N_is_tie : List Str := ["tie", "many"]
noncomputable def b_is_tie : Sg → Res Ou := (fSeq (fIfS (fOrT (fNotT (fB (isaK PyData.isTuple (fV 0)))) (fB (fTwo (fArgs (fCons (fV 0) fNil) lenK) (fC (.int 2)) (cmpK pNe)))) (fRet false (fC (.bool false))) fPass) (fRet false (fAnd (fCall m_is_between (fCons (fFz (fTwo (fV 0) (fC (.int 0)) subK)) (fCons (fFz (fC (.int 0))) (fCons (fFz (fTwo (fV 1) (fC (.int 1)) (intK pSub))) fNil)))) (fAnd (fCall m_is_between (fCons (fFz (fTwo (fV 0) (fC (.int 1)) subK)) (fCons (fFz (fC (.int 0))) (fCons (fFz (fTwo (fV 1) (fC (.int 1)) (intK pSub))) fNil)))) (fTwo (fTwo (fV 0) (fC (.int 0)) subK) (fTwo (fV 0) (fC (.int 1)) subK) (cmpK pNe))))))
noncomputable def m_is_tie : List OD → Res OD := semP N_is_tie b_is_tie
theorem sc_is_tie : FnScope N_is_tie ["tie", "many"] (defScope s_is_tie) := ⟨rfl, rfl, rfl, by decide +kernel, rfl, by decide +kernel, by decide +kernel⟩
theorem d_is_tie {B : Bs} (g : Gd B) (F_is_between : FnP B 1 "is_between" 3 m_is_between) : DSs (B.cx N_is_tie (defScope s_is_tie) 1 false) (defBody s_is_tie) b_is_tie :=
  (dss_cons (ds_if (dt_w (dw_or (dt_not (dt_val (de_isa isa_tuple ⟨rfl, g.b_isinstance⟩ ⟨rfl, g.b_tuple⟩ (by decide +kernel) (de_var 0 rfl (by first | exact .inl rfl | exact .inr (.inl rfl) | exact .inr (.inr rfl)))))) (dw_or1 (DV.dt (de_cmp cr_ne (de_len ⟨rfl, g.b_len⟩ (de_var 0 rfl (by first | exact .inl rfl | exact .inr (.inl rfl) | exact .inr (.inr rfl)))) de_int rfl))))) (dss_one (ds_ret de_bl)) dss_nil) (dss_one (ds_ret (de_and (de_call F_is_between (Nat.le_of_ble_eq_true rfl) rfl (da_cons (de_fz (de_ix (de_var 0 rfl (by first | exact .inl rfl | exact .inr (.inl rfl) | exact .inr (.inr rfl))) de_int (fun _ _ => rfl))) (da_cons (de_fz de_int) (da_cons (de_fz (de_sub (de_var 1 rfl (by first | exact .inl rfl | exact .inr (.inl rfl) | exact .inr (.inr rfl))) de_int)) da_nil))) rfl (lenA_cons (lenA_cons (lenA_cons lenA_nil)))) (de_and (de_call F_is_between (Nat.le_of_ble_eq_true rfl) rfl (da_cons (de_fz (de_ix (de_var 0 rfl (by first | exact .inl rfl | exact .inr (.inl rfl) | exact .inr (.inr rfl))) de_int (fun _ _ => rfl))) (da_cons (de_fz de_int) (da_cons (de_fz (de_sub (de_var 1 rfl (by first | exact .inl rfl | exact .inr (.inl rfl) | exact .inr (.inr rfl))) de_int)) da_nil))) rfl (lenA_cons (lenA_cons (lenA_cons lenA_nil)))) (de_one (DV.de (de_cmp cr_ne (de_ix (de_var 0 rfl (by first | exact .inl rfl | exact .inr (.inl rfl) | exact .inr (.inr rfl))) de_int (fun _ _ => rfl)) (de_ix (de_var 0 rfl (by first | exact .inl rfl | exact .inr (.inl rfl) | exact .inr (.inr rfl))) de_int (fun _ _ => rfl)) rfl))))))))
theorem p_is_tie {B : Bs} (g : Gd B) {f : Addr} {fd : FuncData} (F : FunD B.K "is_tie" "is_tie" (defArgs s_is_tie) (defBody s_is_tie) (defScope s_is_tie) [] [] f fd) (hm : B.mg "is_tie" = some (.ref f)) (F_is_between : FnP B 1 "is_between" 3 m_is_between) : FnP B 2 "is_tie" 2 m_is_tie :=
  fnp_of F sc_is_tie hm (FunD.bindsN F fun _ _ _ _ _ _ us hl => match us, hl with | [_, _], _ => rfl) rfl (d_is_tie g F_is_between)
/-! need_net -/
abbrev s_need_net : Stmt := topS 10
abbrev N_need_net : List Str := ["net", "many", "ties", "tie"]
noncomputable def b_need_net : Sg → Res Ou := (fSeq (fIfS (fOrT (fNotT (fB (isaK PyData.isTuple (fV 0)))) (fOrT (fB (fTwo (fArgs (fCons (fV 0) fNil) lenK) (fC (.int 2)) (cmpK pNe))) (fNotT (fB (fCall m_is_between (fCons (fFz (fTwo (fV 0) (fC (.int 0)) subK)) (fCons (fFz (fC (.int 2))) (fCons (fFz (fLk (fC (.int (8))))) fNil)))))))) fStuck fPass) (fSeq (fUnp (gTu 2 (gsCons (gN 1) (gsCons (gN 2) gsNil))) (fV 0)) (fSeq (fIfS (fOrT (fNotT (fB (isaK PyData.isTuple (fV 2)))) (fOrT (fB (fTwo (fArgs (fCons (fV 2) fNil) lenK) (fC (.int (24))) (cmpK pGt))) (fB (fTwo (fComp [3] (iFz (fV 2)) (gN 3) (fNotT (fB (fCall m_is_tie (fCons (fFz (fLk (fV 3))) (fCons (fFz (fLk (fV 1))) fNil))))) (fV 3)) (fLst fNil) (cmpK pNe))))) fStuck fPass) (fIfS (fB (fTwo (fLenSet (fV 2)) (fArgs (fCons (fV 2) fNil) lenK) (cmpK pLt))) fStuck fPass))))
noncomputable def m_need_net : List OD → Res OD := semP N_need_net b_need_net
theorem sc_need_net : FnScope N_need_net ["net"] (defScope s_need_net) := ⟨rfl, rfl, rfl, by decide +kernel, rfl, by decide +kernel, by decide +kernel⟩
theorem d_need_net {B : Bs} (g : Gd B) (F_is_between : FnP B 1 "is_between" 3 m_is_between) (F_is_tie : FnP B 2 "is_tie" 2 m_is_tie) : DSs (B.cx N_need_net (defScope s_need_net) 2 false) (defBody s_need_net) b_need_net :=
  (dss_cons (ds_if (dt_w (dw_or (dt_not (dt_val (de_isa isa_tuple ⟨rfl, g.b_isinstance⟩ ⟨rfl, g.b_tuple⟩ (by decide +kernel) (de_var 0 rfl (by first | exact .inl rfl | exact .inr (.inl rfl) | exact .inr (.inr rfl)))))) (dw_or (DV.dt (de_cmp cr_ne (de_len ⟨rfl, g.b_len⟩ (de_var 0 rfl (by first | exact .inl rfl | exact .inr (.inl rfl) | exact .inr (.inr rfl)))) de_int rfl)) (dw_or1 (dt_not (dt_val (de_call F_is_between (Nat.le_of_ble_eq_true rfl) rfl (da_cons (de_fz (de_ix (de_var 0 rfl (by first | exact .inl rfl | exact .inr (.inl rfl) | exact .inr (.inr rfl))) de_int (fun _ _ => rfl))) (da_cons (de_fz de_int) (da_cons (de_fz (de_lk (de_globE g.c_MOST_HOUSES rfl))) da_nil))) rfl (lenA_cons (lenA_cons (lenA_cons lenA_nil)))))))))) (dss_one ds_never) dss_nil) (dss_cons (ds_unp (de_var 0 rfl (by first | exact .inl rfl | exact .inr (.inl rfl) | exact .inr (.inr rfl))) (dg_tup (n := 2) (dgs_cons (dg_name 1 rfl (by first | exact .inl rfl | exact .inr rfl) (by first | exact .inl rfl | exact .inr rfl)) (dgs_cons (dg_name 2 rfl (by first | exact .inl rfl | exact .inr rfl) (by first | exact .inl rfl | exact .inr rfl)) dgs_nil))) (.inl rfl)) (dss_cons (ds_if (dt_w (dw_or (dt_not (dt_val (de_isa isa_tuple ⟨rfl, g.b_isinstance⟩ ⟨rfl, g.b_tuple⟩ (by decide +kernel) (de_var 2 rfl (by first | exact .inl rfl | exact .inr (.inl rfl) | exact .inr (.inr rfl)))))) (dw_or (DV.dt (de_cmp cr_gt (de_len ⟨rfl, g.b_len⟩ (de_var 2 rfl (by first | exact .inl rfl | exact .inr (.inl rfl) | exact .inr (.inr rfl)))) (de_globE g.c_MOST_TIES rfl) rfl)) (dw_or1 (DV.dt (de_cmp cr_ne (de_comp [("tie", 3)] (di_fz (de_var 2 rfl (by first | exact .inl rfl | exact .inr (.inl rfl) | exact .inr (.inr rfl)))) rfl (dg_name 3 rfl (by first | exact .inl rfl | exact .inr rfl) (by first | exact .inl rfl | exact .inr rfl)) (dts_one (dt_not (dt_val (de_call F_is_tie (Nat.le_of_ble_eq_true rfl) rfl (da_cons (de_fz (de_lk (de_var 3 rfl (by first | exact .inl rfl | exact .inr (.inl rfl) | exact .inr (.inr rfl))))) (da_cons (de_fz (de_lk (de_var 1 rfl (by first | exact .inl rfl | exact .inr (.inl rfl) | exact .inr (.inr rfl))))) da_nil)) rfl (lenA_cons (lenA_cons lenA_nil)))))) (de_var 3 rfl (by first | exact .inl rfl | exact .inr (.inl rfl) | exact .inr (.inr rfl)))) (de_lst da_nil) rfl)))))) (dss_one ds_never) dss_nil) (dss_one (ds_if (DV.dt (de_cmp cr_lt (de_lenSet ⟨rfl, g.b_len⟩ ⟨rfl, g.b_set⟩ (de_var 2 rfl (by first | exact .inl rfl | exact .inr (.inl rfl) | exact .inr (.inr rfl)))) (de_len ⟨rfl, g.b_len⟩ (de_var 2 rfl (by first | exact .inl rfl | exact .inr (.inl rfl) | exact .inr (.inr rfl)))) rfl)) (dss_one ds_never) dss_nil)))))
theorem p_need_net {B : Bs} (g : Gd B) {f : Addr} {fd : FuncData} (F : FunD B.K "need_net" "need_net" (defArgs s_need_net) (defBody s_need_net) (defScope s_need_net) [] [] f fd) (hm : B.mg "need_net" = some (.ref f)) (F_is_between : FnP B 1 "is_between" 3 m_is_between) (F_is_tie : FnP B 2 "is_tie" 2 m_is_tie) : FnP B 3 "need_net" 1 m_need_net :=
  fnp_of F sc_need_net hm (FunD.bindsN F fun _ _ _ _ _ _ us hl => match us, hl with | [_], _ => rfl) rfl (d_need_net g F_is_between F_is_tie)
/-! usable -/
abbrev s_usable : Stmt := topS 12
abbrev N_usable : List Str := ["net", "fallen", "ties", "stand", "pairs", "number"]
noncomputable def b_usable : Sg → Res Ou := (fSeq (fSet 2 (fTwo (fV 0) (fC (.int 1)) subK)) (fSeq (fSet 3 (fComp [5] (iRng1 (fArgs (fCons (fV 2) fNil) lenK)) (gN 5) (fB (fTwo (fV 5) (fV 1) (inK true))) (fV 5))) (fSeq (fSet 4 (fComp [5] (iFz (fV 3)) (gN 5) fYes (fTwo (fV 2) (fV 5) subK))) (fRet false (fComp [5] (iFz (fV 3)) (gN 5) (fB (fTwo (fTup (fCons (fFz (fTwo (fTwo (fV 2) (fV 5) subK) (fC (.int 1)) subK)) (fCons (fFz (fTwo (fTwo (fV 2) (fV 5) subK) (fC (.int 0)) subK)) fNil))) (fV 4) (inK false))) (fV 5))))))
noncomputable def m_usable : List OD → Res OD := semP N_usable b_usable
theorem sc_usable : FnScope N_usable ["net", "fallen"] (defScope s_usable) := ⟨rfl, rfl, rfl, by decide +kernel, rfl, by decide +kernel, by decide +kernel⟩
theorem d_usable {B : Bs} (g : Gd B)  : DSs (B.cx N_usable (defScope s_usable) 0 false) (defBody s_usable) b_usable :=
  (dss_cons (ds_set 2 (de_ix (de_var 0 rfl (by first | exact .inl rfl | exact .inr (.inl rfl) | exact .inr (.inr rfl))) de_int (fun _ _ => rfl)) rfl (by first | exact .inl rfl | exact .inr rfl) (.inl rfl) rfl) (dss_cons (ds_setComp 3 [("number", 5)] rfl rfl rfl rfl rfl (.inl rfl) (di_rng1 ⟨rfl, g.b_range⟩ (de_len ⟨rfl, g.b_len⟩ (de_var 2 rfl (by first | exact .inl rfl | exact .inr (.inl rfl) | exact .inr (.inr rfl))))) rfl (dg_name 5 rfl (by first | exact .inl rfl | exact .inr rfl) (by first | exact .inl rfl | exact .inr rfl)) (dts_one (DV.dt (de_notIn (de_var 5 rfl (by first | exact .inl rfl | exact .inr (.inl rfl) | exact .inr (.inr rfl))) (de_var 1 rfl (by first | exact .inl rfl | exact .inr (.inl rfl) | exact .inr (.inr rfl))) rfl))) (de_var 5 rfl (by first | exact .inl rfl | exact .inr (.inl rfl) | exact .inr (.inr rfl)))) (dss_cons (ds_setCompN 4 (de_comp [("number", 5)] (di_fz (de_var 3 rfl (by first | exact .inl rfl | exact .inr (.inl rfl) | exact .inr (.inr rfl)))) rfl (dg_name 5 rfl (by first | exact .inl rfl | exact .inr rfl) (by first | exact .inl rfl | exact .inr rfl)) dts_nil (de_ix (de_var 2 rfl (by first | exact .inl rfl | exact .inr (.inl rfl) | exact .inr (.inr rfl))) (de_var 5 rfl (by first | exact .inl rfl | exact .inr (.inl rfl) | exact .inr (.inr rfl))) (fun _ _ => rfl))) rfl (by first | exact .inl rfl | exact .inr rfl) (.inl rfl) rfl (.inl rfl)) (dss_one (ds_ret (de_comp [("number", 5)] (di_fz (de_var 3 rfl (by first | exact .inl rfl | exact .inr (.inl rfl) | exact .inr (.inr rfl)))) rfl (dg_name 5 rfl (by first | exact .inl rfl | exact .inr rfl) (by first | exact .inl rfl | exact .inr rfl)) (dts_one (DV.dt (de_in (de_tup (da_cons (de_fz (de_ix (de_ix (de_var 2 rfl (by first | exact .inl rfl | exact .inr (.inl rfl) | exact .inr (.inr rfl))) (de_var 5 rfl (by first | exact .inl rfl | exact .inr (.inl rfl) | exact .inr (.inr rfl))) (fun _ _ => rfl)) de_int (fun _ _ => rfl))) (da_cons (de_fz (de_ix (de_ix (de_var 2 rfl (by first | exact .inl rfl | exact .inr (.inl rfl) | exact .inr (.inr rfl))) (de_var 5 rfl (by first | exact .inl rfl | exact .inr (.inl rfl) | exact .inr (.inr rfl))) (fun _ _ => rfl)) de_int (fun _ _ => rfl))) da_nil))) (de_var 4 rfl (by first | exact .inl rfl | exact .inr (.inl rfl) | exact .inr (.inr rfl))) rfl))) (de_var 5 rfl (by first | exact .inl rfl | exact .inr (.inl rfl) | exact .inr (.inr rfl)))))))))
theorem p_usable {B : Bs} (g : Gd B) {f : Addr} {fd : FuncData} (F : FunD B.K "usable" "usable" (defArgs s_usable) (defBody s_usable) (defScope s_usable) [] [] f fd) (hm : B.mg "usable" = some (.ref f))  : FnP B 1 "usable" 2 m_usable :=
  fnp_of F sc_usable hm (FunD.bindsN F fun _ _ _ _ _ _ us hl => match us, hl with | [_, _], _ => rfl) rfl (d_usable g )
/-! levels -/
abbrev s_levels : Stmt := topS 13
abbrev N_levels : List Str := ["net", "some", "root", "found", "waiting", "here", "number", "begin", "end"]
noncomputable def b_levels : Sg → Res Ou := (fSeq (fSet 3 (fDict1 (fV 2) (fC (.int 0)))) (fSeq (fSet 4 (fLst (fCons (fTk (fV 2)) fNil))) (fSeq (fWhile 1000000 (fB (fTwo (fV 4) (fLst fNil) (cmpK pNe))) (fSeq (fSet 5 (fMeth isL (fV 4) (fCons (fC (.int 0)) fNil) popK)) (fFor (iFz (fV 1)) (gN 6) (fSeq (fUnp (gTu 2 (gsCons (gN 7) (gsCons (gN 8) gsNil))) (fTwo (fTwo (fV 0) (fC (.int 1)) subK) (fV 6) subK)) (fIfS (fAndT (fB (fTwo (fV 7) (fV 5) (cmpK pEq))) (fB (fTwo (fV 8) (fV 3) (inK true)))) (fSeq (fSt 3 (fTwo (fTwo (fV 3) (fV 5) subK) (fC (.int 1)) addK) (fV 8)) (fExpr (fMeth isL (fV 4) (fCons (fTk (fV 8)) fNil) appendK))) fPass))))) (fRet false (fV 3)))))
noncomputable def m_levels : List OD → Res OD := semP N_levels b_levels
theorem sc_levels : FnScope N_levels ["net", "some", "root"] (defScope s_levels) := ⟨rfl, rfl, rfl, by decide +kernel, rfl, by decide +kernel, by decide +kernel⟩
theorem d_levels {B : Bs} (g : Gd B)  : DSs (B.cx N_levels (defScope s_levels) 0 false) (defBody s_levels) b_levels :=
  (dss_cons (ds_set 3 (de_dict1 (de_var 2 rfl (by first | exact .inl rfl | exact .inr (.inl rfl) | exact .inr (.inr rfl))) de_int) rfl (by first | exact .inl rfl | exact .inr rfl) (.inl rfl) rfl) (dss_cons (ds_set 4 (de_lst (da_cons (de_tk (de_var 2 rfl (by first | exact .inl rfl | exact .inr (.inl rfl) | exact .inr (.inr rfl)))) da_nil)) rfl (by first | exact .inl rfl | exact .inr rfl) (.inl rfl) rfl) (dss_cons (ds_while 1000000 (DV.dt (de_cmp cr_ne (de_var 4 rfl (by first | exact .inl rfl | exact .inr (.inl rfl) | exact .inr (.inr rfl))) (de_lst da_nil) rfl)) (dss_cons (ds_set 5 (de_pop (de_var 4 rfl (by first | exact .inl rfl | exact .inr (.inl rfl) | exact .inr (.inr rfl))) de_int ⟨fun _ => rfl, fun _ => rfl, rfl, fun _ => rfl⟩) rfl (by first | exact .inl rfl | exact .inr rfl) (.inl rfl) rfl) (dss_one (ds_for (di_fz (de_var 1 rfl (by first | exact .inl rfl | exact .inr (.inl rfl) | exact .inr (.inr rfl)))) (dg_name 6 rfl (by first | exact .inl rfl | exact .inr rfl) (by first | exact .inl rfl | exact .inr rfl)) (dss_cons (ds_unp (de_ix (de_ix (de_var 0 rfl (by first | exact .inl rfl | exact .inr (.inl rfl) | exact .inr (.inr rfl))) de_int (fun _ _ => rfl)) (de_var 6 rfl (by first | exact .inl rfl | exact .inr (.inl rfl) | exact .inr (.inr rfl))) (fun _ _ => rfl)) (dg_tup (n := 2) (dgs_cons (dg_name 7 rfl (by first | exact .inl rfl | exact .inr rfl) (by first | exact .inl rfl | exact .inr rfl)) (dgs_cons (dg_name 8 rfl (by first | exact .inl rfl | exact .inr rfl) (by first | exact .inl rfl | exact .inr rfl)) dgs_nil))) (.inl rfl)) (dss_one (ds_if (dt_w (dw_and (DV.dt (de_cmp cr_eq (de_var 7 rfl (by first | exact .inl rfl | exact .inr (.inl rfl) | exact .inr (.inr rfl))) (de_var 5 rfl (by first | exact .inl rfl | exact .inr (.inl rfl) | exact .inr (.inr rfl))) rfl)) (dw_and1 (DV.dt (de_notIn (de_var 8 rfl (by first | exact .inl rfl | exact .inr (.inl rfl) | exact .inr (.inr rfl))) (de_var 3 rfl (by first | exact .inl rfl | exact .inr (.inl rfl) | exact .inr (.inr rfl))) rfl))))) (dss_cons (ds_st 3 (de_add (de_ix (de_var 3 rfl (by first | exact .inl rfl | exact .inr (.inl rfl) | exact .inr (.inr rfl))) (de_var 5 rfl (by first | exact .inl rfl | exact .inr (.inl rfl) | exact .inr (.inr rfl))) (fun _ _ => rfl)) de_int) (de_var 8 rfl (by first | exact .inl rfl | exact .inr (.inl rfl) | exact .inr (.inr rfl))) rfl (by first | exact .inl rfl | exact .inr (.inl rfl) | exact .inr (.inr rfl))) (dss_one (ds_expr (de_append (de_var 4 rfl (by first | exact .inl rfl | exact .inr (.inl rfl) | exact .inr (.inr rfl))) (de_var 8 rfl (by first | exact .inl rfl | exact .inr (.inl rfl) | exact .inr (.inr rfl))) ⟨fun _ => rfl, fun _ => rfl, rfl, fun _ => rfl⟩)))) dss_nil))) (.inl rfl))))) (dss_one (ds_ret (de_var 3 rfl (by first | exact .inl rfl | exact .inr (.inl rfl) | exact .inr (.inr rfl))))))))
theorem p_levels {B : Bs} (g : Gd B) {f : Addr} {fd : FuncData} (F : FunD B.K "levels" "levels" (defArgs s_levels) (defBody s_levels) (defScope s_levels) [] [] f fd) (hm : B.mg "levels" = some (.ref f))  : FnP B 1 "levels" 3 m_levels :=
  fnp_of F sc_levels hm (FunD.bindsN F fun _ _ _ _ _ _ us hl => match us, hl with | [_, _, _], _ => rfl) rfl (d_levels g )
/-! is_up -/
abbrev s_is_up : Stmt := topS 14
abbrev N_is_up : List Str := ["net", "far", "number", "begin", "end"]
noncomputable def b_is_up : Sg → Res Ou := (fSeq (fUnp (gTu 2 (gsCons (gN 3) (gsCons (gN 4) gsNil))) (fTwo (fTwo (fV 0) (fC (.int 1)) subK) (fV 2) subK)) (fRet false (fTwo (fTup (fCons (fFz (fTwo (fV 1) (fV 4) subK)) (fCons (fFz (fV 4)) fNil))) (fTup (fCons (fFz (fTwo (fV 1) (fV 3) subK)) (fCons (fFz (fV 3)) fNil))) (cmpK pLt))))
noncomputable def m_is_up : List OD → Res OD := semP N_is_up b_is_up
theorem sc_is_up : FnScope N_is_up ["net", "far", "number"] (defScope s_is_up) := ⟨rfl, rfl, rfl, by decide +kernel, rfl, by decide +kernel, by decide +kernel⟩
theorem d_is_up {B : Bs} (g : Gd B)  : DSs (B.cx N_is_up (defScope s_is_up) 0 false) (defBody s_is_up) b_is_up :=
  (dss_cons (ds_unp (de_ix (de_ix (de_var 0 rfl (by first | exact .inl rfl | exact .inr (.inl rfl) | exact .inr (.inr rfl))) de_int (fun _ _ => rfl)) (de_var 2 rfl (by first | exact .inl rfl | exact .inr (.inl rfl) | exact .inr (.inr rfl))) (fun _ _ => rfl)) (dg_tup (n := 2) (dgs_cons (dg_name 3 rfl (by first | exact .inl rfl | exact .inr rfl) (by first | exact .inl rfl | exact .inr rfl)) (dgs_cons (dg_name 4 rfl (by first | exact .inl rfl | exact .inr rfl) (by first | exact .inl rfl | exact .inr rfl)) dgs_nil))) (.inl rfl)) (dss_one (ds_ret (DV.de (de_cmp cr_lt (de_tup (da_cons (de_fz (de_ix (de_var 1 rfl (by first | exact .inl rfl | exact .inr (.inl rfl) | exact .inr (.inr rfl))) (de_var 4 rfl (by first | exact .inl rfl | exact .inr (.inl rfl) | exact .inr (.inr rfl))) (fun _ _ => rfl))) (da_cons (de_fz (de_var 4 rfl (by first | exact .inl rfl | exact .inr (.inl rfl) | exact .inr (.inr rfl)))) da_nil))) (de_tup (da_cons (de_fz (de_ix (de_var 1 rfl (by first | exact .inl rfl | exact .inr (.inl rfl) | exact .inr (.inr rfl))) (de_var 3 rfl (by first | exact .inl rfl | exact .inr (.inl rfl) | exact .inr (.inr rfl))) (fun _ _ => rfl))) (da_cons (de_fz (de_var 3 rfl (by first | exact .inl rfl | exact .inr (.inl rfl) | exact .inr (.inr rfl)))) da_nil))) rfl)))))
theorem p_is_up {B : Bs} (g : Gd B) {f : Addr} {fd : FuncData} (F : FunD B.K "is_up" "is_up" (defArgs s_is_up) (defBody s_is_up) (defScope s_is_up) [] [] f fd) (hm : B.mg "is_up" = some (.ref f))  : FnP B 1 "is_up" 3 m_is_up :=
  fnp_of F sc_is_up hm (FunD.bindsN F fun _ _ _ _ _ _ us hl => match us, hl with | [_, _, _], _ => rfl) rfl (d_is_up g )
/-! reached -/
abbrev s_reached : Stmt := topS 15
abbrev N_reached : List Str := ["net", "some", "goal", "known", "found", "changed", "number", "begin", "end"]
noncomputable def b_reached : Sg → Res Ou := (fSeq (fSet 4 (fArgs (fCons (fV 3) fNil) dictK)) (fSeq (fSt 4 (fC (.int 0)) (fV 2)) (fSeq (fSet 5 (fC (.bool true))) (fSeq (fWhile 1000000 (fB (fV 5)) (fSeq (fSet 5 (fC (.bool false))) (fFor (iFz (fV 1)) (gN 6) (fSeq (fUnp (gTu 2 (gsCons (gN 7) (gsCons (gN 8) gsNil))) (fTwo (fTwo (fV 0) (fC (.int 1)) subK) (fV 6) subK)) (fIfS (fAndT (fB (fTwo (fV 8) (fV 4) (inK false))) (fAndT (fB (fTwo (fV 7) (fV 3) (inK true))) (fB (fTwo (fTwo (fTwo (fV 4) (fV 8) subK) (fC (.int 1)) addK) (fGet2 (fV 4) (fV 7) (fFz (fC (.int 99)))) (cmpK pLt))))) (fSeq (fSt 4 (fTwo (fTwo (fV 4) (fV 8) subK) (fC (.int 1)) addK) (fV 7)) (fSet 5 (fC (.bool true)))) fPass))))) (fRet false (fV 4))))))
noncomputable def m_reached : List OD → Res OD := semP N_reached b_reached
theorem sc_reached : FnScope N_reached ["net", "some", "goal", "known"] (defScope s_reached) := ⟨rfl, rfl, rfl, by decide +kernel, rfl, by decide +kernel, by decide +kernel⟩
theorem d_reached {B : Bs} (g : Gd B)  : DSs (B.cx N_reached (defScope s_reached) 0 false) (defBody s_reached) b_reached :=
  (dss_cons (ds_set 4 (de_dictC ⟨rfl, g.b_dict⟩ (de_var 3 rfl (by first | exact .inl rfl | exact .inr (.inl rfl) | exact .inr (.inr rfl)))) rfl (by first | exact .inl rfl | exact .inr rfl) (.inl rfl) rfl) (dss_cons (ds_st 4 de_int (de_var 2 rfl (by first | exact .inl rfl | exact .inr (.inl rfl) | exact .inr (.inr rfl))) rfl (by first | exact .inl rfl | exact .inr (.inl rfl) | exact .inr (.inr rfl))) (dss_cons (ds_set 5 de_bl rfl (by first | exact .inl rfl | exact .inr rfl) (.inl rfl) rfl) (dss_cons (ds_while 1000000 (dt_val (de_var 5 rfl (by first | exact .inl rfl | exact .inr (.inl rfl) | exact .inr (.inr rfl)))) (dss_cons (ds_set 5 de_bl rfl (by first | exact .inl rfl | exact .inr rfl) (.inl rfl) rfl) (dss_one (ds_for (di_fz (de_var 1 rfl (by first | exact .inl rfl | exact .inr (.inl rfl) | exact .inr (.inr rfl)))) (dg_name 6 rfl (by first | exact .inl rfl | exact .inr rfl) (by first | exact .inl rfl | exact .inr rfl)) (dss_cons (ds_unp (de_ix (de_ix (de_var 0 rfl (by first | exact .inl rfl | exact .inr (.inl rfl) | exact .inr (.inr rfl))) de_int (fun _ _ => rfl)) (de_var 6 rfl (by first | exact .inl rfl | exact .inr (.inl rfl) | exact .inr (.inr rfl))) (fun _ _ => rfl)) (dg_tup (n := 2) (dgs_cons (dg_name 7 rfl (by first | exact .inl rfl | exact .inr rfl) (by first | exact .inl rfl | exact .inr rfl)) (dgs_cons (dg_name 8 rfl (by first | exact .inl rfl | exact .inr rfl) (by first | exact .inl rfl | exact .inr rfl)) dgs_nil))) (.inl rfl)) (dss_one (ds_if (dt_w (dw_and (DV.dt (de_in (de_var 8 rfl (by first | exact .inl rfl | exact .inr (.inl rfl) | exact .inr (.inr rfl))) (de_var 4 rfl (by first | exact .inl rfl | exact .inr (.inl rfl) | exact .inr (.inr rfl))) rfl)) (dw_and (DV.dt (de_notIn (de_var 7 rfl (by first | exact .inl rfl | exact .inr (.inl rfl) | exact .inr (.inr rfl))) (de_var 3 rfl (by first | exact .inl rfl | exact .inr (.inl rfl) | exact .inr (.inr rfl))) rfl)) (dw_and1 (DV.dt (de_cmp cr_lt (de_add (de_ix (de_var 4 rfl (by first | exact .inl rfl | exact .inr (.inl rfl) | exact .inr (.inr rfl))) (de_var 8 rfl (by first | exact .inl rfl | exact .inr (.inl rfl) | exact .inr (.inr rfl))) (fun _ _ => rfl)) de_int) (de_get2 (de_var 4 rfl (by first | exact .inl rfl | exact .inr (.inl rfl) | exact .inr (.inr rfl))) (de_var 7 rfl (by first | exact .inl rfl | exact .inr (.inl rfl) | exact .inr (.inr rfl))) de_int (fun _ => ⟨rfl, rfl, rfl, rfl⟩)) rfl)))))) (dss_cons (ds_st 4 (de_add (de_ix (de_var 4 rfl (by first | exact .inl rfl | exact .inr (.inl rfl) | exact .inr (.inr rfl))) (de_var 8 rfl (by first | exact .inl rfl | exact .inr (.inl rfl) | exact .inr (.inr rfl))) (fun _ _ => rfl)) de_int) (de_var 7 rfl (by first | exact .inl rfl | exact .inr (.inl rfl) | exact .inr (.inr rfl))) rfl (by first | exact .inl rfl | exact .inr (.inl rfl) | exact .inr (.inr rfl))) (dss_one (ds_set 5 de_bl rfl (by first | exact .inl rfl | exact .inr rfl) (.inl rfl) rfl))) dss_nil))) (.inl rfl))))) (dss_one (ds_ret (de_var 4 rfl (by first | exact .inl rfl | exact .inr (.inl rfl) | exact .inr (.inr rfl)))))))))
theorem p_reached {B : Bs} (g : Gd B) {f : Addr} {fd : FuncData} (F : FunD B.K "reached" "reached" (defArgs s_reached) (defBody s_reached) (defScope s_reached) [] [] f fd) (hm : B.mg "reached" = some (.ref f))  : FnP B 1 "reached" 4 m_reached :=
  fnp_of F sc_reached hm (FunD.bindsN F fun _ _ _ _ _ _ us hl => match us, hl with | [_, _, _, _], _ => rfl) rfl (d_reached g )
/-! step -/
abbrev s_step : Stmt := topS 16
abbrev N_step : List Str := ["net", "some", "far", "here", "number", "begin", "end"]
noncomputable def b_step : Sg → Res Ou := (fSeq (fFor (iFz (fV 1)) (gN 4) (fSeq (fUnp (gTu 2 (gsCons (gN 5) (gsCons (gN 6) gsNil))) (fTwo (fTwo (fV 0) (fC (.int 1)) subK) (fV 4) subK)) (fIfS (fAndT (fB (fTwo (fV 5) (fV 3) (cmpK pEq))) (fAndT (fB (fTwo (fV 6) (fV 2) (inK false))) (fB (fTwo (fTwo (fTwo (fV 2) (fV 6) subK) (fC (.int 1)) addK) (fTwo (fV 2) (fV 3) subK) (cmpK pEq))))) (fRet false (fV 4)) fPass))) (fRet false (fC (.int (-1)))))
noncomputable def m_step : List OD → Res OD := semP N_step b_step
theorem sc_step : FnScope N_step ["net", "some", "far", "here"] (defScope s_step) := ⟨rfl, rfl, rfl, by decide +kernel, rfl, by decide +kernel, by decide +kernel⟩
theorem d_step {B : Bs} (g : Gd B)  : DSs (B.cx N_step (defScope s_step) 0 false) (defBody s_step) b_step :=
  (dss_cons (ds_for (di_fz (de_var 1 rfl (by first | exact .inl rfl | exact .inr (.inl rfl) | exact .inr (.inr rfl)))) (dg_name 4 rfl (by first | exact .inl rfl | exact .inr rfl) (by first | exact .inl rfl | exact .inr rfl)) (dss_cons (ds_unp (de_ix (de_ix (de_var 0 rfl (by first | exact .inl rfl | exact .inr (.inl rfl) | exact .inr (.inr rfl))) de_int (fun _ _ => rfl)) (de_var 4 rfl (by first | exact .inl rfl | exact .inr (.inl rfl) | exact .inr (.inr rfl))) (fun _ _ => rfl)) (dg_tup (n := 2) (dgs_cons (dg_name 5 rfl (by first | exact .inl rfl | exact .inr rfl) (by first | exact .inl rfl | exact .inr rfl)) (dgs_cons (dg_name 6 rfl (by first | exact .inl rfl | exact .inr rfl) (by first | exact .inl rfl | exact .inr rfl)) dgs_nil))) (.inl rfl)) (dss_one (ds_if (dt_w (dw_and (DV.dt (de_cmp cr_eq (de_var 5 rfl (by first | exact .inl rfl | exact .inr (.inl rfl) | exact .inr (.inr rfl))) (de_var 3 rfl (by first | exact .inl rfl | exact .inr (.inl rfl) | exact .inr (.inr rfl))) rfl)) (dw_and (DV.dt (de_in (de_var 6 rfl (by first | exact .inl rfl | exact .inr (.inl rfl) | exact .inr (.inr rfl))) (de_var 2 rfl (by first | exact .inl rfl | exact .inr (.inl rfl) | exact .inr (.inr rfl))) rfl)) (dw_and1 (DV.dt (de_cmp cr_eq (de_add (de_ix (de_var 2 rfl (by first | exact .inl rfl | exact .inr (.inl rfl) | exact .inr (.inr rfl))) (de_var 6 rfl (by first | exact .inl rfl | exact .inr (.inl rfl) | exact .inr (.inr rfl))) (fun _ _ => rfl)) de_int) (de_ix (de_var 2 rfl (by first | exact .inl rfl | exact .inr (.inl rfl) | exact .inr (.inr rfl))) (de_var 3 rfl (by first | exact .inl rfl | exact .inr (.inl rfl) | exact .inr (.inr rfl))) (fun _ _ => rfl)) rfl)))))) (dss_one (ds_ret (de_var 4 rfl (by first | exact .inl rfl | exact .inr (.inl rfl) | exact .inr (.inr rfl))))) dss_nil))) (.inl rfl)) (dss_one (ds_ret (de_globE g.c_NONE rfl))))
theorem p_step {B : Bs} (g : Gd B) {f : Addr} {fd : FuncData} (F : FunD B.K "step" "step" (defArgs s_step) (defBody s_step) (defScope s_step) [] [] f fd) (hm : B.mg "step" = some (.ref f))  : FnP B 1 "step" 4 m_step :=
  fnp_of F sc_step hm (FunD.bindsN F fun _ _ _ _ _ _ us hl => match us, hl with | [_, _, _, _], _ => rfl) rfl (d_step g )
/-! need_ties -/
abbrev s_need_ties : Stmt := topS 17
abbrev N_need_ties : List Str := ["net", "fallen", "root", "number"]
noncomputable def b_need_ties : Sg → Res Ou := (fSeq (fIfS (fB (fTwo (fComp [3] (iFz (fV 1)) (gN 3) (fNotT (fB (fCall m_is_between (fCons (fFz (fLk (fV 3))) (fCons (fFz (fC (.int 0))) (fCons (fFz (fTwo (fArgs (fCons (fTwo (fV 0) (fC (.int 1)) subK) fNil) lenK) (fC (.int 1)) (intK pSub))) fNil)))))) (fV 3)) (fLst fNil) (cmpK pNe))) fStuck fPass) (fIfS (fNotT (fB (fCall m_is_between (fCons (fFz (fLk (fV 2))) (fCons (fFz (fC (.int 0))) (fCons (fFz (fTwo (fTwo (fV 0) (fC (.int 0)) subK) (fC (.int 1)) (intK pSub))) fNil)))))) fStuck fPass))
noncomputable def m_need_ties : List OD → Res OD := semP N_need_ties b_need_ties
theorem sc_need_ties : FnScope N_need_ties ["net", "fallen", "root"] (defScope s_need_ties) := ⟨rfl, rfl, rfl, by decide +kernel, rfl, by decide +kernel, by decide +kernel⟩
theorem d_need_ties {B : Bs} (g : Gd B) (F_is_between : FnP B 1 "is_between" 3 m_is_between) : DSs (B.cx N_need_ties (defScope s_need_ties) 1 false) (defBody s_need_ties) b_need_ties :=
  (dss_cons (ds_if (DV.dt (de_cmp cr_ne (de_comp [("number", 3)] (di_fz (de_var 1 rfl (by first | exact .inl rfl | exact .inr (.inl rfl) | exact .inr (.inr rfl)))) rfl (dg_name 3 rfl (by first | exact .inl rfl | exact .inr rfl) (by first | exact .inl rfl | exact .inr rfl)) (dts_one (dt_not (dt_val (de_call F_is_between (Nat.le_of_ble_eq_true rfl) rfl (da_cons (de_fz (de_lk (de_var 3 rfl (by first | exact .inl rfl | exact .inr (.inl rfl) | exact .inr (.inr rfl))))) (da_cons (de_fz de_int) (da_cons (de_fz (de_sub (de_len ⟨rfl, g.b_len⟩ (de_ix (de_var 0 rfl (by first | exact .inl rfl | exact .inr (.inl rfl) | exact .inr (.inr rfl))) de_int (fun _ _ => rfl))) de_int)) da_nil))) rfl (lenA_cons (lenA_cons (lenA_cons lenA_nil))))))) (de_var 3 rfl (by first | exact .inl rfl | exact .inr (.inl rfl) | exact .inr (.inr rfl)))) (de_lst da_nil) rfl)) (dss_one ds_never) dss_nil) (dss_one (ds_if (dt_not (dt_val (de_call F_is_between (Nat.le_of_ble_eq_true rfl) rfl (da_cons (de_fz (de_lk (de_var 2 rfl (by first | exact .inl rfl | exact .inr (.inl rfl) | exact .inr (.inr rfl))))) (da_cons (de_fz de_int) (da_cons (de_fz (de_sub (de_ix (de_var 0 rfl (by first | exact .inl rfl | exact .inr (.inl rfl) | exact .inr (.inr rfl))) de_int (fun _ _ => rfl)) de_int)) da_nil))) rfl (lenA_cons (lenA_cons (lenA_cons lenA_nil)))))) (dss_one ds_never) dss_nil)))
theorem p_need_ties {B : Bs} (g : Gd B) {f : Addr} {fd : FuncData} (F : FunD B.K "need_ties" "need_ties" (defArgs s_need_ties) (defBody s_need_ties) (defScope s_need_ties) [] [] f fd) (hm : B.mg "need_ties" = some (.ref f)) (F_is_between : FnP B 1 "is_between" 3 m_is_between) : FnP B 2 "need_ties" 3 m_need_ties :=
  fnp_of F sc_need_ties hm (FunD.bindsN F fun _ _ _ _ _ _ us hl => match us, hl with | [_, _, _], _ => rfl) rfl (d_need_ties g F_is_between)
/-! bent -/
abbrev s_bent : Stmt := topS 18
abbrev N_bent : List Str := ["net", "fallen", "root", "some", "near", "ups", "downs", "rows", "goal", "down", "whole", "here", "number", "row"]
noncomputable def b_bent : Sg → Res Ou := (fSeq (fExpr (fCall m_need_net (fCons (fFz (fLk (fV 0))) fNil))) (fSeq (fExpr (fCall m_need_ties (fCons (fFz (fLk (fV 0))) (fCons (fFz (fLk (fV 1))) (fCons (fFz (fLk (fV 2))) fNil))))) (fSeq (fSet 3 (fCall m_usable (fCons (fFz (fLk (fV 0))) (fCons (fFz (fLk (fV 1))) fNil)))) (fSeq (fSet 4 (fCall m_levels (fCons (fFz (fLk (fV 0))) (fCons (fFz (fLk (fV 3))) (fCons (fFz (fLk (fV 2))) fNil))))) (fSeq (fSet 3 (fComp [12] (iFz (fV 3)) (gN 12) (fB (fTwo (fTwo (fTwo (fTwo (fV 0) (fC (.int 1)) subK) (fV 12) subK) (fC (.int 0)) subK) (fV 4) (inK false))) (fV 12))) (fSeq (fSet 5 (fComp [12] (iFz (fV 3)) (gN 12) (fB (fCall m_is_up (fCons (fFz (fLk (fV 0))) (fCons (fFz (fLk (fV 4))) (fCons (fFz (fLk (fV 12))) fNil))))) (fV 12))) (fSeq (fSet 6 (fComp [12] (iFz (fV 3)) (gN 12) (fB (fTwo (fV 12) (fV 5) (inK true))) (fV 12))) (fSeq (fSet 7 (fComp [11] (iRng1 (fTwo (fV 0) (fC (.int 0)) subK)) (gN 11) fYes (fTwo (fLst (fCons (fTk (fC (.int (-1)))) fNil)) (fTwo (fV 0) (fC (.int 0)) subK) mulK))) (fSeq (fFor (iFz (fArgs (fCons (fV 4) fNil) sortDK)) (gN 8) (fSeq (fSet 9 (fCall m_reached (fCons (fFz (fLk (fV 0))) (fCons (fFz (fLk (fV 6))) (fCons (fFz (fLk (fV 8))) (fCons (fFz (fLk (fDict0 false))) fNil)))))) (fSeq (fSet 10 (fCall m_reached (fCons (fFz (fLk (fV 0))) (fCons (fFz (fLk (fV 5))) (fCons (fFz (fLk (fV 8))) (fCons (fFz (fLk (fV 9))) fNil)))))) (fFor (iFz (fArgs (fCons (fV 4) fNil) sortDK)) (gN 11) (fIfS (fAndT (fB (fTwo (fV 11) (fV 8) (cmpK pNe))) (fB (fTwo (fV 11) (fV 10) (inK false)))) (fSt2 7 8 (fCall m_step (fCons (fFz (fLk (fV 0))) (fCons (fFz (fLk (fIf (fB (fTwo (fV 11) (fV 9) (inK false))) (fV 6) (fV 5)))) (fCons (fFz (fLk (fIf (fB (fTwo (fV 11) (fV 9) (inK false))) (fV 9) (fV 10)))) (fCons (fFz (fLk (fV 11))) fNil))))) (fV 11)) fPass))))) (fRet false (fArgs (fCons (fComp [13] (iFz (fV 7)) (gN 13) fYes (fArgs (fCons (fV 13) fNil) tupK)) fNil) tupK)))))))))))
noncomputable def m_bent : List OD → Res OD := semP N_bent b_bent
theorem sc_bent : FnScope N_bent ["net", "fallen", "root"] (defScope s_bent) := ⟨rfl, rfl, rfl, by decide +kernel, rfl, by decide +kernel, by decide +kernel⟩
theorem d_bent {B : Bs} (g : Gd B) (F_need_net : FnP B 3 "need_net" 1 m_need_net) (F_need_ties : FnP B 2 "need_ties" 3 m_need_ties) (F_usable : FnP B 1 "usable" 2 m_usable) (F_levels : FnP B 1 "levels" 3 m_levels) (F_reached : FnP B 1 "reached" 4 m_reached) (F_is_up : FnP B 1 "is_up" 3 m_is_up) (F_step : FnP B 1 "step" 4 m_step) : DSs (B.cx N_bent (defScope s_bent) 3 false) (defBody s_bent) b_bent :=
  (dss_cons (ds_expr (de_call F_need_net (Nat.le_of_ble_eq_true rfl) rfl (da_cons (de_fz (de_lk (de_var 0 rfl (by first | exact .inl rfl | exact .inr (.inl rfl) | exact .inr (.inr rfl))))) da_nil) rfl (lenA_cons lenA_nil))) (dss_cons (ds_expr (de_call F_need_ties (Nat.le_of_ble_eq_true rfl) rfl (da_cons (de_fz (de_lk (de_var 0 rfl (by first | exact .inl rfl | exact .inr (.inl rfl) | exact .inr (.inr rfl))))) (da_cons (de_fz (de_lk (de_var 1 rfl (by first | exact .inl rfl | exact .inr (.inl rfl) | exact .inr (.inr rfl))))) (da_cons (de_fz (de_lk (de_var 2 rfl (by first | exact .inl rfl | exact .inr (.inl rfl) | exact .inr (.inr rfl))))) da_nil))) rfl (lenA_cons (lenA_cons (lenA_cons lenA_nil))))) (dss_cons (ds_set 3 (de_call F_usable (Nat.le_of_ble_eq_true rfl) rfl (da_cons (de_fz (de_lk (de_var 0 rfl (by first | exact .inl rfl | exact .inr (.inl rfl) | exact .inr (.inr rfl))))) (da_cons (de_fz (de_lk (de_var 1 rfl (by first | exact .inl rfl | exact .inr (.inl rfl) | exact .inr (.inr rfl))))) da_nil)) rfl (lenA_cons (lenA_cons lenA_nil))) rfl (by first | exact .inl rfl | exact .inr rfl) (.inl rfl) rfl) (dss_cons (ds_set 4 (de_call F_levels (Nat.le_of_ble_eq_true rfl) rfl (da_cons (de_fz (de_lk (de_var 0 rfl (by first | exact .inl rfl | exact .inr (.inl rfl) | exact .inr (.inr rfl))))) (da_cons (de_fz (de_lk (de_var 3 rfl (by first | exact .inl rfl | exact .inr (.inl rfl) | exact .inr (.inr rfl))))) (da_cons (de_fz (de_lk (de_var 2 rfl (by first | exact .inl rfl | exact .inr (.inl rfl) | exact .inr (.inr rfl))))) da_nil))) rfl (lenA_cons (lenA_cons (lenA_cons lenA_nil)))) rfl (by first | exact .inl rfl | exact .inr rfl) (.inl rfl) rfl) (dss_cons (ds_setComp 3 [("number", 12)] rfl rfl rfl rfl rfl (.inl rfl) (di_fz (de_var 3 rfl (by first | exact .inl rfl | exact .inr (.inl rfl) | exact .inr (.inr rfl)))) rfl (dg_name 12 rfl (by first | exact .inl rfl | exact .inr rfl) (by first | exact .inl rfl | exact .inr rfl)) (dts_one (DV.dt (de_in (de_ix (de_ix (de_ix (de_var 0 rfl (by first | exact .inl rfl | exact .inr (.inl rfl) | exact .inr (.inr rfl))) de_int (fun _ _ => rfl)) (de_var 12 rfl (by first | exact .inl rfl | exact .inr (.inl rfl) | exact .inr (.inr rfl))) (fun _ _ => rfl)) de_int (fun _ _ => rfl)) (de_var 4 rfl (by first | exact .inl rfl | exact .inr (.inl rfl) | exact .inr (.inr rfl))) rfl))) (de_var 12 rfl (by first | exact .inl rfl | exact .inr (.inl rfl) | exact .inr (.inr rfl)))) (dss_cons (ds_setCompN 5 (de_comp [("number", 12)] (di_fz (de_var 3 rfl (by first | exact .inl rfl | exact .inr (.inl rfl) | exact .inr (.inr rfl)))) rfl (dg_name 12 rfl (by first | exact .inl rfl | exact .inr rfl) (by first | exact .inl rfl | exact .inr rfl)) (dts_one (dt_val (de_call F_is_up (Nat.le_of_ble_eq_true rfl) rfl (da_cons (de_fz (de_lk (de_var 0 rfl (by first | exact .inl rfl | exact .inr (.inl rfl) | exact .inr (.inr rfl))))) (da_cons (de_fz (de_lk (de_var 4 rfl (by first | exact .inl rfl | exact .inr (.inl rfl) | exact .inr (.inr rfl))))) (da_cons (de_fz (de_lk (de_var 12 rfl (by first | exact .inl rfl | exact .inr (.inl rfl) | exact .inr (.inr rfl))))) da_nil))) rfl (lenA_cons (lenA_cons (lenA_cons lenA_nil)))))) (de_var 12 rfl (by first | exact .inl rfl | exact .inr (.inl rfl) | exact .inr (.inr rfl)))) rfl (by first | exact .inl rfl | exact .inr rfl) (.inl rfl) rfl (.inl rfl)) (dss_cons (ds_setComp 6 [("number", 12)] rfl rfl rfl rfl rfl (.inl rfl) (di_fz (de_var 3 rfl (by first | exact .inl rfl | exact .inr (.inl rfl) | exact .inr (.inr rfl)))) rfl (dg_name 12 rfl (by first | exact .inl rfl | exact .inr rfl) (by first | exact .inl rfl | exact .inr rfl)) (dts_one (DV.dt (de_notIn (de_var 12 rfl (by first | exact .inl rfl | exact .inr (.inl rfl) | exact .inr (.inr rfl))) (de_var 5 rfl (by first | exact .inl rfl | exact .inr (.inl rfl) | exact .inr (.inr rfl))) rfl))) (de_var 12 rfl (by first | exact .inl rfl | exact .inr (.inl rfl) | exact .inr (.inr rfl)))) (dss_cons (ds_setComp 7 [("here", 11)] rfl rfl rfl rfl rfl (.inl rfl) (di_rng1 ⟨rfl, g.b_range⟩ (de_ix (de_var 0 rfl (by first | exact .inl rfl | exact .inr (.inl rfl) | exact .inr (.inr rfl))) de_int (fun _ _ => rfl))) rfl (dg_name 11 rfl (by first | exact .inl rfl | exact .inr rfl) (by first | exact .inl rfl | exact .inr rfl)) dts_nil (de_mul (de_lst (da_cons (de_tk (de_globE g.c_NONE rfl)) da_nil)) (de_ix (de_var 0 rfl (by first | exact .inl rfl | exact .inr (.inl rfl) | exact .inr (.inr rfl))) de_int (fun _ _ => rfl)))) (dss_cons (ds_for (di_fz (de_sortedD ⟨rfl, g.b_sorted⟩ (de_var 4 rfl (by first | exact .inl rfl | exact .inr (.inl rfl) | exact .inr (.inr rfl))))) (dg_name 8 rfl (by first | exact .inl rfl | exact .inr rfl) (by first | exact .inl rfl | exact .inr rfl)) (dss_cons (ds_set 9 (de_call F_reached (Nat.le_of_ble_eq_true rfl) rfl (da_cons (de_fz (de_lk (de_var 0 rfl (by first | exact .inl rfl | exact .inr (.inl rfl) | exact .inr (.inr rfl))))) (da_cons (de_fz (de_lk (de_var 6 rfl (by first | exact .inl rfl | exact .inr (.inl rfl) | exact .inr (.inr rfl))))) (da_cons (de_fz (de_lk (de_var 8 rfl (by first | exact .inl rfl | exact .inr (.inl rfl) | exact .inr (.inr rfl))))) (da_cons (de_fz (de_lk (de_dict0 false))) da_nil)))) rfl (lenA_cons (lenA_cons (lenA_cons (lenA_cons lenA_nil))))) rfl (by first | exact .inl rfl | exact .inr rfl) (.inl rfl) rfl) (dss_cons (ds_set 10 (de_call F_reached (Nat.le_of_ble_eq_true rfl) rfl (da_cons (de_fz (de_lk (de_var 0 rfl (by first | exact .inl rfl | exact .inr (.inl rfl) | exact .inr (.inr rfl))))) (da_cons (de_fz (de_lk (de_var 5 rfl (by first | exact .inl rfl | exact .inr (.inl rfl) | exact .inr (.inr rfl))))) (da_cons (de_fz (de_lk (de_var 8 rfl (by first | exact .inl rfl | exact .inr (.inl rfl) | exact .inr (.inr rfl))))) (da_cons (de_fz (de_lk (de_var 9 rfl (by first | exact .inl rfl | exact .inr (.inl rfl) | exact .inr (.inr rfl))))) da_nil)))) rfl (lenA_cons (lenA_cons (lenA_cons (lenA_cons lenA_nil))))) rfl (by first | exact .inl rfl | exact .inr rfl) (.inl rfl) rfl) (dss_one (ds_for (di_fz (de_sortedD ⟨rfl, g.b_sorted⟩ (de_var 4 rfl (by first | exact .inl rfl | exact .inr (.inl rfl) | exact .inr (.inr rfl))))) (dg_name 11 rfl (by first | exact .inl rfl | exact .inr rfl) (by first | exact .inl rfl | exact .inr rfl)) (dss_one (ds_if (dt_w (dw_and (DV.dt (de_cmp cr_ne (de_var 11 rfl (by first | exact .inl rfl | exact .inr (.inl rfl) | exact .inr (.inr rfl))) (de_var 8 rfl (by first | exact .inl rfl | exact .inr (.inl rfl) | exact .inr (.inr rfl))) rfl)) (dw_and1 (DV.dt (de_in (de_var 11 rfl (by first | exact .inl rfl | exact .inr (.inl rfl) | exact .inr (.inr rfl))) (de_var 10 rfl (by first | exact .inl rfl | exact .inr (.inl rfl) | exact .inr (.inr rfl))) rfl))))) (dss_one (ds_st2 7 8 (de_call F_step (Nat.le_of_ble_eq_true rfl) rfl (da_cons (de_fz (de_lk (de_var 0 rfl (by first | exact .inl rfl | exact .inr (.inl rfl) | exact .inr (.inr rfl))))) (da_cons (de_fz (de_lk (de_if (DV.dt (de_in (de_var 11 rfl (by first | exact .inl rfl | exact .inr (.inl rfl) | exact .inr (.inr rfl))) (de_var 9 rfl (by first | exact .inl rfl | exact .inr (.inl rfl) | exact .inr (.inr rfl))) rfl)) (de_var 6 rfl (by first | exact .inl rfl | exact .inr (.inl rfl) | exact .inr (.inr rfl))) (de_var 5 rfl (by first | exact .inl rfl | exact .inr (.inl rfl) | exact .inr (.inr rfl)))))) (da_cons (de_fz (de_lk (de_if (DV.dt (de_in (de_var 11 rfl (by first | exact .inl rfl | exact .inr (.inl rfl) | exact .inr (.inr rfl))) (de_var 9 rfl (by first | exact .inl rfl | exact .inr (.inl rfl) | exact .inr (.inr rfl))) rfl)) (de_var 9 rfl (by first | exact .inl rfl | exact .inr (.inl rfl) | exact .inr (.inr rfl))) (de_var 10 rfl (by first | exact .inl rfl | exact .inr (.inl rfl) | exact .inr (.inr rfl)))))) (da_cons (de_fz (de_lk (de_var 11 rfl (by first | exact .inl rfl | exact .inr (.inl rfl) | exact .inr (.inr rfl))))) da_nil)))) rfl (lenA_cons (lenA_cons (lenA_cons (lenA_cons lenA_nil))))) (de_var 11 rfl (by first | exact .inl rfl | exact .inr (.inl rfl) | exact .inr (.inr rfl))) (fun _ _ => rfl) rfl (by first | exact .inl rfl | exact .inr (.inl rfl) | exact .inr (.inr rfl)) rfl (by first | exact .inl rfl | exact .inr (.inl rfl) | exact .inr (.inr rfl)))) dss_nil)) (.inl rfl))))) (.inl rfl)) (dss_one (ds_ret (de_tuple ⟨rfl, g.b_tuple⟩ (de_comp [("row", 13)] (di_fz (de_var 7 rfl (by first | exact .inl rfl | exact .inr (.inl rfl) | exact .inr (.inr rfl)))) rfl (dg_name 13 rfl (by first | exact .inl rfl | exact .inr rfl) (by first | exact .inl rfl | exact .inr rfl)) dts_nil (de_tuple ⟨rfl, g.b_tuple⟩ (de_var 13 rfl (by first | exact .inl rfl | exact .inr (.inl rfl) | exact .inr (.inr rfl)))))))))))))))))
theorem p_bent {B : Bs} (g : Gd B) {f : Addr} {fd : FuncData} (F : FunD B.K "bent" "bent" (defArgs s_bent) (defBody s_bent) (defScope s_bent) [] [] f fd) (hm : B.mg "bent" = some (.ref f)) (F_need_net : FnP B 3 "need_net" 1 m_need_net) (F_need_ties : FnP B 2 "need_ties" 3 m_need_ties) (F_usable : FnP B 1 "usable" 2 m_usable) (F_levels : FnP B 1 "levels" 3 m_levels) (F_reached : FnP B 1 "reached" 4 m_reached) (F_is_up : FnP B 1 "is_up" 3 m_is_up) (F_step : FnP B 1 "step" 4 m_step) : FnP B 4 "bent" 3 m_bent :=
  fnp_of F sc_bent hm (FunD.bindsN F fun _ _ _ _ _ _ us hl => match us, hl with | [_, _, _], _ => rfl) rfl (d_bent g F_need_net F_need_ties F_usable F_levels F_reached F_is_up F_step)
/-! _law_dice -/
abbrev s__law_dice : Stmt := topS 20
abbrev N__law_dice : List Str := ["_law_script", "_law_k", "_law_found", "_law_cell"]
noncomputable def b__law_dice : Sg → Res Ou := (fSeq (fSet 2 (fV 1)) (fSeq (fFor (iFz (fV 0)) (gN 3) (fSet 2 (fTwo (fTwo (fTwo (fV 2) (fC (.int 31)) mulK) (fArgs (fCons (fV 3) fNil) absK) addK) (fC (.int 2147483647)) (intK pMod)))) (fRet false (fTwo (fLst (fCons (fTk (fV 2)) (fCons (fTk (fC (.int 0))) fNil))) (fComp [3] (iFz (fV 0)) (gN 3) (fB (fTwo (fV 3) (fTwo (fC (.int 10)) (fC (.int 18)) (intK pPow)) (cmpK pGe))) (fV 3)) addK))))
noncomputable def m__law_dice : List OD → Res OD := semP N__law_dice b__law_dice
theorem sc__law_dice : FnScope N__law_dice ["_law_script", "_law_k"] (defScope s__law_dice) := ⟨rfl, rfl, rfl, by decide +kernel, rfl, by decide +kernel, by decide +kernel⟩
theorem d__law_dice {B : Bs} (g : Gd B)  : DSs (B.cx N__law_dice (defScope s__law_dice) 0 false) (defBody s__law_dice) b__law_dice :=
  (dss_cons (ds_set 2 (de_var 1 rfl (by first | exact .inl rfl | exact .inr (.inl rfl) | exact .inr (.inr rfl))) rfl (by first | exact .inl rfl | exact .inr rfl) (.inl rfl) rfl) (dss_cons (ds_for (di_fz (de_var 0 rfl (by first | exact .inl rfl | exact .inr (.inl rfl) | exact .inr (.inr rfl)))) (dg_name 3 rfl (by first | exact .inl rfl | exact .inr rfl) (by first | exact .inl rfl | exact .inr rfl)) (dss_one (ds_set 2 (de_mod (de_add (de_mul (de_var 2 rfl (by first | exact .inl rfl | exact .inr (.inl rfl) | exact .inr (.inr rfl))) de_int) (de_abs ⟨rfl, g.b_abs⟩ (de_var 3 rfl (by first | exact .inl rfl | exact .inr (.inl rfl) | exact .inr (.inr rfl))))) de_int) rfl (by first | exact .inl rfl | exact .inr rfl) (.inl rfl) rfl)) (.inl rfl)) (dss_one (ds_ret (de_add (de_lst (da_cons (de_tk (de_var 2 rfl (by first | exact .inl rfl | exact .inr (.inl rfl) | exact .inr (.inr rfl)))) (da_cons (de_tk de_int) da_nil))) (de_comp [("_law_cell", 3)] (di_fz (de_var 0 rfl (by first | exact .inl rfl | exact .inr (.inl rfl) | exact .inr (.inr rfl)))) rfl (dg_name 3 rfl (by first | exact .inl rfl | exact .inr rfl) (by first | exact .inl rfl | exact .inr rfl)) (dts_one (DV.dt (de_cmp cr_ge (de_var 3 rfl (by first | exact .inl rfl | exact .inr (.inl rfl) | exact .inr (.inr rfl))) (de_pow de_int de_int) rfl))) (de_var 3 rfl (by first | exact .inl rfl | exact .inr (.inl rfl) | exact .inr (.inr rfl)))))))))
theorem p__law_dice {B : Bs} (g : Gd B) {f : Addr} {fd : FuncData} (F : FunD B.K "_law_dice" "_law_dice" (defArgs s__law_dice) (defBody s__law_dice) (defScope s__law_dice) [] [] f fd) (hm : B.mg "_law_dice" = some (.ref f))  : FnP B 1 "_law_dice" 2 m__law_dice :=
  fnp_of F sc__law_dice hm (FunD.bindsN F fun _ _ _ _ _ _ us hl => match us, hl with | [_, _], _ => rfl) rfl (d__law_dice g )
/-! _law_off -/
abbrev s__law_off : Stmt := topS 21
abbrev N__law_off : List Str := ["_law_d", "_law_most", "_law_found"]
noncomputable def b__law_off : Sg → Res Ou := (fSeq (fIfS (fAndT (fB (fTwo (fTwo (fV 0) (fC (.int 1)) subK) (fC (.int 0)) (cmpK pEq))) (fB (fTwo (fArgs (fCons (fV 0) fNil) lenK) (fC (.int 2)) (cmpK pGt)))) (fSt 0 (fMeth isL (fV 0) (fCons (fC (.int 2)) fNil) popK) (fC (.int 1))) fPass) (fSeq (fIfS (fB (fTwo (fTwo (fV 0) (fC (.int 1)) subK) (fC (.int 0)) (cmpK pGt))) (fSeq (fSet 2 (fTwo (fTwo (fV 0) (fC (.int 1)) subK) (fV 1) (intK pMod))) (fSeq (fSt 0 (fTwo (fTwo (fV 0) (fC (.int 1)) subK) (fV 1) (intK pDiv)) (fC (.int 1))) (fRet true (fV 2)))) fPass) (fSeq (fSt 0 (fTwo (fTwo (fTwo (fTwo (fV 0) (fC (.int 0)) subK) (fC (.int 48271)) mulK) (fC (.int 11)) addK) (fC (.int 2147483647)) (intK pMod)) (fC (.int 0))) (fRet true (fTwo (fTwo (fTwo (fV 0) (fC (.int 0)) subK) (fC (.int 64)) (intK pDiv)) (fV 1) (intK pMod))))))
noncomputable def m__law_off : OD → List OD → Res (OD × OD) := semD N__law_off b__law_off
theorem sc__law_off : FnScope N__law_off ["_law_d", "_law_most"] (defScope s__law_off) := ⟨rfl, rfl, rfl, by decide +kernel, rfl, by decide +kernel, by decide +kernel⟩
theorem d__law_off {B : Bs} (g : Gd B)  : DSs (B.cx N__law_off (defScope s__law_off) 0 true) (defBody s__law_off) b__law_off :=
  (dss_cons (ds_if (dt_w (dw_and (DV.dt (de_cmp cr_eq (de_ix (de_var 0 rfl (by first | exact .inl rfl | exact .inr (.inl rfl) | exact .inr (.inr rfl))) de_int (fun _ _ => rfl)) de_int rfl)) (dw_and1 (DV.dt (de_cmp cr_gt (de_len ⟨rfl, g.b_len⟩ (de_var 0 rfl (by first | exact .inl rfl | exact .inr (.inl rfl) | exact .inr (.inr rfl)))) de_int rfl))))) (dss_one (ds_st 0 (de_pop (de_var 0 rfl (by first | exact .inl rfl | exact .inr (.inl rfl) | exact .inr (.inr rfl))) de_int ⟨fun _ => rfl, fun _ => rfl, rfl, fun _ => rfl⟩) de_int rfl (by first | exact .inl rfl | exact .inr (.inl rfl) | exact .inr (.inr rfl)))) dss_nil) (dss_cons (ds_if (DV.dt (de_cmp cr_gt (de_ix (de_var 0 rfl (by first | exact .inl rfl | exact .inr (.inl rfl) | exact .inr (.inr rfl))) de_int (fun _ _ => rfl)) de_int rfl)) (dss_cons (ds_set 2 (de_mod (de_ix (de_var 0 rfl (by first | exact .inl rfl | exact .inr (.inl rfl) | exact .inr (.inr rfl))) de_int (fun _ _ => rfl)) (de_var 1 rfl (by first | exact .inl rfl | exact .inr (.inl rfl) | exact .inr (.inr rfl)))) rfl (by first | exact .inl rfl | exact .inr rfl) (.inr (by decide)) rfl) (dss_cons (ds_st 0 (de_div (de_ix (de_var 0 rfl (by first | exact .inl rfl | exact .inr (.inl rfl) | exact .inr (.inr rfl))) de_int (fun _ _ => rfl)) (de_var 1 rfl (by first | exact .inl rfl | exact .inr (.inl rfl) | exact .inr (.inr rfl)))) de_int rfl (by first | exact .inl rfl | exact .inr (.inl rfl) | exact .inr (.inr rfl))) (dss_one (ds_ret (de_var 2 rfl (by first | exact .inl rfl | exact .inr (.inl rfl) | exact .inr (.inr rfl))))))) dss_nil) (dss_cons (ds_st 0 (de_mod (de_add (de_mul (de_ix (de_var 0 rfl (by first | exact .inl rfl | exact .inr (.inl rfl) | exact .inr (.inr rfl))) de_int (fun _ _ => rfl)) de_int) de_int) de_int) de_int rfl (by first | exact .inl rfl | exact .inr (.inl rfl) | exact .inr (.inr rfl))) (dss_one (ds_ret (de_mod (de_div (de_ix (de_var 0 rfl (by first | exact .inl rfl | exact .inr (.inl rfl) | exact .inr (.inr rfl))) de_int (fun _ _ => rfl)) de_int) (de_var 1 rfl (by first | exact .inl rfl | exact .inr (.inl rfl) | exact .inr (.inr rfl)))))))))
theorem p__law_off {B : Bs} (g : Gd B) {f : Addr} {fd : FuncData} (F : FunD B.K "_law_off" "_law_off" (defArgs s__law_off) (defBody s__law_off) (defScope s__law_off) [] [] f fd) (hm : B.mg "_law_off" = some (.ref f))  : FnD B 1 "_law_off" 2 m__law_off :=
  fnd_of F sc__law_off hm (FunD.bindsN F fun _ _ _ _ _ _ us hl => match us, hl with | [_, _], _ => rfl) rfl (d__law_off g )
/-! _law_alike -/
abbrev s__law_alike : Stmt := topS 22
abbrev N__law_alike : List Str := ["_law_found", "_law_due_here", "_law_k"]
noncomputable def b__law_alike (m_self : List OD → Res OD) : Sg → Res Ou := (fSeq (fIfS (fB (fIsN false (fV 1))) (fRet false (fIsN false (fV 0))) fPass) (fSeq (fIfS (fB (isaK PyData.isBool (fV 1))) (fRet false (fAnd (isaK PyData.isBool (fV 0)) (fTwo (fV 0) (fV 1) (cmpK pEq)))) fPass) (fSeq (fIfS (fB (isaK PyData.isInt (fV 1))) (fRet false (fAnd (isaK PyData.isInt (fV 0)) (fAnd (fNot (isaK PyData.isBool (fV 0))) (fTwo (fV 0) (fV 1) (cmpK pEq))))) fPass) (fSeq (fIfS (fB (isaK PyData.isStr (fV 1))) (fRet false (fAnd (isaK PyData.isStr (fV 0)) (fTwo (fV 0) (fV 1) (cmpK pEq)))) fPass) (fSeq (fIfS (fOrT (fB (fTwo (isaK PyData.isTuple (fV 1)) (isaK PyData.isTuple (fV 0)) (cmpK pNe))) (fB (fTwo (isaK PyData.isList (fV 1)) (isaK PyData.isList (fV 0)) (cmpK pNe)))) (fRet false (fC (.bool false))) fPass) (fSeq (fIfS (fB (fTwo (fArgs (fCons (fV 0) fNil) lenK) (fArgs (fCons (fV 1) fNil) lenK) (cmpK pNe))) (fRet false (fC (.bool false))) fPass) (fRet false (fArgs (fCons (fComp [2] (iRng1 (fArgs (fCons (fV 1) fNil) lenK)) (gN 2) fYes (fCall m_self (fCons (fFz (fTwo (fV 0) (fV 2) subK)) (fCons (fFz (fTwo (fV 1) (fV 2) subK)) fNil)))) fNil) allK))))))))
noncomputable def r__law_alike : Nat → List OD → Res OD
  | 0 => semP N__law_alike fStuck
  | d + 1 => semP N__law_alike (b__law_alike (r__law_alike d))
noncomputable def m__law_alike : List OD → Res OD := r__law_alike 8
theorem sc__law_alike : FnScope N__law_alike ["_law_found", "_law_due_here"] (defScope s__law_alike) := ⟨rfl, rfl, rfl, by decide +kernel, rfl, by decide +kernel, by decide +kernel⟩
theorem d__law_alike {B : Bs} (g : Gd B)  (dd : Nat) (m_self : List OD → Res OD) (F_self : FnP B (0 + dd) "_law_alike" 2 m_self) : DSs (B.cx N__law_alike (defScope s__law_alike) (0 + dd) false) (defBody s__law_alike) (b__law_alike m_self) :=
  (dss_cons (ds_if (DV.dt (de_isN (de_var 1 rfl (by first | exact .inl rfl | exact .inr (.inl rfl) | exact .inr (.inr rfl))))) (dss_one (ds_ret (DV.de (de_isN (de_var 0 rfl (by first | exact .inl rfl | exact .inr (.inl rfl) | exact .inr (.inr rfl))))))) dss_nil) (dss_cons (ds_if (dt_val (de_isa isa_bool ⟨rfl, g.b_isinstance⟩ ⟨rfl, g.b_bool⟩ (by decide +kernel) (de_var 1 rfl (by first | exact .inl rfl | exact .inr (.inl rfl) | exact .inr (.inr rfl))))) (dss_one (ds_ret (de_and (de_isa isa_bool ⟨rfl, g.b_isinstance⟩ ⟨rfl, g.b_bool⟩ (by decide +kernel) (de_var 0 rfl (by first | exact .inl rfl | exact .inr (.inl rfl) | exact .inr (.inr rfl)))) (de_one (DV.de (de_cmp cr_eq (de_var 0 rfl (by first | exact .inl rfl | exact .inr (.inl rfl) | exact .inr (.inr rfl))) (de_var 1 rfl (by first | exact .inl rfl | exact .inr (.inl rfl) | exact .inr (.inr rfl))) rfl)))))) dss_nil) (dss_cons (ds_if (dt_val (de_isa isa_int ⟨rfl, g.b_isinstance⟩ ⟨rfl, g.b_int⟩ (by decide +kernel) (de_var 1 rfl (by first | exact .inl rfl | exact .inr (.inl rfl) | exact .inr (.inr rfl))))) (dss_one (ds_ret (de_and (de_isa isa_int ⟨rfl, g.b_isinstance⟩ ⟨rfl, g.b_int⟩ (by decide +kernel) (de_var 0 rfl (by first | exact .inl rfl | exact .inr (.inl rfl) | exact .inr (.inr rfl)))) (de_and (de_not (de_isa isa_bool ⟨rfl, g.b_isinstance⟩ ⟨rfl, g.b_bool⟩ (by decide +kernel) (de_var 0 rfl (by first | exact .inl rfl | exact .inr (.inl rfl) | exact .inr (.inr rfl))))) (de_one (DV.de (de_cmp cr_eq (de_var 0 rfl (by first | exact .inl rfl | exact .inr (.inl rfl) | exact .inr (.inr rfl))) (de_var 1 rfl (by first | exact .inl rfl | exact .inr (.inl rfl) | exact .inr (.inr rfl))) rfl))))))) dss_nil) (dss_cons (ds_if (dt_val (de_isa isa_str ⟨rfl, g.b_isinstance⟩ ⟨rfl, g.b_str⟩ (by decide +kernel) (de_var 1 rfl (by first | exact .inl rfl | exact .inr (.inl rfl) | exact .inr (.inr rfl))))) (dss_one (ds_ret (de_and (de_isa isa_str ⟨rfl, g.b_isinstance⟩ ⟨rfl, g.b_str⟩ (by decide +kernel) (de_var 0 rfl (by first | exact .inl rfl | exact .inr (.inl rfl) | exact .inr (.inr rfl)))) (de_one (DV.de (de_cmp cr_eq (de_var 0 rfl (by first | exact .inl rfl | exact .inr (.inl rfl) | exact .inr (.inr rfl))) (de_var 1 rfl (by first | exact .inl rfl | exact .inr (.inl rfl) | exact .inr (.inr rfl))) rfl)))))) dss_nil) (dss_cons (ds_if (dt_w (dw_or (DV.dt (de_cmp cr_ne (de_isa isa_tuple ⟨rfl, g.b_isinstance⟩ ⟨rfl, g.b_tuple⟩ (by decide +kernel) (de_var 1 rfl (by first | exact .inl rfl | exact .inr (.inl rfl) | exact .inr (.inr rfl)))) (de_isa isa_tuple ⟨rfl, g.b_isinstance⟩ ⟨rfl, g.b_tuple⟩ (by decide +kernel) (de_var 0 rfl (by first | exact .inl rfl | exact .inr (.inl rfl) | exact .inr (.inr rfl)))) rfl)) (dw_or1 (DV.dt (de_cmp cr_ne (de_isa isa_list ⟨rfl, g.b_isinstance⟩ ⟨rfl, g.b_list⟩ (by decide +kernel) (de_var 1 rfl (by first | exact .inl rfl | exact .inr (.inl rfl) | exact .inr (.inr rfl)))) (de_isa isa_list ⟨rfl, g.b_isinstance⟩ ⟨rfl, g.b_list⟩ (by decide +kernel) (de_var 0 rfl (by first | exact .inl rfl | exact .inr (.inl rfl) | exact .inr (.inr rfl)))) rfl))))) (dss_one (ds_ret de_bl)) dss_nil) (dss_cons (ds_if (DV.dt (de_cmp cr_ne (de_len ⟨rfl, g.b_len⟩ (de_var 0 rfl (by first | exact .inl rfl | exact .inr (.inl rfl) | exact .inr (.inr rfl)))) (de_len ⟨rfl, g.b_len⟩ (de_var 1 rfl (by first | exact .inl rfl | exact .inr (.inl rfl) | exact .inr (.inr rfl)))) rfl)) (dss_one (ds_ret de_bl)) dss_nil) (dss_one (ds_ret (de_all ⟨rfl, g.b_all⟩ (de_comp [("_law_k", 2)] (di_rng1 ⟨rfl, g.b_range⟩ (de_len ⟨rfl, g.b_len⟩ (de_var 1 rfl (by first | exact .inl rfl | exact .inr (.inl rfl) | exact .inr (.inr rfl))))) rfl (dg_name 2 rfl (by first | exact .inl rfl | exact .inr rfl) (by first | exact .inl rfl | exact .inr rfl)) dts_nil (de_call F_self (Nat.le_refl _) rfl (da_cons (de_fz (de_ix (de_var 0 rfl (by first | exact .inl rfl | exact .inr (.inl rfl) | exact .inr (.inr rfl))) (de_var 2 rfl (by first | exact .inl rfl | exact .inr (.inl rfl) | exact .inr (.inr rfl))) (fun _ _ => rfl))) (da_cons (de_fz (de_ix (de_var 1 rfl (by first | exact .inl rfl | exact .inr (.inl rfl) | exact .inr (.inr rfl))) (de_var 2 rfl (by first | exact .inl rfl | exact .inr (.inl rfl) | exact .inr (.inr rfl))) (fun _ _ => rfl))) da_nil)) rfl (lenA_cons (lenA_cons lenA_nil)))))))))))))
theorem p__law_alike {B : Bs} (g : Gd B) {f : Addr} {fd : FuncData} (F : FunD B.K "_law_alike" "_law_alike" (defArgs s__law_alike) (defBody s__law_alike) (defScope s__law_alike) [] [] f fd) (hm : B.mg "_law_alike" = some (.ref f))  : FnP B 9 "_law_alike" 2 m__law_alike := by
  have b := FunD.bindsN (ps := ["_law_found", "_law_due_here"]) F fun _ _ _ _ _ _ us hl => match us, hl with | [_, _], _ => rfl
  have all : ∀ d, FnP B (0 + d + 1) "_law_alike" 2 (r__law_alike d) := fun d => by
    induction d with
    | zero => exact fnp_of F sc__law_alike hm b rfl dss_never
    | succ d ih => exact fnp_of F sc__law_alike hm b rfl (d__law_alike g  (d + 1) _ ih)
  exact all 8
/-! _law_mixed -/
abbrev s__law_mixed : Stmt := topS 23
abbrev N__law_mixed : List Str := ["_law_d", "_law_row", "_law_left", "_law_found"]
noncomputable def b__law_mixed : Sg → Res Ou := (fSeq (fSet 2 (fArgs (fCons (fV 1) fNil) listK)) (fSeq (fSet 3 (fLst fNil)) (fSeq (fWhile 1000000 (fB (fTwo (fV 2) (fLst fNil) (cmpK pNe))) (fExpr (fMeth isL (fV 3) (fCons (fTk (fMeth isL (fV 2) (fCons (fCallD m__law_off (fCons (fV 0) (fCons (fFz (fArgs (fCons (fV 2) fNil) lenK)) fNil))) fNil) popK)) fNil) appendK))) (fRet true (fV 3)))))
noncomputable def m__law_mixed : OD → List OD → Res (OD × OD) := semD N__law_mixed b__law_mixed
theorem sc__law_mixed : FnScope N__law_mixed ["_law_d", "_law_row"] (defScope s__law_mixed) := ⟨rfl, rfl, rfl, by decide +kernel, rfl, by decide +kernel, by decide +kernel⟩
theorem d__law_mixed {B : Bs} (g : Gd B) (F__law_off : FnD B 1 "_law_off" 2 m__law_off) : DSs (B.cx N__law_mixed (defScope s__law_mixed) 1 true) (defBody s__law_mixed) b__law_mixed :=
  (dss_cons (ds_set 2 (de_list ⟨rfl, g.b_list⟩ (de_var 1 rfl (by first | exact .inl rfl | exact .inr (.inl rfl) | exact .inr (.inr rfl)))) rfl (by first | exact .inl rfl | exact .inr rfl) (.inr (by decide)) rfl) (dss_cons (ds_set 3 (de_lst da_nil) rfl (by first | exact .inl rfl | exact .inr rfl) (.inr (by decide)) rfl) (dss_cons (ds_while 1000000 (DV.dt (de_cmp cr_ne (de_var 2 rfl (by first | exact .inl rfl | exact .inr (.inl rfl) | exact .inr (.inr rfl))) (de_lst da_nil) rfl)) (dss_one (ds_expr (de_append (de_var 3 rfl (by first | exact .inl rfl | exact .inr (.inl rfl) | exact .inr (.inr rfl))) (de_pop (de_var 2 rfl (by first | exact .inl rfl | exact .inr (.inl rfl) | exact .inr (.inr rfl))) (de_callD F__law_off (Nat.le_of_ble_eq_true rfl) rfl (da_cons (de_var 0 rfl (by first | exact .inl rfl | exact .inr (.inl rfl) | exact .inr (.inr rfl))) (da_cons (de_fz (de_len ⟨rfl, g.b_len⟩ (de_var 2 rfl (by first | exact .inl rfl | exact .inr (.inl rfl) | exact .inr (.inr rfl))))) da_nil)) (lenA_cons (lenA_cons lenA_nil))) ⟨fun _ => rfl, fun _ => rfl, rfl, fun _ => rfl⟩) ⟨fun _ => rfl, fun _ => rfl, rfl, fun _ => rfl⟩)))) (dss_one (ds_ret (de_var 3 rfl (by first | exact .inl rfl | exact .inr (.inl rfl) | exact .inr (.inr rfl))))))))
theorem p__law_mixed {B : Bs} (g : Gd B) {f : Addr} {fd : FuncData} (F : FunD B.K "_law_mixed" "_law_mixed" (defArgs s__law_mixed) (defBody s__law_mixed) (defScope s__law_mixed) [] [] f fd) (hm : B.mg "_law_mixed" = some (.ref f)) (F__law_off : FnD B 1 "_law_off" 2 m__law_off) : FnD B 2 "_law_mixed" 2 m__law_mixed :=
  fnd_of F sc__law_mixed hm (FunD.bindsN F fun _ _ _ _ _ _ us hl => match us, hl with | [_, _], _ => rfl) rfl (d__law_mixed g F__law_off)
/-! _law_net -/
abbrev s__law_net : Stmt := topS 24
abbrev N__law_net : List Str := ["_law_d", "_law_most", "_law_many", "_law_kind", "_law_ties", "_law_k", "_law_turn", "_law_begin", "_law_tie", "_law_end", "_law_j"]
noncomputable def b__law_net : Sg → Res Ou := (fSeq (fSet 2 (fTwo (fC (.int 2)) (fCallD m__law_off (fCons (fV 0) (fCons (fFz (fTwo (fV 1) (fC (.int 1)) (intK pSub))) fNil))) addK)) (fSeq (fSet 3 (fCallD m__law_off (fCons (fV 0) (fCons (fFz (fC (.int 5))) fNil)))) (fSeq (fSet 4 (fComp [5] (iRng1 (fV 2)) (gN 5) fYes (fTup (fCons (fFz (fV 5)) (fCons (fFz (fTwo (fTwo (fV 5) (fC (.int 1)) addK) (fV 2) (intK pMod))) fNil))))) (fSeq (fIfS (fB (fTwo (fV 3) (fC (.int 1)) (cmpK pEq))) (fSet 4 (fTwo (fV 4) (fComp [7, 9] (iFz (fV 4)) (gTu 2 (gsCons (gN 7) (gsCons (gN 9) gsNil))) fYes (fTup (fCons (fFz (fV 9)) (fCons (fFz (fV 7)) fNil)))) addK)) fPass) (fSeq (fIfS (fB (fTwo (fV 3) (fC (.int 2)) (cmpK pEq))) (fSet 4 (fTwo (fComp [5] (iRng1 (fTwo (fV 2) (fC (.int 1)) (intK pSub))) (gN 5) fYes (fTup (fCons (fFz (fV 5)) (fCons (fFz (fTwo (fV 5) (fC (.int 1)) addK)) fNil)))) (fComp [5] (iRng1 (fTwo (fV 2) (fC (.int 1)) (intK pSub))) (gN 5) fYes (fTup (fCons (fFz (fTwo (fV 5) (fC (.int 1)) addK)) (fCons (fFz (fV 5)) fNil)))) addK)) fPass) (fSeq (fIfS (fB (fTwo (fV 3) (fC (.int 3)) (cmpK pEq))) (fSeq (fSet 4 (fLst fNil)) (fFor (iRng1 (fV 2)) (gN 5) (fExpr (fMeth isL (fV 4) (fCons (fTwo (fComp [10] (iFz (fTup (fCons (fFz (fTwo (fV 5) (fC (.int 1)) addK)) (fCons (fFz (fTwo (fV 5) (fC (.int 2)) addK)) fNil)))) (gN 10) (fB (fTwo (fV 10) (fV 2) (cmpK pLt))) (fTup (fCons (fFz (fV 5)) (fCons (fFz (fV 10)) fNil)))) (fComp [10] (iFz (fTup (fCons (fFz (fTwo (fV 5) (fC (.int 1)) addK)) (fCons (fFz (fTwo (fV 5) (fC (.int 2)) addK)) fNil)))) (gN 10) (fB (fTwo (fV 10) (fV 2) (cmpK pLt))) (fTup (fCons (fFz (fV 10)) (fCons (fFz (fV 5)) fNil)))) addK) fNil) extendK)))) fPass) (fSeq (fIfS (fB (fTwo (fV 3) (fC (.int 4)) (cmpK pEq))) (fSeq (fSet 4 (fComp [5] (iRng1 (fV 2)) (gN 5) fYes (fTup (fCons (fFz (fV 5)) (fCons (fFz (fTwo (fTwo (fTwo (fV 5) (fC (.int 1)) addK) (fCallD m__law_off (fCons (fV 0) (fCons (fFz (fTwo (fV 2) (fC (.int 1)) (intK pSub))) fNil))) addK) (fV 2) (intK pMod))) fNil))))) (fFor (iRng1 (fCallD m__law_off (fCons (fV 0) (fCons (fFz (fTwo (fC (.int 2)) (fV 2) mulK)) fNil)))) (gN 6) (fSeq (fSet 7 (fCallD m__law_off (fCons (fV 0) (fCons (fFz (fLk (fV 2))) fNil)))) (fExpr (fMeth isL (fV 4) (fCons (fTk (fTup (fCons (fFz (fV 7)) (fCons (fFz (fTwo (fTwo (fTwo (fV 7) (fC (.int 1)) addK) (fCallD m__law_off (fCons (fV 0) (fCons (fFz (fTwo (fV 2) (fC (.int 1)) (intK pSub))) fNil))) addK) (fV 2) (intK pMod))) fNil)))) fNil) appendK))))) fPass) (fSeq (fSet 4 (fComp [5, 8] (iEnumF (fV 4)) (gTu 2 (gsCons (gN 5) (gsCons (gN 8) gsNil))) (fB (fTwo (fV 8) (fSlice (fV 4) fNo (fSo (fV 5))) (inK true))) (fV 8))) (fRet true (fTup (fCons (fFz (fV 2)) (fCons (fFz (fArgs (fCons (fSlice (fCallD m__law_mixed (fCons (fV 0) (fCons (fFz (fLk (fV 4))) fNil))) fNo (fSo (fC (.int 24)))) fNil) tupK)) fNil))))))))))))
noncomputable def m__law_net : OD → List OD → Res (OD × OD) := semD N__law_net b__law_net
theorem sc__law_net : FnScope N__law_net ["_law_d", "_law_most"] (defScope s__law_net) := ⟨rfl, rfl, rfl, by decide +kernel, rfl, by decide +kernel, by decide +kernel⟩
theorem d__law_net {B : Bs} (g : Gd B) (F__law_off : FnD B 1 "_law_off" 2 m__law_off) (F__law_mixed : FnD B 2 "_law_mixed" 2 m__law_mixed) : DSs (B.cx N__law_net (defScope s__law_net) 2 true) (defBody s__law_net) b__law_net :=
  (dss_cons (ds_set 2 (de_add de_int (de_callD F__law_off (Nat.le_of_ble_eq_true rfl) rfl (da_cons (de_var 0 rfl (by first | exact .inl rfl | exact .inr (.inl rfl) | exact .inr (.inr rfl))) (da_cons (de_fz (de_sub (de_var 1 rfl (by first | exact .inl rfl | exact .inr (.inl rfl) | exact .inr (.inr rfl))) de_int)) da_nil)) (lenA_cons (lenA_cons lenA_nil)))) rfl (by first | exact .inl rfl | exact .inr rfl) (.inr (by decide)) rfl) (dss_cons (ds_set 3 (de_callD F__law_off (Nat.le_of_ble_eq_true rfl) rfl (da_cons (de_var 0 rfl (by first | exact .inl rfl | exact .inr (.inl rfl) | exact .inr (.inr rfl))) (da_cons (de_fz de_int) da_nil)) (lenA_cons (lenA_cons lenA_nil))) rfl (by first | exact .inl rfl | exact .inr rfl) (.inr (by decide)) rfl) (dss_cons (ds_setCompN 4 (de_comp [("_law_k", 5)] (di_rng1 ⟨rfl, g.b_range⟩ (de_var 2 rfl (by first | exact .inl rfl | exact .inr (.inl rfl) | exact .inr (.inr rfl)))) rfl (dg_name 5 rfl (by first | exact .inl rfl | exact .inr rfl) (by first | exact .inl rfl | exact .inr rfl)) dts_nil (de_tup (da_cons (de_fz (de_var 5 rfl (by first | exact .inl rfl | exact .inr (.inl rfl) | exact .inr (.inr rfl)))) (da_cons (de_fz (de_mod (de_add (de_var 5 rfl (by first | exact .inl rfl | exact .inr (.inl rfl) | exact .inr (.inr rfl))) de_int) (de_var 2 rfl (by first | exact .inl rfl | exact .inr (.inl rfl) | exact .inr (.inr rfl))))) da_nil)))) rfl (by first | exact .inl rfl | exact .inr rfl) (.inr (by decide)) rfl (.inl rfl)) (dss_cons (ds_if (DV.dt (de_cmp cr_eq (de_var 3 rfl (by first | exact .inl rfl | exact .inr (.inl rfl) | exact .inr (.inr rfl))) de_int rfl)) (dss_one (ds_set 4 (de_add (de_var 4 rfl (by first | exact .inl rfl | exact .inr (.inl rfl) | exact .inr (.inr rfl))) (de_comp [("_law_begin", 7), ("_law_end", 9)] (di_fz (de_var 4 rfl (by first | exact .inl rfl | exact .inr (.inl rfl) | exact .inr (.inr rfl)))) rfl (dg_tup (n := 2) (dgs_cons (dg_name 7 rfl (by first | exact .inl rfl | exact .inr rfl) (by first | exact .inl rfl | exact .inr rfl)) (dgs_cons (dg_name 9 rfl (by first | exact .inl rfl | exact .inr rfl) (by first | exact .inl rfl | exact .inr rfl)) dgs_nil))) dts_nil (de_tup (da_cons (de_fz (de_var 9 rfl (by first | exact .inl rfl | exact .inr (.inl rfl) | exact .inr (.inr rfl)))) (da_cons (de_fz (de_var 7 rfl (by first | exact .inl rfl | exact .inr (.inl rfl) | exact .inr (.inr rfl)))) da_nil))))) rfl (by first | exact .inl rfl | exact .inr rfl) (.inr (by decide)) rfl)) dss_nil) (dss_cons (ds_if (DV.dt (de_cmp cr_eq (de_var 3 rfl (by first | exact .inl rfl | exact .inr (.inl rfl) | exact .inr (.inr rfl))) de_int rfl)) (dss_one (ds_set 4 (de_add (de_comp [("_law_k", 5)] (di_rng1 ⟨rfl, g.b_range⟩ (de_sub (de_var 2 rfl (by first | exact .inl rfl | exact .inr (.inl rfl) | exact .inr (.inr rfl))) de_int)) rfl (dg_name 5 rfl (by first | exact .inl rfl | exact .inr rfl) (by first | exact .inl rfl | exact .inr rfl)) dts_nil (de_tup (da_cons (de_fz (de_var 5 rfl (by first | exact .inl rfl | exact .inr (.inl rfl) | exact .inr (.inr rfl)))) (da_cons (de_fz (de_add (de_var 5 rfl (by first | exact .inl rfl | exact .inr (.inl rfl) | exact .inr (.inr rfl))) de_int)) da_nil)))) (de_comp [("_law_k", 5)] (di_rng1 ⟨rfl, g.b_range⟩ (de_sub (de_var 2 rfl (by first | exact .inl rfl | exact .inr (.inl rfl) | exact .inr (.inr rfl))) de_int)) rfl (dg_name 5 rfl (by first | exact .inl rfl | exact .inr rfl) (by first | exact .inl rfl | exact .inr rfl)) dts_nil (de_tup (da_cons (de_fz (de_add (de_var 5 rfl (by first | exact .inl rfl | exact .inr (.inl rfl) | exact .inr (.inr rfl))) de_int)) (da_cons (de_fz (de_var 5 rfl (by first | exact .inl rfl | exact .inr (.inl rfl) | exact .inr (.inr rfl)))) da_nil))))) rfl (by first | exact .inl rfl | exact .inr rfl) (.inr (by decide)) rfl)) dss_nil) (dss_cons (ds_if (DV.dt (de_cmp cr_eq (de_var 3 rfl (by first | exact .inl rfl | exact .inr (.inl rfl) | exact .inr (.inr rfl))) de_int rfl)) (dss_cons (ds_set 4 (de_lst da_nil) rfl (by first | exact .inl rfl | exact .inr rfl) (.inr (by decide)) rfl) (dss_one (ds_for (di_rng1 ⟨rfl, g.b_range⟩ (de_var 2 rfl (by first | exact .inl rfl | exact .inr (.inl rfl) | exact .inr (.inr rfl)))) (dg_name 5 rfl (by first | exact .inl rfl | exact .inr rfl) (by first | exact .inl rfl | exact .inr rfl)) (dss_one (ds_expr (de_extend (de_var 4 rfl (by first | exact .inl rfl | exact .inr (.inl rfl) | exact .inr (.inr rfl))) (de_add (de_comp [("_law_j", 10)] (di_fz (de_tup (da_cons (de_fz (de_add (de_var 5 rfl (by first | exact .inl rfl | exact .inr (.inl rfl) | exact .inr (.inr rfl))) de_int)) (da_cons (de_fz (de_add (de_var 5 rfl (by first | exact .inl rfl | exact .inr (.inl rfl) | exact .inr (.inr rfl))) de_int)) da_nil)))) rfl (dg_name 10 rfl (by first | exact .inl rfl | exact .inr rfl) (by first | exact .inl rfl | exact .inr rfl)) (dts_one (DV.dt (de_cmp cr_lt (de_var 10 rfl (by first | exact .inl rfl | exact .inr (.inl rfl) | exact .inr (.inr rfl))) (de_var 2 rfl (by first | exact .inl rfl | exact .inr (.inl rfl) | exact .inr (.inr rfl))) rfl))) (de_tup (da_cons (de_fz (de_var 5 rfl (by first | exact .inl rfl | exact .inr (.inl rfl) | exact .inr (.inr rfl)))) (da_cons (de_fz (de_var 10 rfl (by first | exact .inl rfl | exact .inr (.inl rfl) | exact .inr (.inr rfl)))) da_nil)))) (de_comp [("_law_j", 10)] (di_fz (de_tup (da_cons (de_fz (de_add (de_var 5 rfl (by first | exact .inl rfl | exact .inr (.inl rfl) | exact .inr (.inr rfl))) de_int)) (da_cons (de_fz (de_add (de_var 5 rfl (by first | exact .inl rfl | exact .inr (.inl rfl) | exact .inr (.inr rfl))) de_int)) da_nil)))) rfl (dg_name 10 rfl (by first | exact .inl rfl | exact .inr rfl) (by first | exact .inl rfl | exact .inr rfl)) (dts_one (DV.dt (de_cmp cr_lt (de_var 10 rfl (by first | exact .inl rfl | exact .inr (.inl rfl) | exact .inr (.inr rfl))) (de_var 2 rfl (by first | exact .inl rfl | exact .inr (.inl rfl) | exact .inr (.inr rfl))) rfl))) (de_tup (da_cons (de_fz (de_var 10 rfl (by first | exact .inl rfl | exact .inr (.inl rfl) | exact .inr (.inr rfl)))) (da_cons (de_fz (de_var 5 rfl (by first | exact .inl rfl | exact .inr (.inl rfl) | exact .inr (.inr rfl)))) da_nil))))) ⟨fun _ => rfl, fun _ => rfl, rfl, fun _ => rfl⟩))) (.inr (by decide))))) dss_nil) (dss_cons (ds_if (DV.dt (de_cmp cr_eq (de_var 3 rfl (by first | exact .inl rfl | exact .inr (.inl rfl) | exact .inr (.inr rfl))) de_int rfl)) (dss_cons (ds_setCompN 4 (de_comp [("_law_k", 5)] (di_rng1 ⟨rfl, g.b_range⟩ (de_var 2 rfl (by first | exact .inl rfl | exact .inr (.inl rfl) | exact .inr (.inr rfl)))) rfl (dg_name 5 rfl (by first | exact .inl rfl | exact .inr rfl) (by first | exact .inl rfl | exact .inr rfl)) dts_nil (de_tup (da_cons (de_fz (de_var 5 rfl (by first | exact .inl rfl | exact .inr (.inl rfl) | exact .inr (.inr rfl)))) (da_cons (de_fz (de_mod (de_add (de_add (de_var 5 rfl (by first | exact .inl rfl | exact .inr (.inl rfl) | exact .inr (.inr rfl))) de_int) (de_callD F__law_off (Nat.le_of_ble_eq_true rfl) rfl (da_cons (de_var 0 rfl (by first | exact .inl rfl | exact .inr (.inl rfl) | exact .inr (.inr rfl))) (da_cons (de_fz (de_sub (de_var 2 rfl (by first | exact .inl rfl | exact .inr (.inl rfl) | exact .inr (.inr rfl))) de_int)) da_nil)) (lenA_cons (lenA_cons lenA_nil)))) (de_var 2 rfl (by first | exact .inl rfl | exact .inr (.inl rfl) | exact .inr (.inr rfl))))) da_nil)))) rfl (by first | exact .inl rfl | exact .inr rfl) (.inr (by decide)) rfl (.inl rfl)) (dss_one (ds_for (di_rng1 ⟨rfl, g.b_range⟩ (de_callD F__law_off (Nat.le_of_ble_eq_true rfl) rfl (da_cons (de_var 0 rfl (by first | exact .inl rfl | exact .inr (.inl rfl) | exact .inr (.inr rfl))) (da_cons (de_fz (de_mul de_int (de_var 2 rfl (by first | exact .inl rfl | exact .inr (.inl rfl) | exact .inr (.inr rfl))))) da_nil)) (lenA_cons (lenA_cons lenA_nil)))) (dg_name 6 rfl (by first | exact .inl rfl | exact .inr rfl) (by first | exact .inl rfl | exact .inr rfl)) (dss_cons (ds_set 7 (de_callD F__law_off (Nat.le_of_ble_eq_true rfl) rfl (da_cons (de_var 0 rfl (by first | exact .inl rfl | exact .inr (.inl rfl) | exact .inr (.inr rfl))) (da_cons (de_fz (de_lk (de_var 2 rfl (by first | exact .inl rfl | exact .inr (.inl rfl) | exact .inr (.inr rfl))))) da_nil)) (lenA_cons (lenA_cons lenA_nil))) rfl (by first | exact .inl rfl | exact .inr rfl) (.inr (by decide)) rfl) (dss_one (ds_expr (de_append (de_var 4 rfl (by first | exact .inl rfl | exact .inr (.inl rfl) | exact .inr (.inr rfl))) (de_tup (da_cons (de_fz (de_var 7 rfl (by first | exact .inl rfl | exact .inr (.inl rfl) | exact .inr (.inr rfl)))) (da_cons (de_fz (de_mod (de_add (de_add (de_var 7 rfl (by first | exact .inl rfl | exact .inr (.inl rfl) | exact .inr (.inr rfl))) de_int) (de_callD F__law_off (Nat.le_of_ble_eq_true rfl) rfl (da_cons (de_var 0 rfl (by first | exact .inl rfl | exact .inr (.inl rfl) | exact .inr (.inr rfl))) (da_cons (de_fz (de_sub (de_var 2 rfl (by first | exact .inl rfl | exact .inr (.inl rfl) | exact .inr (.inr rfl))) de_int)) da_nil)) (lenA_cons (lenA_cons lenA_nil)))) (de_var 2 rfl (by first | exact .inl rfl | exact .inr (.inl rfl) | exact .inr (.inr rfl))))) da_nil))) ⟨fun _ => rfl, fun _ => rfl, rfl, fun _ => rfl⟩)))) (.inr (by decide))))) dss_nil) (dss_cons (ds_setCompN 4 (de_comp [("_law_k", 5), ("_law_tie", 8)] (di_enum ⟨rfl, g.b_enumerate⟩ (de_var 4 rfl (by first | exact .inl rfl | exact .inr (.inl rfl) | exact .inr (.inr rfl)))) rfl (dg_tup (n := 2) (dgs_cons (dg_name 5 rfl (by first | exact .inl rfl | exact .inr rfl) (by first | exact .inl rfl | exact .inr rfl)) (dgs_cons (dg_name 8 rfl (by first | exact .inl rfl | exact .inr rfl) (by first | exact .inl rfl | exact .inr rfl)) dgs_nil))) (dts_one (DV.dt (de_notIn (de_var 8 rfl (by first | exact .inl rfl | exact .inr (.inl rfl) | exact .inr (.inr rfl))) (de_slice (de_var 4 rfl (by first | exact .inl rfl | exact .inr (.inl rfl) | exact .inr (.inr rfl))) dp_no (dp_so (de_var 5 rfl (by first | exact .inl rfl | exact .inr (.inl rfl) | exact .inr (.inr rfl))))) rfl))) (de_var 8 rfl (by first | exact .inl rfl | exact .inr (.inl rfl) | exact .inr (.inr rfl)))) rfl (by first | exact .inl rfl | exact .inr rfl) (.inr (by decide)) rfl (.inl rfl)) (dss_one (ds_ret (de_tup (da_cons (de_fz (de_var 2 rfl (by first | exact .inl rfl | exact .inr (.inl rfl) | exact .inr (.inr rfl)))) (da_cons (de_fz (de_tuple ⟨rfl, g.b_tuple⟩ (de_slice (de_callD F__law_mixed (Nat.le_of_ble_eq_true rfl) rfl (da_cons (de_var 0 rfl (by first | exact .inl rfl | exact .inr (.inl rfl) | exact .inr (.inr rfl))) (da_cons (de_fz (de_lk (de_var 4 rfl (by first | exact .inl rfl | exact .inr (.inl rfl) | exact .inr (.inr rfl))))) da_nil)) (lenA_cons (lenA_cons lenA_nil))) dp_no (dp_so de_int)))) da_nil)))))))))))))
theorem p__law_net {B : Bs} (g : Gd B) {f : Addr} {fd : FuncData} (F : FunD B.K "_law_net" "_law_net" (defArgs s__law_net) (defBody s__law_net) (defScope s__law_net) [] [] f fd) (hm : B.mg "_law_net" = some (.ref f)) (F__law_off : FnD B 1 "_law_off" 2 m__law_off) (F__law_mixed : FnD B 2 "_law_mixed" 2 m__law_mixed) : FnD B 3 "_law_net" 2 m__law_net :=
  fnd_of F sc__law_net hm (FunD.bindsN F fun _ _ _ _ _ _ us hl => match us, hl with | [_, _], _ => rfl) rfl (d__law_net g F__law_off F__law_mixed)
/-! _law_of_use -/
abbrev s__law_of_use : Stmt := topS 25
abbrev N__law_of_use : List Str := ["_law_net_here", "_law_fallen", "_law_stand", "_law_k", "_law_tie"]
noncomputable def b__law_of_use : Sg → Res Ou := (fSeq (fSet 2 (fComp [3, 4] (iEnumF (fTwo (fV 0) (fC (.int 1)) subK)) (gTu 2 (gsCons (gN 3) (gsCons (gN 4) gsNil))) (fB (fTwo (fV 3) (fV 1) (inK true))) (fV 4))) (fRet false (fComp [3, 4] (iEnumF (fTwo (fV 0) (fC (.int 1)) subK)) (gTu 2 (gsCons (gN 3) (gsCons (gN 4) gsNil))) (fAndT (fB (fTwo (fV 4) (fV 2) (inK false))) (fB (fTwo (fTup (fCons (fFz (fTwo (fV 4) (fC (.int 1)) subK)) (fCons (fFz (fTwo (fV 4) (fC (.int 0)) subK)) fNil))) (fV 2) (inK false)))) (fV 3))))
noncomputable def m__law_of_use : List OD → Res OD := semP N__law_of_use b__law_of_use
theorem sc__law_of_use : FnScope N__law_of_use ["_law_net_here", "_law_fallen"] (defScope s__law_of_use) := ⟨rfl, rfl, rfl, by decide +kernel, rfl, by decide +kernel, by decide +kernel⟩
theorem d__law_of_use {B : Bs} (g : Gd B)  : DSs (B.cx N__law_of_use (defScope s__law_of_use) 0 false) (defBody s__law_of_use) b__law_of_use :=
  (dss_cons (ds_setCompN 2 (de_comp [("_law_k", 3), ("_law_tie", 4)] (di_enum ⟨rfl, g.b_enumerate⟩ (de_ix (de_var 0 rfl (by first | exact .inl rfl | exact .inr (.inl rfl) | exact .inr (.inr rfl))) de_int (fun _ _ => rfl))) rfl (dg_tup (n := 2) (dgs_cons (dg_name 3 rfl (by first | exact .inl rfl | exact .inr rfl) (by first | exact .inl rfl | exact .inr rfl)) (dgs_cons (dg_name 4 rfl (by first | exact .inl rfl | exact .inr rfl) (by first | exact .inl rfl | exact .inr rfl)) dgs_nil))) (dts_one (DV.dt (de_notIn (de_var 3 rfl (by first | exact .inl rfl | exact .inr (.inl rfl) | exact .inr (.inr rfl))) (de_var 1 rfl (by first | exact .inl rfl | exact .inr (.inl rfl) | exact .inr (.inr rfl))) rfl))) (de_var 4 rfl (by first | exact .inl rfl | exact .inr (.inl rfl) | exact .inr (.inr rfl)))) rfl (by first | exact .inl rfl | exact .inr rfl) (.inl rfl) rfl (.inl rfl)) (dss_one (ds_ret (de_comp [("_law_k", 3), ("_law_tie", 4)] (di_enum ⟨rfl, g.b_enumerate⟩ (de_ix (de_var 0 rfl (by first | exact .inl rfl | exact .inr (.inl rfl) | exact .inr (.inr rfl))) de_int (fun _ _ => rfl))) rfl (dg_tup (n := 2) (dgs_cons (dg_name 3 rfl (by first | exact .inl rfl | exact .inr rfl) (by first | exact .inl rfl | exact .inr rfl)) (dgs_cons (dg_name 4 rfl (by first | exact .inl rfl | exact .inr rfl) (by first | exact .inl rfl | exact .inr rfl)) dgs_nil))) (dts_one (dt_w (dw_and (DV.dt (de_in (de_var 4 rfl (by first | exact .inl rfl | exact .inr (.inl rfl) | exact .inr (.inr rfl))) (de_var 2 rfl (by first | exact .inl rfl | exact .inr (.inl rfl) | exact .inr (.inr rfl))) rfl)) (dw_and1 (DV.dt (de_in (de_tup (da_cons (de_fz (de_ix (de_var 4 rfl (by first | exact .inl rfl | exact .inr (.inl rfl) | exact .inr (.inr rfl))) de_int (fun _ _ => rfl))) (da_cons (de_fz (de_ix (de_var 4 rfl (by first | exact .inl rfl | exact .inr (.inl rfl) | exact .inr (.inr rfl))) de_int (fun _ _ => rfl))) da_nil))) (de_var 2 rfl (by first | exact .inl rfl | exact .inr (.inl rfl) | exact .inr (.inr rfl))) rfl)))))) (de_var 3 rfl (by first | exact .inl rfl | exact .inr (.inl rfl) | exact .inr (.inr rfl)))))))
theorem p__law_of_use {B : Bs} (g : Gd B) {f : Addr} {fd : FuncData} (F : FunD B.K "_law_of_use" "_law_of_use" (defArgs s__law_of_use) (defBody s__law_of_use) (defScope s__law_of_use) [] [] f fd) (hm : B.mg "_law_of_use" = some (.ref f))  : FnP B 1 "_law_of_use" 2 m__law_of_use :=
  fnp_of F sc__law_of_use hm (FunD.bindsN F fun _ _ _ _ _ _ us hl => match us, hl with | [_, _], _ => rfl) rfl (d__law_of_use g )
/-! _law_near -/
abbrev s__law_near : Stmt := topS 26
abbrev N__law_near : List Str := ["_law_net_here", "_law_some", "_law_root", "_law_far", "_law_turn", "_law_k", "_law_begin", "_law_end"]
noncomputable def b__law_near : Sg → Res Ou := (fSeq (fSet 3 (fDict1 (fV 2) (fC (.int 0)))) (fSeq (fFor (iRng1 (fTwo (fV 0) (fC (.int 0)) subK)) (gN 4) (fFor (iFz (fV 1)) (gN 5) (fSeq (fUnp (gTu 2 (gsCons (gN 6) (gsCons (gN 7) gsNil))) (fTwo (fTwo (fV 0) (fC (.int 1)) subK) (fV 5) subK)) (fIfS (fB (fTwo (fV 6) (fV 3) (inK false))) (fSt 3 (fArgs (fCons (fGet2 (fV 3) (fV 7) (fFz (fC (.int 99)))) (fCons (fTwo (fTwo (fV 3) (fV 6) subK) (fC (.int 1)) addK) fNil)) min2K) (fV 7)) fPass)))) (fRet false (fV 3))))
noncomputable def m__law_near : List OD → Res OD := semP N__law_near b__law_near
theorem sc__law_near : FnScope N__law_near ["_law_net_here", "_law_some", "_law_root"] (defScope s__law_near) := ⟨rfl, rfl, rfl, by decide +kernel, rfl, by decide +kernel, by decide +kernel⟩
theorem d__law_near {B : Bs} (g : Gd B)  : DSs (B.cx N__law_near (defScope s__law_near) 0 false) (defBody s__law_near) b__law_near :=
  (dss_cons (ds_set 3 (de_dict1 (de_var 2 rfl (by first | exact .inl rfl | exact .inr (.inl rfl) | exact .inr (.inr rfl))) de_int) rfl (by first | exact .inl rfl | exact .inr rfl) (.inl rfl) rfl) (dss_cons (ds_for (di_rng1 ⟨rfl, g.b_range⟩ (de_ix (de_var 0 rfl (by first | exact .inl rfl | exact .inr (.inl rfl) | exact .inr (.inr rfl))) de_int (fun _ _ => rfl))) (dg_name 4 rfl (by first | exact .inl rfl | exact .inr rfl) (by first | exact .inl rfl | exact .inr rfl)) (dss_one (ds_for (di_fz (de_var 1 rfl (by first | exact .inl rfl | exact .inr (.inl rfl) | exact .inr (.inr rfl)))) (dg_name 5 rfl (by first | exact .inl rfl | exact .inr rfl) (by first | exact .inl rfl | exact .inr rfl)) (dss_cons (ds_unp (de_ix (de_ix (de_var 0 rfl (by first | exact .inl rfl | exact .inr (.inl rfl) | exact .inr (.inr rfl))) de_int (fun _ _ => rfl)) (de_var 5 rfl (by first | exact .inl rfl | exact .inr (.inl rfl) | exact .inr (.inr rfl))) (fun _ _ => rfl)) (dg_tup (n := 2) (dgs_cons (dg_name 6 rfl (by first | exact .inl rfl | exact .inr rfl) (by first | exact .inl rfl | exact .inr rfl)) (dgs_cons (dg_name 7 rfl (by first | exact .inl rfl | exact .inr rfl) (by first | exact .inl rfl | exact .inr rfl)) dgs_nil))) (.inl rfl)) (dss_one (ds_if (DV.dt (de_in (de_var 6 rfl (by first | exact .inl rfl | exact .inr (.inl rfl) | exact .inr (.inr rfl))) (de_var 3 rfl (by first | exact .inl rfl | exact .inr (.inl rfl) | exact .inr (.inr rfl))) rfl)) (dss_one (ds_st 3 (de_min2 ⟨rfl, g.b_min⟩ (de_get2 (de_var 3 rfl (by first | exact .inl rfl | exact .inr (.inl rfl) | exact .inr (.inr rfl))) (de_var 7 rfl (by first | exact .inl rfl | exact .inr (.inl rfl) | exact .inr (.inr rfl))) de_int (fun _ => ⟨rfl, rfl, rfl, rfl⟩)) (de_add (de_ix (de_var 3 rfl (by first | exact .inl rfl | exact .inr (.inl rfl) | exact .inr (.inr rfl))) (de_var 6 rfl (by first | exact .inl rfl | exact .inr (.inl rfl) | exact .inr (.inr rfl))) (fun _ _ => rfl)) de_int)) (de_var 7 rfl (by first | exact .inl rfl | exact .inr (.inl rfl) | exact .inr (.inr rfl))) rfl (by first | exact .inl rfl | exact .inr (.inl rfl) | exact .inr (.inr rfl)))) dss_nil))) (.inl rfl))) (.inl rfl)) (dss_one (ds_ret (de_var 3 rfl (by first | exact .inl rfl | exact .inr (.inl rfl) | exact .inr (.inr rfl)))))))
theorem p__law_near {B : Bs} (g : Gd B) {f : Addr} {fd : FuncData} (F : FunD B.K "_law_near" "_law_near" (defArgs s__law_near) (defBody s__law_near) (defScope s__law_near) [] [] f fd) (hm : B.mg "_law_near" = some (.ref f))  : FnP B 1 "_law_near" 3 m__law_near :=
  fnp_of F sc__law_near hm (FunD.bindsN F fun _ _ _ _ _ _ us hl => match us, hl with | [_, _, _], _ => rfl) rfl (d__law_near g )
/-! _law_due -/
abbrev s__law_due : Stmt := topS 27
abbrev N__law_due : List Str := ["_law_net_here", "_law_fallen", "_law_root", "_law_some", "_law_near_here", "_law_ups", "_law_k", "_law_downs", "_law_rows", "_law_goal", "_law_begin", "_law_end", "_law_down", "_law_turn", "_law_far", "_law_house", "_law_ways", "_law_good", "_law_row"]
noncomputable def b__law_due : Sg → Res Ou := (fSeq (fSet 3 (fCall m__law_of_use (fCons (fFz (fLk (fV 0))) (fCons (fFz (fLk (fV 1))) fNil)))) (fSeq (fSet 4 (fCall m__law_near (fCons (fFz (fLk (fV 0))) (fCons (fFz (fLk (fV 3))) (fCons (fFz (fLk (fV 2))) fNil))))) (fSeq (fSet 3 (fComp [6] (iFz (fV 3)) (gN 6) (fB (fTwo (fTwo (fTwo (fTwo (fV 0) (fC (.int 1)) subK) (fV 6) subK) (fC (.int 0)) subK) (fV 4) (inK false))) (fV 6))) (fSeq (fSet 5 (fLst fNil)) (fSeq (fFor (iFz (fV 3)) (gN 6) (fSeq (fUnp (gTu 2 (gsCons (gN 10) (gsCons (gN 11) gsNil))) (fTwo (fTwo (fV 0) (fC (.int 1)) subK) (fV 6) subK)) (fSet 5 (fTwo (fV 5) (fTwo (fLst (fCons (fTk (fV 6)) fNil)) (fArgs (fCons (fTwo (fTup (fCons (fFz (fTwo (fV 4) (fV 11) subK)) (fCons (fFz (fV 11)) fNil))) (fTup (fCons (fFz (fTwo (fV 4) (fV 10) subK)) (fCons (fFz (fV 10)) fNil))) (cmpK pLt)) fNil) intC) mulK) addK)))) (fSeq (fSet 7 (fComp [6] (iFz (fV 3)) (gN 6) (fB (fTwo (fV 6) (fV 5) (inK true))) (fV 6))) (fSeq (fSet 8 (fComp [15] (iRng1 (fTwo (fV 0) (fC (.int 0)) subK)) (gN 15) fYes (fTwo (fLst (fCons (fTk (fNeg (fC (.int 1)))) fNil)) (fTwo (fV 0) (fC (.int 0)) subK) mulK))) (fSeq (fFor (iDict (List.map Prod.fst) (fV 4)) (gN 9) (fSeq (fSet 12 (fDict1 (fV 9) (fC (.int 0)))) (fSeq (fFor (iRng1 (fTwo (fV 0) (fC (.int 0)) subK)) (gN 13) (fFor (iFz (fV 7)) (gN 6) (fIfS (fB (fTwo (fTwo (fTwo (fTwo (fV 0) (fC (.int 1)) subK) (fV 6) subK) (fC (.int 1)) subK) (fV 12) (inK false))) (fSt 12 (fArgs (fCons (fGet2 (fV 12) (fTwo (fTwo (fTwo (fV 0) (fC (.int 1)) subK) (fV 6) subK) (fC (.int 0)) subK) (fFz (fC (.int 99)))) (fCons (fTwo (fTwo (fV 12) (fTwo (fTwo (fTwo (fV 0) (fC (.int 1)) subK) (fV 6) subK) (fC (.int 1)) subK) subK) (fC (.int 1)) addK) fNil)) min2K) (fTwo (fTwo (fTwo (fV 0) (fC (.int 1)) subK) (fV 6) subK) (fC (.int 0)) subK)) fPass))) (fSeq (fSet 14 (fArgs (fCons (fV 12) fNil) dictK)) (fSeq (fFor (iRng1 (fTwo (fV 0) (fC (.int 0)) subK)) (gN 13) (fFor (iFz (fV 5)) (gN 6) (fIfS (fAndT (fB (fTwo (fTwo (fTwo (fTwo (fV 0) (fC (.int 1)) subK) (fV 6) subK) (fC (.int 1)) subK) (fV 14) (inK false))) (fB (fTwo (fTwo (fTwo (fTwo (fV 0) (fC (.int 1)) subK) (fV 6) subK) (fC (.int 0)) subK) (fV 12) (inK true)))) (fSt 14 (fArgs (fCons (fGet2 (fV 14) (fTwo (fTwo (fTwo (fV 0) (fC (.int 1)) subK) (fV 6) subK) (fC (.int 0)) subK) (fFz (fC (.int 99)))) (fCons (fTwo (fTwo (fV 14) (fTwo (fTwo (fTwo (fV 0) (fC (.int 1)) subK) (fV 6) subK) (fC (.int 1)) subK) subK) (fC (.int 1)) addK) fNil)) min2K) (fTwo (fTwo (fTwo (fV 0) (fC (.int 1)) subK) (fV 6) subK) (fC (.int 0)) subK)) fPass))) (fFor (iDict (List.map Prod.fst) (fV 14)) (gN 15) (fSeq (fSet 16 (fIf (fB (fTwo (fV 15) (fV 12) (inK false))) (fV 7) (fV 5))) (fSeq (fSet 17 (fComp [6] (iFz (fV 16)) (gN 6) (fAndT (fB (fTwo (fTwo (fTwo (fTwo (fV 0) (fC (.int 1)) subK) (fV 6) subK) (fC (.int 0)) subK) (fV 15) (cmpK pEq))) (fB (fTwo (fTwo (fGet2 (fV 14) (fTwo (fTwo (fTwo (fV 0) (fC (.int 1)) subK) (fV 6) subK) (fC (.int 1)) subK) (fFz (fC (.int 99)))) (fC (.int 1)) addK) (fTwo (fV 14) (fV 15) subK) (cmpK pEq)))) (fV 6))) (fSeq (fIfS (fB (fTwo (fV 15) (fV 12) (inK false))) (fSet 17 (fComp [6] (iFz (fV 17)) (gN 6) (fB (fTwo (fTwo (fTwo (fTwo (fV 0) (fC (.int 1)) subK) (fV 6) subK) (fC (.int 1)) subK) (fV 12) (inK false))) (fV 6))) fPass) (fSt2 8 9 (fIf (fB (fTwo (fV 15) (fV 9) (cmpK pNe))) (fArgs (fCons (fV 17) fNil) minK) (fNeg (fC (.int 1)))) (fV 15))))))))))) (fRet false (fArgs (fCons (fComp [18] (iFz (fV 8)) (gN 18) fYes (fArgs (fCons (fV 18) fNil) tupK)) fNil) tupK))))))))))
noncomputable def m__law_due : List OD → Res OD := semP N__law_due b__law_due
theorem sc__law_due : FnScope N__law_due ["_law_net_here", "_law_fallen", "_law_root"] (defScope s__law_due) := ⟨rfl, rfl, rfl, by decide +kernel, rfl, by decide +kernel, by decide +kernel⟩
theorem d__law_due {B : Bs} (g : Gd B) (F__law_of_use : FnP B 1 "_law_of_use" 2 m__law_of_use) (F__law_near : FnP B 1 "_law_near" 3 m__law_near) : DSs (B.cx N__law_due (defScope s__law_due) 1 false) (defBody s__law_due) b__law_due :=
  (dss_cons (ds_set 3 (de_call F__law_of_use (Nat.le_of_ble_eq_true rfl) rfl (da_cons (de_fz (de_lk (de_var 0 rfl (by first | exact .inl rfl | exact .inr (.inl rfl) | exact .inr (.inr rfl))))) (da_cons (de_fz (de_lk (de_var 1 rfl (by first | exact .inl rfl | exact .inr (.inl rfl) | exact .inr (.inr rfl))))) da_nil)) rfl (lenA_cons (lenA_cons lenA_nil))) rfl (by first | exact .inl rfl | exact .inr rfl) (.inl rfl) rfl) (dss_cons (ds_set 4 (de_call F__law_near (Nat.le_of_ble_eq_true rfl) rfl (da_cons (de_fz (de_lk (de_var 0 rfl (by first | exact .inl rfl | exact .inr (.inl rfl) | exact .inr (.inr rfl))))) (da_cons (de_fz (de_lk (de_var 3 rfl (by first | exact .inl rfl | exact .inr (.inl rfl) | exact .inr (.inr rfl))))) (da_cons (de_fz (de_lk (de_var 2 rfl (by first | exact .inl rfl | exact .inr (.inl rfl) | exact .inr (.inr rfl))))) da_nil))) rfl (lenA_cons (lenA_cons (lenA_cons lenA_nil)))) rfl (by first | exact .inl rfl | exact .inr rfl) (.inl rfl) rfl) (dss_cons (ds_setComp 3 [("_law_k", 6)] rfl rfl rfl rfl rfl (.inl rfl) (di_fz (de_var 3 rfl (by first | exact .inl rfl | exact .inr (.inl rfl) | exact .inr (.inr rfl)))) rfl (dg_name 6 rfl (by first | exact .inl rfl | exact .inr rfl) (by first | exact .inl rfl | exact .inr rfl)) (dts_one (DV.dt (de_in (de_ix (de_ix (de_ix (de_var 0 rfl (by first | exact .inl rfl | exact .inr (.inl rfl) | exact .inr (.inr rfl))) de_int (fun _ _ => rfl)) (de_var 6 rfl (by first | exact .inl rfl | exact .inr (.inl rfl) | exact .inr (.inr rfl))) (fun _ _ => rfl)) de_int (fun _ _ => rfl)) (de_var 4 rfl (by first | exact .inl rfl | exact .inr (.inl rfl) | exact .inr (.inr rfl))) rfl))) (de_var 6 rfl (by first | exact .inl rfl | exact .inr (.inl rfl) | exact .inr (.inr rfl)))) (dss_cons (ds_set 5 (de_lst da_nil) rfl (by first | exact .inl rfl | exact .inr rfl) (.inl rfl) rfl) (dss_cons (ds_for (di_fz (de_var 3 rfl (by first | exact .inl rfl | exact .inr (.inl rfl) | exact .inr (.inr rfl)))) (dg_name 6 rfl (by first | exact .inl rfl | exact .inr rfl) (by first | exact .inl rfl | exact .inr rfl)) (dss_cons (ds_unp (de_ix (de_ix (de_var 0 rfl (by first | exact .inl rfl | exact .inr (.inl rfl) | exact .inr (.inr rfl))) de_int (fun _ _ => rfl)) (de_var 6 rfl (by first | exact .inl rfl | exact .inr (.inl rfl) | exact .inr (.inr rfl))) (fun _ _ => rfl)) (dg_tup (n := 2) (dgs_cons (dg_name 10 rfl (by first | exact .inl rfl | exact .inr rfl) (by first | exact .inl rfl | exact .inr rfl)) (dgs_cons (dg_name 11 rfl (by first | exact .inl rfl | exact .inr rfl) (by first | exact .inl rfl | exact .inr rfl)) dgs_nil))) (.inl rfl)) (dss_one (ds_set 5 (de_add (de_var 5 rfl (by first | exact .inl rfl | exact .inr (.inl rfl) | exact .inr (.inr rfl))) (de_mul (de_lst (da_cons (de_tk (de_var 6 rfl (by first | exact .inl rfl | exact .inr (.inl rfl) | exact .inr (.inr rfl)))) da_nil)) (de_int1 ⟨rfl, g.b_int⟩ (DV.de (de_cmp cr_lt (de_tup (da_cons (de_fz (de_ix (de_var 4 rfl (by first | exact .inl rfl | exact .inr (.inl rfl) | exact .inr (.inr rfl))) (de_var 11 rfl (by first | exact .inl rfl | exact .inr (.inl rfl) | exact .inr (.inr rfl))) (fun _ _ => rfl))) (da_cons (de_fz (de_var 11 rfl (by first | exact .inl rfl | exact .inr (.inl rfl) | exact .inr (.inr rfl)))) da_nil))) (de_tup (da_cons (de_fz (de_ix (de_var 4 rfl (by first | exact .inl rfl | exact .inr (.inl rfl) | exact .inr (.inr rfl))) (de_var 10 rfl (by first | exact .inl rfl | exact .inr (.inl rfl) | exact .inr (.inr rfl))) (fun _ _ => rfl))) (da_cons (de_fz (de_var 10 rfl (by first | exact .inl rfl | exact .inr (.inl rfl) | exact .inr (.inr rfl)))) da_nil))) rfl))))) rfl (by first | exact .inl rfl | exact .inr rfl) (.inl rfl) rfl))) (.inl rfl)) (dss_cons (ds_setComp 7 [("_law_k", 6)] rfl rfl rfl rfl rfl (.inl rfl) (di_fz (de_var 3 rfl (by first | exact .inl rfl | exact .inr (.inl rfl) | exact .inr (.inr rfl)))) rfl (dg_name 6 rfl (by first | exact .inl rfl | exact .inr rfl) (by first | exact .inl rfl | exact .inr rfl)) (dts_one (DV.dt (de_notIn (de_var 6 rfl (by first | exact .inl rfl | exact .inr (.inl rfl) | exact .inr (.inr rfl))) (de_var 5 rfl (by first | exact .inl rfl | exact .inr (.inl rfl) | exact .inr (.inr rfl))) rfl))) (de_var 6 rfl (by first | exact .inl rfl | exact .inr (.inl rfl) | exact .inr (.inr rfl)))) (dss_cons (ds_setComp 8 [("_law_house", 15)] rfl rfl rfl rfl rfl (.inl rfl) (di_rng1 ⟨rfl, g.b_range⟩ (de_ix (de_var 0 rfl (by first | exact .inl rfl | exact .inr (.inl rfl) | exact .inr (.inr rfl))) de_int (fun _ _ => rfl))) rfl (dg_name 15 rfl (by first | exact .inl rfl | exact .inr rfl) (by first | exact .inl rfl | exact .inr rfl)) dts_nil (de_mul (de_lst (da_cons (de_tk (de_neg de_int)) da_nil)) (de_ix (de_var 0 rfl (by first | exact .inl rfl | exact .inr (.inl rfl) | exact .inr (.inr rfl))) de_int (fun _ _ => rfl)))) (dss_cons (ds_for (di_keys (de_var 4 rfl (by first | exact .inl rfl | exact .inr (.inl rfl) | exact .inr (.inr rfl)))) (dg_name 9 rfl (by first | exact .inl rfl | exact .inr rfl) (by first | exact .inl rfl | exact .inr rfl)) (dss_cons (ds_set 12 (de_dict1 (de_var 9 rfl (by first | exact .inl rfl | exact .inr (.inl rfl) | exact .inr (.inr rfl))) de_int) rfl (by first | exact .inl rfl | exact .inr rfl) (.inl rfl) rfl) (dss_cons (ds_for (di_rng1 ⟨rfl, g.b_range⟩ (de_ix (de_var 0 rfl (by first | exact .inl rfl | exact .inr (.inl rfl) | exact .inr (.inr rfl))) de_int (fun _ _ => rfl))) (dg_name 13 rfl (by first | exact .inl rfl | exact .inr rfl) (by first | exact .inl rfl | exact .inr rfl)) (dss_one (ds_for (di_fz (de_var 7 rfl (by first | exact .inl rfl | exact .inr (.inl rfl) | exact .inr (.inr rfl)))) (dg_name 6 rfl (by first | exact .inl rfl | exact .inr rfl) (by first | exact .inl rfl | exact .inr rfl)) (dss_one (ds_if (DV.dt (de_in (de_ix (de_ix (de_ix (de_var 0 rfl (by first | exact .inl rfl | exact .inr (.inl rfl) | exact .inr (.inr rfl))) de_int (fun _ _ => rfl)) (de_var 6 rfl (by first | exact .inl rfl | exact .inr (.inl rfl) | exact .inr (.inr rfl))) (fun _ _ => rfl)) de_int (fun _ _ => rfl)) (de_var 12 rfl (by first | exact .inl rfl | exact .inr (.inl rfl) | exact .inr (.inr rfl))) rfl)) (dss_one (ds_st 12 (de_min2 ⟨rfl, g.b_min⟩ (de_get2 (de_var 12 rfl (by first | exact .inl rfl | exact .inr (.inl rfl) | exact .inr (.inr rfl))) (de_ix (de_ix (de_ix (de_var 0 rfl (by first | exact .inl rfl | exact .inr (.inl rfl) | exact .inr (.inr rfl))) de_int (fun _ _ => rfl)) (de_var 6 rfl (by first | exact .inl rfl | exact .inr (.inl rfl) | exact .inr (.inr rfl))) (fun _ _ => rfl)) de_int (fun _ _ => rfl)) de_int (fun _ => ⟨rfl, rfl, rfl, rfl⟩)) (de_add (de_ix (de_var 12 rfl (by first | exact .inl rfl | exact .inr (.inl rfl) | exact .inr (.inr rfl))) (de_ix (de_ix (de_ix (de_var 0 rfl (by first | exact .inl rfl | exact .inr (.inl rfl) | exact .inr (.inr rfl))) de_int (fun _ _ => rfl)) (de_var 6 rfl (by first | exact .inl rfl | exact .inr (.inl rfl) | exact .inr (.inr rfl))) (fun _ _ => rfl)) de_int (fun _ _ => rfl)) (fun _ _ => rfl)) de_int)) (de_ix (de_ix (de_ix (de_var 0 rfl (by first | exact .inl rfl | exact .inr (.inl rfl) | exact .inr (.inr rfl))) de_int (fun _ _ => rfl)) (de_var 6 rfl (by first | exact .inl rfl | exact .inr (.inl rfl) | exact .inr (.inr rfl))) (fun _ _ => rfl)) de_int (fun _ _ => rfl)) rfl (by first | exact .inl rfl | exact .inr (.inl rfl) | exact .inr (.inr rfl)))) dss_nil)) (.inl rfl))) (.inl rfl)) (dss_cons (ds_set 14 (de_dictC ⟨rfl, g.b_dict⟩ (de_var 12 rfl (by first | exact .inl rfl | exact .inr (.inl rfl) | exact .inr (.inr rfl)))) rfl (by first | exact .inl rfl | exact .inr rfl) (.inl rfl) rfl) (dss_cons (ds_for (di_rng1 ⟨rfl, g.b_range⟩ (de_ix (de_var 0 rfl (by first | exact .inl rfl | exact .inr (.inl rfl) | exact .inr (.inr rfl))) de_int (fun _ _ => rfl))) (dg_name 13 rfl (by first | exact .inl rfl | exact .inr rfl) (by first | exact .inl rfl | exact .inr rfl)) (dss_one (ds_for (di_fz (de_var 5 rfl (by first | exact .inl rfl | exact .inr (.inl rfl) | exact .inr (.inr rfl)))) (dg_name 6 rfl (by first | exact .inl rfl | exact .inr rfl) (by first | exact .inl rfl | exact .inr rfl)) (dss_one (ds_if (dt_w (dw_and (DV.dt (de_in (de_ix (de_ix (de_ix (de_var 0 rfl (by first | exact .inl rfl | exact .inr (.inl rfl) | exact .inr (.inr rfl))) de_int (fun _ _ => rfl)) (de_var 6 rfl (by first | exact .inl rfl | exact .inr (.inl rfl) | exact .inr (.inr rfl))) (fun _ _ => rfl)) de_int (fun _ _ => rfl)) (de_var 14 rfl (by first | exact .inl rfl | exact .inr (.inl rfl) | exact .inr (.inr rfl))) rfl)) (dw_and1 (DV.dt (de_notIn (de_ix (de_ix (de_ix (de_var 0 rfl (by first | exact .inl rfl | exact .inr (.inl rfl) | exact .inr (.inr rfl))) de_int (fun _ _ => rfl)) (de_var 6 rfl (by first | exact .inl rfl | exact .inr (.inl rfl) | exact .inr (.inr rfl))) (fun _ _ => rfl)) de_int (fun _ _ => rfl)) (de_var 12 rfl (by first | exact .inl rfl | exact .inr (.inl rfl) | exact .inr (.inr rfl))) rfl))))) (dss_one (ds_st 14 (de_min2 ⟨rfl, g.b_min⟩ (de_get2 (de_var 14 rfl (by first | exact .inl rfl | exact .inr (.inl rfl) | exact .inr (.inr rfl))) (de_ix (de_ix (de_ix (de_var 0 rfl (by first | exact .inl rfl | exact .inr (.inl rfl) | exact .inr (.inr rfl))) de_int (fun _ _ => rfl)) (de_var 6 rfl (by first | exact .inl rfl | exact .inr (.inl rfl) | exact .inr (.inr rfl))) (fun _ _ => rfl)) de_int (fun _ _ => rfl)) de_int (fun _ => ⟨rfl, rfl, rfl, rfl⟩)) (de_add (de_ix (de_var 14 rfl (by first | exact .inl rfl | exact .inr (.inl rfl) | exact .inr (.inr rfl))) (de_ix (de_ix (de_ix (de_var 0 rfl (by first | exact .inl rfl | exact .inr (.inl rfl) | exact .inr (.inr rfl))) de_int (fun _ _ => rfl)) (de_var 6 rfl (by first | exact .inl rfl | exact .inr (.inl rfl) | exact .inr (.inr rfl))) (fun _ _ => rfl)) de_int (fun _ _ => rfl)) (fun _ _ => rfl)) de_int)) (de_ix (de_ix (de_ix (de_var 0 rfl (by first | exact .inl rfl | exact .inr (.inl rfl) | exact .inr (.inr rfl))) de_int (fun _ _ => rfl)) (de_var 6 rfl (by first | exact .inl rfl | exact .inr (.inl rfl) | exact .inr (.inr rfl))) (fun _ _ => rfl)) de_int (fun _ _ => rfl)) rfl (by first | exact .inl rfl | exact .inr (.inl rfl) | exact .inr (.inr rfl)))) dss_nil)) (.inl rfl))) (.inl rfl)) (dss_one (ds_for (di_keys (de_var 14 rfl (by first | exact .inl rfl | exact .inr (.inl rfl) | exact .inr (.inr rfl)))) (dg_name 15 rfl (by first | exact .inl rfl | exact .inr rfl) (by first | exact .inl rfl | exact .inr rfl)) (dss_cons (ds_set 16 (de_if (DV.dt (de_in (de_var 15 rfl (by first | exact .inl rfl | exact .inr (.inl rfl) | exact .inr (.inr rfl))) (de_var 12 rfl (by first | exact .inl rfl | exact .inr (.inl rfl) | exact .inr (.inr rfl))) rfl)) (de_var 7 rfl (by first | exact .inl rfl | exact .inr (.inl rfl) | exact .inr (.inr rfl))) (de_var 5 rfl (by first | exact .inl rfl | exact .inr (.inl rfl) | exact .inr (.inr rfl)))) rfl (by first | exact .inl rfl | exact .inr rfl) (.inl rfl) rfl) (dss_cons (ds_setComp 17 [("_law_k", 6)] rfl rfl rfl rfl rfl (.inl rfl) (di_fz (de_var 16 rfl (by first | exact .inl rfl | exact .inr (.inl rfl) | exact .inr (.inr rfl)))) rfl (dg_name 6 rfl (by first | exact .inl rfl | exact .inr rfl) (by first | exact .inl rfl | exact .inr rfl)) (dts_one (dt_w (dw_and (DV.dt (de_cmp cr_eq (de_ix (de_ix (de_ix (de_var 0 rfl (by first | exact .inl rfl | exact .inr (.inl rfl) | exact .inr (.inr rfl))) de_int (fun _ _ => rfl)) (de_var 6 rfl (by first | exact .inl rfl | exact .inr (.inl rfl) | exact .inr (.inr rfl))) (fun _ _ => rfl)) de_int (fun _ _ => rfl)) (de_var 15 rfl (by first | exact .inl rfl | exact .inr (.inl rfl) | exact .inr (.inr rfl))) rfl)) (dw_and1 (DV.dt (de_cmp cr_eq (de_add (de_get2 (de_var 14 rfl (by first | exact .inl rfl | exact .inr (.inl rfl) | exact .inr (.inr rfl))) (de_ix (de_ix (de_ix (de_var 0 rfl (by first | exact .inl rfl | exact .inr (.inl rfl) | exact .inr (.inr rfl))) de_int (fun _ _ => rfl)) (de_var 6 rfl (by first | exact .inl rfl | exact .inr (.inl rfl) | exact .inr (.inr rfl))) (fun _ _ => rfl)) de_int (fun _ _ => rfl)) de_int (fun _ => ⟨rfl, rfl, rfl, rfl⟩)) de_int) (de_ix (de_var 14 rfl (by first | exact .inl rfl | exact .inr (.inl rfl) | exact .inr (.inr rfl))) (de_var 15 rfl (by first | exact .inl rfl | exact .inr (.inl rfl) | exact .inr (.inr rfl))) (fun _ _ => rfl)) rfl)))))) (de_var 6 rfl (by first | exact .inl rfl | exact .inr (.inl rfl) | exact .inr (.inr rfl)))) (dss_cons (ds_if (DV.dt (de_in (de_var 15 rfl (by first | exact .inl rfl | exact .inr (.inl rfl) | exact .inr (.inr rfl))) (de_var 12 rfl (by first | exact .inl rfl | exact .inr (.inl rfl) | exact .inr (.inr rfl))) rfl)) (dss_one (ds_setComp 17 [("_law_k", 6)] rfl rfl rfl rfl rfl (.inl rfl) (di_fz (de_var 17 rfl (by first | exact .inl rfl | exact .inr (.inl rfl) | exact .inr (.inr rfl)))) rfl (dg_name 6 rfl (by first | exact .inl rfl | exact .inr rfl) (by first | exact .inl rfl | exact .inr rfl)) (dts_one (DV.dt (de_in (de_ix (de_ix (de_ix (de_var 0 rfl (by first | exact .inl rfl | exact .inr (.inl rfl) | exact .inr (.inr rfl))) de_int (fun _ _ => rfl)) (de_var 6 rfl (by first | exact .inl rfl | exact .inr (.inl rfl) | exact .inr (.inr rfl))) (fun _ _ => rfl)) de_int (fun _ _ => rfl)) (de_var 12 rfl (by first | exact .inl rfl | exact .inr (.inl rfl) | exact .inr (.inr rfl))) rfl))) (de_var 6 rfl (by first | exact .inl rfl | exact .inr (.inl rfl) | exact .inr (.inr rfl))))) dss_nil) (dss_one (ds_st2 8 9 (de_if (DV.dt (de_cmp cr_ne (de_var 15 rfl (by first | exact .inl rfl | exact .inr (.inl rfl) | exact .inr (.inr rfl))) (de_var 9 rfl (by first | exact .inl rfl | exact .inr (.inl rfl) | exact .inr (.inr rfl))) rfl)) (de_min ⟨rfl, g.b_min⟩ (de_var 17 rfl (by first | exact .inl rfl | exact .inr (.inl rfl) | exact .inr (.inr rfl)))) (de_neg de_int)) (de_var 15 rfl (by first | exact .inl rfl | exact .inr (.inl rfl) | exact .inr (.inr rfl))) (fun _ _ => rfl) rfl (by first | exact .inl rfl | exact .inr (.inl rfl) | exact .inr (.inr rfl)) rfl (by first | exact .inl rfl | exact .inr (.inl rfl) | exact .inr (.inr rfl))))))) (.inl rfl))))))) (.inl rfl)) (dss_one (ds_ret (de_tuple ⟨rfl, g.b_tuple⟩ (de_comp [("_law_row", 18)] (di_fz (de_var 8 rfl (by first | exact .inl rfl | exact .inr (.inl rfl) | exact .inr (.inr rfl)))) rfl (dg_name 18 rfl (by first | exact .inl rfl | exact .inr rfl) (by first | exact .inl rfl | exact .inr rfl)) dts_nil (de_tuple ⟨rfl, g.b_tuple⟩ (de_var 18 rfl (by first | exact .inl rfl | exact .inr (.inl rfl) | exact .inr (.inr rfl))))))))))))))))
theorem p__law_due {B : Bs} (g : Gd B) {f : Addr} {fd : FuncData} (F : FunD B.K "_law_due" "_law_due" (defArgs s__law_due) (defBody s__law_due) (defScope s__law_due) [] [] f fd) (hm : B.mg "_law_due" = some (.ref f)) (F__law_of_use : FnP B 1 "_law_of_use" 2 m__law_of_use) (F__law_near : FnP B 1 "_law_near" 3 m__law_near) : FnP B 2 "_law_due" 3 m__law_due :=
  fnp_of F sc__law_due hm (FunD.bindsN F fun _ _ _ _ _ _ us hl => match us, hl with | [_, _, _], _ => rfl) rfl (d__law_due g F__law_of_use F__law_near)
/-! law -/
abbrev s_law : Stmt := topS 28
abbrev N_law : List Str := ["_law_script", "_law_d", "_law_turn", "_law_net_here", "_law_fallen", "_law_root", "_law_handed", "_law_due_here", "_law_again", "_law_found", "_law_k"]
noncomputable def b_law : Sg → Res Ou := (fSeq (fSet 1 (fCall m__law_dice (fCons (fFz (fLk (fV 0))) (fCons (fFz (fC (.int 0))) fNil)))) (fSeq (fFor (iRng1 (fC (.int 4))) (gN 2) (fSeq (fSet 3 (fCallD m__law_net (fCons (fV 1) (fCons (fFz (fC (.int 8))) fNil)))) (fSeq (fSet 4 (fComp [10] (iRng1 (fArgs (fCons (fTwo (fV 3) (fC (.int 1)) subK) fNil) lenK)) (gN 10) (fB (fTwo (fCallD m__law_off (fCons (fV 1) (fCons (fFz (fC (.int 5))) fNil))) (fC (.int 0)) (cmpK pEq))) (fV 10))) (fSeq (fIfS (fB (fTwo (fCallD m__law_off (fCons (fV 1) (fCons (fFz (fC (.int 9))) fNil))) (fC (.int 0)) (cmpK pEq))) (fSet 4 (fLstRg (fArgs (fCons (fTwo (fV 3) (fC (.int 1)) subK) fNil) lenK))) fPass) (fSeq (fIfS (fB (fTwo (fCallD m__law_off (fCons (fV 1) (fCons (fFz (fC (.int 3))) fNil))) (fC (.int 0)) (cmpK pEq))) (fSet 4 (fCallD m__law_mixed (fCons (fV 1) (fCons (fFz (fTwo (fV 4) (fSlice (fV 4) fNo (fSo (fC (.int 1)))) addK)) fNil)))) fPass) (fSeq (fSet 5 (fCallD m__law_off (fCons (fV 1) (fCons (fFz (fTwo (fV 3) (fC (.int 0)) subK)) fNil)))) (fSeq (fSet 6 (fArgs (fCons (fV 4) fNil) listK)) (fSeq (fSet 7 (fCall m__law_due (fCons (fFz (fLk (fV 3))) (fCons (fFz (fLk (fV 4))) (fCons (fFz (fLk (fV 5))) fNil))))) (fFor (iRng1 (fC (.int 2))) (gN 8) (fSeq (fSet 9 (fCall m_bent (fCons (fFz (fLk (fV 3))) (fCons (fFz (fLk (fV 6))) (fCons (fFz (fLk (fV 5))) fNil))))) (fIfS (fOrT (fNotT (fB (fCall m__law_alike (fCons (fFz (fLk (fV 9))) (fCons (fFz (fLk (fV 7))) fNil))))) (fB (fTwo (fV 6) (fV 4) (cmpK pNe)))) (fRet false (fC (.bool false))) fPass))))))))))) (fRet false (fC (.bool true)))))
noncomputable def m_law : List OD → Res OD := semP N_law b_law
theorem sc_law : FnScope N_law ["_law_script"] (defScope s_law) := ⟨rfl, rfl, rfl, by decide +kernel, rfl, by decide +kernel, by decide +kernel⟩
theorem d_law {B : Bs} (g : Gd B) (F__law_dice : FnP B 1 "_law_dice" 2 m__law_dice) (F__law_net : FnD B 3 "_law_net" 2 m__law_net) (F__law_off : FnD B 1 "_law_off" 2 m__law_off) (F__law_due : FnP B 2 "_law_due" 3 m__law_due) (F__law_mixed : FnD B 2 "_law_mixed" 2 m__law_mixed) (F_bent : FnP B 4 "bent" 3 m_bent) (F__law_alike : FnP B 9 "_law_alike" 2 m__law_alike) : DSs (B.cx N_law (defScope s_law) 9 false) (defBody s_law) b_law :=
  (dss_cons (ds_set 1 (de_call F__law_dice (Nat.le_of_ble_eq_true rfl) rfl (da_cons (de_fz (de_lk (de_var 0 rfl (by first | exact .inl rfl | exact .inr (.inl rfl) | exact .inr (.inr rfl))))) (da_cons (de_fz de_int) da_nil)) rfl (lenA_cons (lenA_cons lenA_nil))) rfl (by first | exact .inl rfl | exact .inr rfl) (.inl rfl) rfl) (dss_cons (ds_for (di_rng1 ⟨rfl, g.b_range⟩ de_int) (dg_name 2 rfl (by first | exact .inl rfl | exact .inr rfl) (by first | exact .inl rfl | exact .inr rfl)) (dss_cons (ds_set 3 (de_callD F__law_net (Nat.le_of_ble_eq_true rfl) rfl (da_cons (de_var 1 rfl (by first | exact .inl rfl | exact .inr (.inl rfl) | exact .inr (.inr rfl))) (da_cons (de_fz de_int) da_nil)) (lenA_cons (lenA_cons lenA_nil))) rfl (by first | exact .inl rfl | exact .inr rfl) (.inl rfl) rfl) (dss_cons (ds_setComp 4 [("_law_k", 10)] rfl rfl rfl rfl rfl (.inl rfl) (di_rng1 ⟨rfl, g.b_range⟩ (de_len ⟨rfl, g.b_len⟩ (de_ix (de_var 3 rfl (by first | exact .inl rfl | exact .inr (.inl rfl) | exact .inr (.inr rfl))) de_int (fun _ _ => rfl)))) rfl (dg_name 10 rfl (by first | exact .inl rfl | exact .inr rfl) (by first | exact .inl rfl | exact .inr rfl)) (dts_one (DV.dt (de_cmp cr_eq (de_callD F__law_off (Nat.le_of_ble_eq_true rfl) rfl (da_cons (de_var 1 rfl (by first | exact .inl rfl | exact .inr (.inl rfl) | exact .inr (.inr rfl))) (da_cons (de_fz de_int) da_nil)) (lenA_cons (lenA_cons lenA_nil))) de_int rfl))) (de_var 10 rfl (by first | exact .inl rfl | exact .inr (.inl rfl) | exact .inr (.inr rfl)))) (dss_cons (ds_if (DV.dt (de_cmp cr_eq (de_callD F__law_off (Nat.le_of_ble_eq_true rfl) rfl (da_cons (de_var 1 rfl (by first | exact .inl rfl | exact .inr (.inl rfl) | exact .inr (.inr rfl))) (da_cons (de_fz de_int) da_nil)) (lenA_cons (lenA_cons lenA_nil))) de_int rfl)) (dss_one (ds_set 4 (de_listRg ⟨rfl, g.b_list⟩ ⟨rfl, g.b_range⟩ (de_len ⟨rfl, g.b_len⟩ (de_ix (de_var 3 rfl (by first | exact .inl rfl | exact .inr (.inl rfl) | exact .inr (.inr rfl))) de_int (fun _ _ => rfl)))) rfl (by first | exact .inl rfl | exact .inr rfl) (.inl rfl) rfl)) dss_nil) (dss_cons (ds_if (DV.dt (de_cmp cr_eq (de_callD F__law_off (Nat.le_of_ble_eq_true rfl) rfl (da_cons (de_var 1 rfl (by first | exact .inl rfl | exact .inr (.inl rfl) | exact .inr (.inr rfl))) (da_cons (de_fz de_int) da_nil)) (lenA_cons (lenA_cons lenA_nil))) de_int rfl)) (dss_one (ds_set 4 (de_callD F__law_mixed (Nat.le_of_ble_eq_true rfl) rfl (da_cons (de_var 1 rfl (by first | exact .inl rfl | exact .inr (.inl rfl) | exact .inr (.inr rfl))) (da_cons (de_fz (de_add (de_var 4 rfl (by first | exact .inl rfl | exact .inr (.inl rfl) | exact .inr (.inr rfl))) (de_slice (de_var 4 rfl (by first | exact .inl rfl | exact .inr (.inl rfl) | exact .inr (.inr rfl))) dp_no (dp_so de_int)))) da_nil)) (lenA_cons (lenA_cons lenA_nil))) rfl (by first | exact .inl rfl | exact .inr rfl) (.inl rfl) rfl)) dss_nil) (dss_cons (ds_set 5 (de_callD F__law_off (Nat.le_of_ble_eq_true rfl) rfl (da_cons (de_var 1 rfl (by first | exact .inl rfl | exact .inr (.inl rfl) | exact .inr (.inr rfl))) (da_cons (de_fz (de_ix (de_var 3 rfl (by first | exact .inl rfl | exact .inr (.inl rfl) | exact .inr (.inr rfl))) de_int (fun _ _ => rfl))) da_nil)) (lenA_cons (lenA_cons lenA_nil))) rfl (by first | exact .inl rfl | exact .inr rfl) (.inl rfl) rfl) (dss_cons (ds_set 6 (de_list ⟨rfl, g.b_list⟩ (de_var 4 rfl (by first | exact .inl rfl | exact .inr (.inl rfl) | exact .inr (.inr rfl)))) rfl (by first | exact .inl rfl | exact .inr rfl) (.inl rfl) rfl) (dss_cons (ds_set 7 (de_call F__law_due (Nat.le_of_ble_eq_true rfl) rfl (da_cons (de_fz (de_lk (de_var 3 rfl (by first | exact .inl rfl | exact .inr (.inl rfl) | exact .inr (.inr rfl))))) (da_cons (de_fz (de_lk (de_var 4 rfl (by first | exact .inl rfl | exact .inr (.inl rfl) | exact .inr (.inr rfl))))) (da_cons (de_fz (de_lk (de_var 5 rfl (by first | exact .inl rfl | exact .inr (.inl rfl) | exact .inr (.inr rfl))))) da_nil))) rfl (lenA_cons (lenA_cons (lenA_cons lenA_nil)))) rfl (by first | exact .inl rfl | exact .inr rfl) (.inl rfl) rfl) (dss_one (ds_for (di_rng1 ⟨rfl, g.b_range⟩ de_int) (dg_name 8 rfl (by first | exact .inl rfl | exact .inr rfl) (by first | exact .inl rfl | exact .inr rfl)) (dss_cons (ds_set 9 (de_call F_bent (Nat.le_of_ble_eq_true rfl) rfl (da_cons (de_fz (de_lk (de_var 3 rfl (by first | exact .inl rfl | exact .inr (.inl rfl) | exact .inr (.inr rfl))))) (da_cons (de_fz (de_lk (de_var 6 rfl (by first | exact .inl rfl | exact .inr (.inl rfl) | exact .inr (.inr rfl))))) (da_cons (de_fz (de_lk (de_var 5 rfl (by first | exact .inl rfl | exact .inr (.inl rfl) | exact .inr (.inr rfl))))) da_nil))) rfl (lenA_cons (lenA_cons (lenA_cons lenA_nil)))) rfl (by first | exact .inl rfl | exact .inr rfl) (.inl rfl) rfl) (dss_one (ds_if (dt_w (dw_or (dt_not (dt_val (de_call F__law_alike (Nat.le_of_ble_eq_true rfl) rfl (da_cons (de_fz (de_lk (de_var 9 rfl (by first | exact .inl rfl | exact .inr (.inl rfl) | exact .inr (.inr rfl))))) (da_cons (de_fz (de_lk (de_var 7 rfl (by first | exact .inl rfl | exact .inr (.inl rfl) | exact .inr (.inr rfl))))) da_nil)) rfl (lenA_cons (lenA_cons lenA_nil))))) (dw_or1 (DV.dt (de_cmp cr_ne (de_var 6 rfl (by first | exact .inl rfl | exact .inr (.inl rfl) | exact .inr (.inr rfl))) (de_var 4 rfl (by first | exact .inl rfl | exact .inr (.inl rfl) | exact .inr (.inr rfl))) rfl))))) (dss_one (ds_ret de_bl)) dss_nil))) (.inl rfl)))))))))) (.inl rfl)) (dss_one (ds_ret de_bl))))
theorem p_law {B : Bs} (g : Gd B) {f : Addr} {fd : FuncData} (F : FunD B.K "law" "law" (defArgs s_law) (defBody s_law) (defScope s_law) [] [] f fd) (hm : B.mg "law" = some (.ref f)) (F__law_dice : FnP B 1 "_law_dice" 2 m__law_dice) (F__law_net : FnD B 3 "_law_net" 2 m__law_net) (F__law_off : FnD B 1 "_law_off" 2 m__law_off) (F__law_due : FnP B 2 "_law_due" 3 m__law_due) (F__law_mixed : FnD B 2 "_law_mixed" 2 m__law_mixed) (F_bent : FnP B 4 "bent" 3 m_bent) (F__law_alike : FnP B 9 "_law_alike" 2 m__law_alike) : FnP B 10 "law" 1 m_law :=
  fnp_of F sc_law hm (FunD.bindsN F fun _ _ _ _ _ _ us hl => match us, hl with | [_], _ => rfl) rfl (d_law g F__law_dice F__law_net F__law_off F__law_due F__law_mixed F_bent F__law_alike)
end DL
set_option Elab.async false
set_option linter.all false
set_option maxRecDepth 100000
set_option maxHeartbeats 4000000
namespace DL
open PySem PySem.Spec PyProof.Rows L2
open En (en)

theorem s_is_between_t (part : Int) (low : Int) (high : Int) : SS [dv (rd part), dv (rd low), dv (rd high)] b_is_between (tb_is_between part low high) (fun (_ : Unit) => []) (QP (rd : Bool → Pd)) := by
  unfold tb_is_between
  exact (ss_last (ss_ret (fun b1 => b1) (IE.cast (gv_andO (gt_val (IE.ge (gv_isa (ge_var rd (part) (by rfl))))) (gv_andO (gt_val (IE.ge (gv_not (gt_val (IE.ge (gv_isa (ge_var rd (part) (by rfl)))))))) (gv_chainO pLe_ii pLe_ii (ge_var rd (low) (by rfl)) (ge_var rd (part) (by rfl)) (ge_var rd (high) (by rfl))))) (by first | (simp only [Res.bind_ok, Res.bind_assoc, Res.bind_pure, of_sub, id_eq]; done) | rfl)) (fun a od S q _ => q)))
theorem c_is_between : TF m_is_between (fun (a : Int × Int × Int × Unit) => t_is_between a.1 a.2.1 a.2.2.1) (fun a => [rd a.1, rd a.2.1, rd a.2.2.1]) (rd : Bool → Pd) := tf_ret (t := fun (a : Int × Int × Int × Unit) => tb_is_between a.1 a.2.1 a.2.2.1) fun a => s_is_between_t a.1 a.2.1 a.2.2.1
theorem s_is_tie_t (tie : (Int × Int)) (many : Int) : SS [dv (rd tie), dv (rd many)] b_is_tie (tb_is_tie tie many) (fun (_ : Unit) => []) (QP (rd : Bool → Pd)) := by
  unfold tb_is_tie
  exact (ss_ifr (IT.cast (gt_orO (gt_not (gt_val (IE.ge (gv_isa (ge_var rd (tie) (by rfl)))))) (gt_val (IE.ge (two_gg (k_ne (by decide)) (IE.ge (one_g k_lenP (ge_var rd (tie) (by rfl)))) (IE.ge (gv_int _)))))) (by first | (simp only [Res.bind_ok, Res.bind_assoc, Res.bind_pure, of_sub, id_eq]; done) | rfl)) (fun d2 => (ss_ret (fun b3 => b3) (IE.cast (gv_bool _) (by first | (simp only [Res.bind_ok, Res.bind_assoc, Res.bind_pure, of_sub, id_eq]; done) | rfl)) (fun a od S q _ => q))) fun d2 => (ss_last (ss_ret (fun b6 => b6) (IE.cast (gv_and (gt_val (IE.ge (gv_call c_is_between (ga_fr (fz_val (fst_g (ge_var rd (tie) (by rfl)))) (ga_fr (fz_val (gv_int _)) (ga_fr (fz_val (two_gg (k_int pSub) (ge_var rd (many) (by rfl)) (IE.ge (gv_int _)))) ga_nil)))))) (gv_and (gt_val (IE.ge (gv_call c_is_between (ga_fr (fz_val (snd_g (ge_var rd (tie) (by rfl)))) (ga_fr (fz_val (gv_int _)) (ga_fr (fz_val (two_gg (k_int pSub) (ge_var rd (many) (by rfl)) (IE.ge (gv_int _)))) ga_nil)))))) (two_gg (k_ne (by decide)) (IE.ge (fst_g (ge_var rd (tie) (by rfl)))) (IE.ge (snd_g (ge_var rd (tie) (by rfl))))))) (by first | (simp only [Res.bind_ok, Res.bind_assoc, Res.bind_pure, of_sub, id_eq]; done) | rfl)) (fun a od S q _ => q))))
theorem c_is_tie : TF m_is_tie (fun (a : (Int × Int) × Int × Unit) => t_is_tie a.1 a.2.1) (fun a => [rd a.1, rd a.2.1]) (rd : Bool → Pd) := tf_ret (t := fun (a : (Int × Int) × Int × Unit) => tb_is_tie a.1 a.2.1) fun a => s_is_tie_t a.1 a.2.1
theorem s_need_net_t (net : (Int × (Tp (Int × Int)))) : SS [dv (rd net), jk, jk, jk] b_need_net (tb_need_net net) (fun (_ : Unit) => [any, any, any, any]) (QP (rd : Unit → Pd)) := by
  unfold tb_need_net
  exact (ss_ifr (IT.cast (gt_or (gt_not (gt_val (IE.ge (gv_isa (ge_var rd (net) (by rfl)))))) (gt_or (gt_val (IE.ge (two_gg (k_ne (by decide)) (IE.ge (one_g k_lenP (ge_var rd (net) (by rfl)))) (IE.ge (gv_int _))))) (gt_not (gt_val (IE.ge (gv_call c_is_between (ga_fr (fz_val (fst_g (ge_var rd (net) (by rfl)))) (ga_fr (fz_val (gv_int _)) (ga_fr (lk_val (gv_int _)) ga_nil))))))))) (by first | (simp only [Res.bind_ok, Res.bind_assoc, Res.bind_pure, of_sub, id_eq]; done) | rfl)) (fun d7 => ss_stuck) fun d7 => (ss_unp (v := fun (p9 : (Int × (Tp (Int × Int)))) => p9) (tg_pair (tg_name 1) (tg_name 2)) (fun _ => ⟨Nat.le_of_ble_eq_true rfl, ⟨Nat.le_of_ble_eq_true rfl, trivial⟩⟩) (IE.cast (fz_var (net) (by rfl)) (by first | (simp only [Res.bind_ok, Res.bind_assoc, Res.bind_pure, of_sub, id_eq]; done) | rfl)) fun p9 => (ss_ifr (IT.cast (gt_or (gt_not (gt_val (IE.ge (gv_isa (ge_var rd (p9.2) (by rfl)))))) (gt_or (gt_val (IE.ge (two_gg k_gt (IE.ge (one_g k_lenT (ge_var rd (p9.2) (by rfl)))) (IE.ge (gv_int _))))) (gt_val (IE.ge (two_gg (k_ne (by decide)) (IE.ge (IE.wk (gv_comp (ti_fzT (fz_var (p9.2) (by rfl))) (tg_name 3) ⟨Nat.le_of_ble_eq_true rfl, trivial⟩ (frc_cons rfl fro_jk frc_nil) (fun x11 => (gt_not (gt_val (IE.ge (gv_call c_is_tie (ga_fr (lk_rd (x11) (by rfl)) (ga_fr (lk_rd (p9.1) (by rfl)) ga_nil))))))) (fun x11 => (tk_var (x11) (by rfl)))) (fun b od => ow_rd b od))) (IE.ge (IE.wk (gv_nil (Int × Int)) (fun b od => ow_rd b od)))))))) (by first | (simp only [Res.bind_ok, Res.bind_assoc, Res.bind_pure, of_sub, id_eq]; done) | rfl)) (fun d10 => ss_stuck) fun d10 => (ss_last (ss_ifr (IT.cast (gt_val (IE.ge (two_gg k_lt (IE.ge (gv_lenSetT (fz_var (p9.2) (by rfl)))) (IE.ge (one_g k_lenT (ge_var rd (p9.2) (by rfl))))))) (by first | (simp only [Res.bind_ok, Res.bind_assoc, Res.bind_pure, of_sub, id_eq]; done) | rfl)) (fun d15 => ss_stuck) fun d15 => (ss_pass () (by exact (.any (.any (.any (.any .nil)))))))))))
theorem c_need_net : TF m_need_net (fun (a : (Int × (Tp (Int × Int))) × Unit) => t_need_net a.1) (fun a => [rd a.1]) (rd : Unit → Pd) := tf_unit (t := fun (a : (Int × (Tp (Int × Int))) × Unit) => tb_need_net a.1) fun a => s_need_net_t a.1
theorem s_need_ties_t (net : (Int × (Tp (Int × Int)))) (fallen : (List Int)) (root : Int) : SS [dv (rd net), dv (rd fallen), dv (rd root), jk] b_need_ties (tb_need_ties net fallen root) (fun (_ : Unit) => [any, any, any, any]) (QP (rd : Unit → Pd)) := by
  unfold tb_need_ties
  exact (ss_ifr (IT.cast (gt_val (IE.ge (two_gg (k_ne (by decide)) (IE.ge (IE.wk (gv_comp (ti_fz (fz_var (fallen) (by rfl))) (tg_name 3) ⟨Nat.le_of_ble_eq_true rfl, trivial⟩ (frc_cons rfl fro_jk frc_nil) (fun x21 => (gt_not (gt_val (IE.ge (gv_call c_is_between (ga_fr (lk_rd (x21) (by rfl)) (ga_fr (fz_val (gv_int _)) (ga_fr (fz_val (two_gg (k_int pSub) (IE.ge (one_g k_lenT (IE.ge (snd_g (ge_var rd (net) (by rfl)))))) (IE.ge (gv_int _)))) ga_nil)))))))) (fun x21 => (tk_var (x21) (by rfl)))) (fun b od => ow_rd b od))) (IE.ge (IE.wk (gv_nil Int) (fun b od => ow_rd b od)))))) (by first | (simp only [Res.bind_ok, Res.bind_assoc, Res.bind_pure, of_sub, id_eq]; done) | rfl)) (fun d20 => ss_stuck) fun d20 => (ss_last (ss_ifr (IT.cast (gt_not (gt_val (IE.ge (gv_call c_is_between (ga_fr (lk_rd (root) (by rfl)) (ga_fr (fz_val (gv_int _)) (ga_fr (fz_val (two_gg (k_int pSub) (IE.ge (fst_g (ge_var rd (net) (by rfl)))) (IE.ge (gv_int _)))) ga_nil))))))) (by first | (simp only [Res.bind_ok, Res.bind_assoc, Res.bind_pure, of_sub, id_eq]; done) | rfl)) (fun d24 => ss_stuck) fun d24 => (ss_pass () (by exact (.any (.any (.any (.any .nil)))))))))
theorem c_need_ties : TF m_need_ties (fun (a : (Int × (Tp (Int × Int))) × (List Int) × Int × Unit) => t_need_ties a.1 a.2.1 a.2.2.1) (fun a => [rd a.1, rd a.2.1, rd a.2.2.1]) (rd : Unit → Pd) := tf_unit (t := fun (a : (Int × (Tp (Int × Int))) × (List Int) × Int × Unit) => tb_need_ties a.1 a.2.1 a.2.2.1) fun a => s_need_ties_t a.1 a.2.1 a.2.2.1
theorem s_usable_t (net : (Int × (Tp (Int × Int)))) (fallen : (List Int)) : SS [dv (rd net), dv (rd fallen), jk, jk, jk, jk] b_usable (tb_usable net fallen) (fun (_ : Unit) => []) (QP (ow : (List Int) → Pd)) := by
  unfold tb_usable
  exact (ss_set 2 (fun _ => Nat.le_of_ble_eq_true rfl) (IE.cast (IE.wk (IE.wk (tk_val (snd_g (ge_var rd (net) (by rfl)))) (fun b od => rd_fr b od)) (fun b od => fr_rd _ od)) (by first | (simp only [Res.bind_ok, Res.bind_assoc, Res.bind_pure, of_sub, id_eq]; done) | rfl)) fun ties_26 => (ss_set 3 (fun _ => Nat.le_of_ble_eq_true rfl) (IE.cast (tk_val (gv_comp (ti_rng1 (IE.ge (one_g k_lenT (ge_var rd (ties_26) (by rfl))))) (tg_name 5) ⟨Nat.le_of_ble_eq_true rfl, trivial⟩ (frc_cons rfl fro_jk frc_nil) (fun x27 => (gt_val (IE.ge (two_gg (k_ninL (by decide)) (ge_var rd (x27) (by rfl)) (ge_var rd (fallen) (by rfl)))))) (fun x27 => (tk_var (x27) (by rfl))))) (by first | (simp only [Res.bind_ok, Res.bind_assoc, Res.bind_pure, of_sub, id_eq]; done) | rfl)) fun stand_29 => (ss_own 3 (stand_29) rfl (ss_set 4 (fun _ => Nat.le_of_ble_eq_true rfl) (IE.cast (tk_val (gv_comp (ti_fz (fz_var (stand_29) (by rfl))) (tg_name 5) ⟨Nat.le_of_ble_eq_true rfl, trivial⟩ (frc_cons rfl fro_jk frc_nil) (fun x30 => gt_yes) (fun x30 => (IE.wk (tk_val (two_gg k_ixT (ge_var rd (ties_26) (by rfl)) (ge_var rd (x30) (by rfl)))) (fun b od => rd_fr b od))))) (by first | (simp only [Res.bind_ok, Res.bind_assoc, Res.bind_pure, of_sub, id_eq]; done) | rfl)) fun pairs_31 => (ss_last (ss_ret (fun b35 => b35) (IE.cast (gv_comp (ti_fz (fz_var (stand_29) (by rfl))) (tg_name 5) ⟨Nat.le_of_ble_eq_true rfl, trivial⟩ (frc_cons rfl fro_jk frc_nil) (fun x32 => (gt_val (IE.ge (two_gg (k_inL (by decide)) (IE.ge (gv_tup2 (fz_val (snd_g (IE.ge (two_gg k_ixT (ge_var rd (ties_26) (by rfl)) (ge_var rd (x32) (by rfl)))))) (fz_val (fst_g (IE.ge (two_gg k_ixT (ge_var rd (ties_26) (by rfl)) (ge_var rd (x32) (by rfl)))))))) (GE.wk (ge_var ow (pairs_31) (by rfl)) (fun b od => ow_rd b od)))))) (fun x32 => (tk_var (x32) (by rfl)))) (by first | (simp only [Res.bind_ok, Res.bind_assoc, Res.bind_pure, of_sub, id_eq]; done) | rfl)) (fun a od S q _ => q)))))))
theorem c_usable : TF m_usable (fun (a : (Int × (Tp (Int × Int))) × (List Int) × Unit) => t_usable a.1 a.2.1) (fun a => [rd a.1, rd a.2.1]) (ow : (List Int) → Pd) := tf_ret (t := fun (a : (Int × (Tp (Int × Int))) × (List Int) × Unit) => tb_usable a.1 a.2.1) fun a => s_usable_t a.1 a.2.1
theorem s_levels_t (net : (Int × (Tp (Int × Int)))) (some' : (List Int)) (root : Int) : SS [dv (rd net), dv (rd some'), dv (rd root), jk, jk, jk, jk, jk, jk] b_levels (tb_levels net some' root) (fun (_ : Unit) => []) (QP (dw : (Dc Int Int) → Pd)) := by
  unfold tb_levels
  exact (ss_set 3 (fun _ => Nat.le_of_ble_eq_true rfl) (IE.cast (tk_val (gv_dict1 (tk_var (root) (by rfl)) (IE.wk (tk_val (gv_int _)) (fun b od => rd_fr b od)))) (by first | (simp only [Res.bind_ok, Res.bind_assoc, Res.bind_pure, of_sub, id_eq]; done) | rfl)) fun found_36 => (ss_set 4 (fun _ => Nat.le_of_ble_eq_true rfl) (IE.cast (tk_val (gv_lst1 (tk_var (root) (by rfl)))) (by first | (simp only [Res.bind_ok, Res.bind_assoc, Res.bind_pure, of_sub, id_eq]; done) | rfl)) fun waiting_37 => (ss_while (rt := (fun (s38 : (Dc Int Int) × (List Int)) => (Res.ok ((!decide (s38.2 = ([] : (List Int))))) : Res Bool))) (fun (s38 : (Dc Int Int) × (List Int)) => ((((popI s38.2 (0 : Int))).bind fun r39 => Res.ok ((r39, (0 : Int))) : Res ((Int × (List Int)) × Int)).bind fun here_40 => (Res.ok (some') : Res (List Int)).bind fun xs57 => (forR (fun (number_41 : Int) (s42 : (Dc Int Int) × (List Int)) => (((getI net.2.l number_41) : Res (Int × Int)).bind fun p43 => ((Res.ok (((decide (p43.1 = here_40.1.1)) && (!(dg s42.1 p43.2).isSome))) : Res Bool).bind fun d44 => if d44 = true then ((((Res.of (dg s42.1 here_40.1.1))).bind fun r51 => Res.ok ((r51 + (1 : Int))) : Res Int).bind fun a54 => (Res.ok (p43.2) : Res Int).bind fun j55 => (putD s42.1 j55 a54).bind fun found_52 => ((appL s42.2 p43.2) : Res (List Int)).bind fun b53 => Res.ok (Ex.nx (found_52, b53)) : Res (Ex ((Dc Int Int) × (List Int)) (Dc Int Int))) else (Res.ok (Ex.nx (s42.1, s42.2)) : Res (Ex ((Dc Int Int) × (List Int)) (Dc Int Int)))).bindE fun s50 => Res.ok (Ex.nx (s50.1, s50.2)) : Res (Ex ((Dc Int Int) × (List Int)) (Dc Int Int)))) xs57 (s38.1, here_40.1.2)).bindE fun s56 => Res.ok (Ex.nx (s56.1, s56.2)) : Res (Ex ((Dc Int Int) × (List Int)) (Dc Int Int)))) (fun (s38 : (Dc Int Int) × (List Int)) => [dv (rd net), dv (rd some'), dv (rd root), dv (dw s38.1), dv (ow s38.2), any, any, any, any]) (found_36, waiting_37) (by exact (.same (.same (.same (.same (.same (.any (.any (.any (.any .nil)))))))))) (fun s38 => (IT.cast (gt_val (IE.ge (two_gg (k_ne (by decide)) (GE.wk (ge_var ow (s38.2) (by rfl)) (fun b od => ow_rd b od)) (IE.ge (IE.wk (gv_nil Int) (fun b od => ow_rd b od)))))) (by first | (simp only [Res.bind_ok, Res.bind_assoc, Res.bind_pure, of_sub, id_eq]; done) | rfl))) (fun s38 => (ss_set 5 (fun _ => Nat.le_of_ble_eq_true rfl) (IE.cast (IE.wk (IE.wk (tk_val (ie_pop (v := fun (x : Int) => x) rfl (gv_int _) (fun _ => by rfl))) (fun b od => rd_fr _ od)) (fun b od => fr_rd _ od)) (by first | (simp only [Res.bind_ok, Res.bind_assoc, Res.bind_pure, of_sub, id_eq]; done) | rfl)) fun here_40 => (ss_last (ss_for (fun (number_41 : Int) (s42 : (Dc Int Int) × (List Int)) => (((getI net.2.l number_41) : Res (Int × Int)).bind fun p43 => ((Res.ok (((decide (p43.1 = here_40.1.1)) && (!(dg s42.1 p43.2).isSome))) : Res Bool).bind fun d44 => if d44 = true then ((((Res.of (dg s42.1 here_40.1.1))).bind fun r51 => Res.ok ((r51 + (1 : Int))) : Res Int).bind fun a54 => (Res.ok (p43.2) : Res Int).bind fun j55 => (putD s42.1 j55 a54).bind fun found_52 => ((appL s42.2 p43.2) : Res (List Int)).bind fun b53 => Res.ok (Ex.nx (found_52, b53)) : Res (Ex ((Dc Int Int) × (List Int)) (Dc Int Int))) else (Res.ok (Ex.nx (s42.1, s42.2)) : Res (Ex ((Dc Int Int) × (List Int)) (Dc Int Int)))).bindE fun s50 => Res.ok (Ex.nx (s50.1, s50.2)) : Res (Ex ((Dc Int Int) × (List Int)) (Dc Int Int)))) (fun (s42 : (Dc Int Int) × (List Int)) => [dv (rd net), dv (rd some'), dv (rd root), dv (dw s42.1), dv (ow s42.2), dv (rd here_40.1.1), any, any, any]) (s38.1, here_40.1.2) (TI.cast (ti_fz (fz_var (some') (by rfl))) (by first | (simp only [Res.bind_ok, Res.bind_assoc, Res.bind_pure, of_sub, id_eq]; done) | rfl)) (tg_name 6) (fun _ => ⟨Nat.le_of_ble_eq_true rfl, trivial⟩) (by exact (.same (.same (.same (.same (.same (.same (.any (.any (.any .nil)))))))))) (fun number_41 s42 => (ss_unp (v := fun (p43 : (Int × Int)) => p43) (tg_pair (tg_name 7) (tg_name 8)) (fun _ => ⟨Nat.le_of_ble_eq_true rfl, ⟨Nat.le_of_ble_eq_true rfl, trivial⟩⟩) (IE.cast (fz_val (two_gg k_ixT (IE.ge (snd_g (ge_var rd (net) (by rfl)))) (ge_var rd (number_41) (by rfl)))) (by first | (simp only [Res.bind_ok, Res.bind_assoc, Res.bind_pure, of_sub, id_eq]; done) | rfl)) fun p43 => (ss_last (ss_if (Γj := (fun (s50 : (Dc Int Int) × (List Int)) => [dv (rd net), dv (rd some'), dv (rd root), dv (dw s50.1), dv (ow s50.2), dv (rd here_40.1.1), dv (rd number_41), dv (rd p43.1), dv (rd p43.2)])) (IT.cast (gt_andO (gt_val (IE.ge (two_gg (k_eq (by decide)) (ge_var rd (p43.1) (by rfl)) (ge_var rd (here_40.1.1) (by rfl))))) (gt_val (IE.ge (two_gg k_ninD (ge_var rd (p43.2) (by rfl)) (GE.wk (ge_var dw (s42.1) (by rfl)) (fun b od => dw_dr b od)))))) (by first | (simp only [Res.bind_ok, Res.bind_assoc, Res.bind_pure, of_sub, id_eq]; done) | rfl)) (fun d44 => (ss_stD rfl (IE.cast (IE.wk (tk_val (two_gg k_addI (IE.ge (two_gg k_dix (GE.wk (ge_var dw (s42.1) (by rfl)) (fun b od => dw_dr b od)) (ge_var rd (here_40.1.1) (by rfl)))) (IE.ge (gv_int _)))) (fun b od => rd_fr b od)) (by first | (simp only [Res.bind_ok, Res.bind_assoc, Res.bind_pure, of_sub, id_eq]; done) | rfl)) (GE.cast (ge_var rd (p43.2) (by rfl)) (by first | (simp only [Res.bind_ok, Res.bind_assoc, Res.bind_pure, of_sub, id_eq]; done) | rfl)) fun found_52 => (ss_last (ss_expr (IE.cast (ie_app rfl (tk_var (p43.2) (by rfl))) (by first | (simp only [Res.bind_ok, Res.bind_assoc, Res.bind_pure, of_sub, id_eq]; done) | rfl)) fun b53 => (ss_pass (found_52, b53) (by exact (.same (.same (.same (.same (.same (.same (.same (.same (.same .nil))))))))))))))) (fun d44 => (ss_pass (s42.1, s42.2) (by exact (.same (.same (.same (.same (.same (.same (.same (.same (.same .nil)))))))))))) fun s50 => (ss_pass (s50.1, s50.2) (by exact (.same (.same (.same (.same (.same (.same (.any (.any (.any .nil))))))))))))))) fun s56 => (ss_pass (s56.1, s56.2) (by exact (.same (.same (.same (.same (.same (.any (.any (.any (.any .nil))))))))))))))) fun s58 => (ss_last (ss_retV (c := s58.1) (P := dw (s58.1)) rfl rfl (fun od S q _ => q))))))
theorem c_levels : TF m_levels (fun (a : (Int × (Tp (Int × Int))) × (List Int) × Int × Unit) => t_levels a.1 a.2.1 a.2.2.1) (fun a => [rd a.1, rd a.2.1, rd a.2.2.1]) (dw : (Dc Int Int) → Pd) := tf_ret (t := fun (a : (Int × (Tp (Int × Int))) × (List Int) × Int × Unit) => tb_levels a.1 a.2.1 a.2.2.1) fun a => s_levels_t a.1 a.2.1 a.2.2.1
theorem s_is_up_t (net : (Int × (Tp (Int × Int)))) (far : (Dc Int Int)) (number : Int) : SS [dv (rd net), dv (dr far), dv (rd number), jk, jk] b_is_up (tb_is_up net far number) (fun (_ : Unit) => []) (QP (rd : Bool → Pd)) := by
  unfold tb_is_up
  exact (ss_unp (v := fun (p59 : (Int × Int)) => p59) (tg_pair (tg_name 3) (tg_name 4)) (fun _ => ⟨Nat.le_of_ble_eq_true rfl, ⟨Nat.le_of_ble_eq_true rfl, trivial⟩⟩) (IE.cast (fz_val (two_gg k_ixT (IE.ge (snd_g (ge_var rd (net) (by rfl)))) (ge_var rd (number) (by rfl)))) (by first | (simp only [Res.bind_ok, Res.bind_assoc, Res.bind_pure, of_sub, id_eq]; done) | rfl)) fun p59 => (ss_last (ss_ret (fun b62 => b62) (IE.cast (two_gg k_ltP (IE.ge (gv_tup2 (fz_val (two_gg k_dix (ge_var dr (far) (by rfl)) (ge_var rd (p59.2) (by rfl)))) (fz_var (p59.2) (by rfl)))) (IE.ge (gv_tup2 (fz_val (two_gg k_dix (ge_var dr (far) (by rfl)) (ge_var rd (p59.1) (by rfl)))) (fz_var (p59.1) (by rfl))))) (by first | (simp only [Res.bind_ok, Res.bind_assoc, Res.bind_pure, of_sub, id_eq]; done) | rfl)) (fun a od S q _ => q))))
theorem c_is_up : TF m_is_up (fun (a : (Int × (Tp (Int × Int))) × (Dc Int Int) × Int × Unit) => t_is_up a.1 a.2.1 a.2.2.1) (fun a => [rd a.1, dr a.2.1, rd a.2.2.1]) (rd : Bool → Pd) := tf_ret (t := fun (a : (Int × (Tp (Int × Int))) × (Dc Int Int) × Int × Unit) => tb_is_up a.1 a.2.1 a.2.2.1) fun a => s_is_up_t a.1 a.2.1 a.2.2.1
theorem s_reached_t (net : (Int × (Tp (Int × Int)))) (some' : (List Int)) (goal : Int) (known : (Dc Int Int)) : SS [dv (rd net), dv (rd some'), dv (rd goal), dv (dr known), jk, jk, jk, jk, jk] b_reached (tb_reached net some' goal known) (fun (_ : Unit) => []) (QP (dw : (Dc Int Int) → Pd)) := by
  unfold tb_reached
  exact (ss_set 4 (fun _ => Nat.le_of_ble_eq_true rfl) (IE.cast (tk_val (one_g k_dict (ge_var dr (known) (by rfl)))) (by first | (simp only [Res.bind_ok, Res.bind_assoc, Res.bind_pure, of_sub, id_eq]; done) | rfl)) fun found_63 => (ss_stD rfl (IE.cast (IE.wk (tk_val (gv_int _)) (fun b od => rd_fr b od)) (by first | (simp only [Res.bind_ok, Res.bind_assoc, Res.bind_pure, of_sub, id_eq]; done) | rfl)) (GE.cast (ge_var rd (goal) (by rfl)) (by first | (simp only [Res.bind_ok, Res.bind_assoc, Res.bind_pure, of_sub, id_eq]; done) | rfl)) fun found_64 => (ss_set 5 (fun _ => Nat.le_of_ble_eq_true rfl) (IE.cast (IE.wk (IE.wk (tk_val (gv_bool _)) (fun b od => rd_fr b od)) (fun b od => fr_rd _ od)) (by first | (simp only [Res.bind_ok, Res.bind_assoc, Res.bind_pure, of_sub, id_eq]; done) | rfl)) fun changed_65 => (ss_while (rt := (fun (s66 : (Dc Int Int) × Bool) => (Res.ok (s66.2) : Res Bool))) (fun (s66 : (Dc Int Int) × Bool) => ((Res.ok (false) : Res Bool).bind fun changed_67 => (Res.ok (some') : Res (List Int)).bind fun xs85 => (forR (fun (number_68 : Int) (s69 : (Dc Int Int) × Bool) => (((getI net.2.l number_68) : Res (Int × Int)).bind fun p70 => (((if ((dg s69.1 p70.2).isSome) = true then (if (!(dg known p70.1).isSome) = true then ((Res.of (dg s69.1 p70.2))).bind fun r72 => Res.ok ((decide ((r72 + (1 : Int)) < ((dg s69.1 p70.1).getD (99 : Int))))) else Res.ok false) else Res.ok false) : Res Bool).bind fun d71 => if d71 = true then ((((Res.of (dg s69.1 p70.2))).bind fun r79 => Res.ok ((r79 + (1 : Int))) : Res Int).bind fun a82 => (Res.ok (p70.1) : Res Int).bind fun j83 => (putD s69.1 j83 a82).bind fun found_80 => (Res.ok (true) : Res Bool).bind fun changed_81 => Res.ok (Ex.nx (found_80, changed_81)) : Res (Ex ((Dc Int Int) × Bool) (Dc Int Int))) else (Res.ok (Ex.nx (s69.1, s69.2)) : Res (Ex ((Dc Int Int) × Bool) (Dc Int Int)))).bindE fun s78 => Res.ok (Ex.nx (s78.1, s78.2)) : Res (Ex ((Dc Int Int) × Bool) (Dc Int Int)))) xs85 (s66.1, changed_67)).bindE fun s84 => Res.ok (Ex.nx (s84.1, s84.2)) : Res (Ex ((Dc Int Int) × Bool) (Dc Int Int)))) (fun (s66 : (Dc Int Int) × Bool) => [dv (rd net), dv (rd some'), dv (rd goal), dv (dr known), dv (dw s66.1), dv (rd s66.2), any, any, any]) (found_64, changed_65) (by exact (.same (.same (.same (.same (.same (.same (.any (.any (.any .nil)))))))))) (fun s66 => (IT.cast (gt_val (ge_var rd (s66.2) (by rfl))) (by first | (simp only [Res.bind_ok, Res.bind_assoc, Res.bind_pure, of_sub, id_eq]; done) | rfl))) (fun s66 => (ss_set 5 (fun _ => Nat.le_of_ble_eq_true rfl) (IE.cast (IE.wk (IE.wk (tk_val (gv_bool _)) (fun b od => rd_fr b od)) (fun b od => fr_rd _ od)) (by first | (simp only [Res.bind_ok, Res.bind_assoc, Res.bind_pure, of_sub, id_eq]; done) | rfl)) fun changed_67 => (ss_last (ss_for (fun (number_68 : Int) (s69 : (Dc Int Int) × Bool) => (((getI net.2.l number_68) : Res (Int × Int)).bind fun p70 => (((if ((dg s69.1 p70.2).isSome) = true then (if (!(dg known p70.1).isSome) = true then ((Res.of (dg s69.1 p70.2))).bind fun r72 => Res.ok ((decide ((r72 + (1 : Int)) < ((dg s69.1 p70.1).getD (99 : Int))))) else Res.ok false) else Res.ok false) : Res Bool).bind fun d71 => if d71 = true then ((((Res.of (dg s69.1 p70.2))).bind fun r79 => Res.ok ((r79 + (1 : Int))) : Res Int).bind fun a82 => (Res.ok (p70.1) : Res Int).bind fun j83 => (putD s69.1 j83 a82).bind fun found_80 => (Res.ok (true) : Res Bool).bind fun changed_81 => Res.ok (Ex.nx (found_80, changed_81)) : Res (Ex ((Dc Int Int) × Bool) (Dc Int Int))) else (Res.ok (Ex.nx (s69.1, s69.2)) : Res (Ex ((Dc Int Int) × Bool) (Dc Int Int)))).bindE fun s78 => Res.ok (Ex.nx (s78.1, s78.2)) : Res (Ex ((Dc Int Int) × Bool) (Dc Int Int)))) (fun (s69 : (Dc Int Int) × Bool) => [dv (rd net), dv (rd some'), dv (rd goal), dv (dr known), dv (dw s69.1), dv (rd s69.2), any, any, any]) (s66.1, changed_67) (TI.cast (ti_fz (fz_var (some') (by rfl))) (by first | (simp only [Res.bind_ok, Res.bind_assoc, Res.bind_pure, of_sub, id_eq]; done) | rfl)) (tg_name 6) (fun _ => ⟨Nat.le_of_ble_eq_true rfl, trivial⟩) (by exact (.same (.same (.same (.same (.same (.same (.any (.any (.any .nil)))))))))) (fun number_68 s69 => (ss_unp (v := fun (p70 : (Int × Int)) => p70) (tg_pair (tg_name 7) (tg_name 8)) (fun _ => ⟨Nat.le_of_ble_eq_true rfl, ⟨Nat.le_of_ble_eq_true rfl, trivial⟩⟩) (IE.cast (fz_val (two_gg k_ixT (IE.ge (snd_g (ge_var rd (net) (by rfl)))) (ge_var rd (number_68) (by rfl)))) (by first | (simp only [Res.bind_ok, Res.bind_assoc, Res.bind_pure, of_sub, id_eq]; done) | rfl)) fun p70 => (ss_last (ss_if (Γj := (fun (s78 : (Dc Int Int) × Bool) => [dv (rd net), dv (rd some'), dv (rd goal), dv (dr known), dv (dw s78.1), dv (rd s78.2), dv (rd number_68), dv (rd p70.1), dv (rd p70.2)])) (IT.cast (gt_and (gt_val (IE.ge (two_gg k_inD (ge_var rd (p70.2) (by rfl)) (GE.wk (ge_var dw (s69.1) (by rfl)) (fun b od => dw_dr b od))))) (gt_and (gt_val (IE.ge (two_gg k_ninD (ge_var rd (p70.1) (by rfl)) (ge_var dr (known) (by rfl))))) (gt_val (IE.ge (two_gg k_lt (IE.ge (two_gg k_addI (IE.ge (two_gg k_dix (GE.wk (ge_var dw (s69.1) (by rfl)) (fun b od => dw_dr b od)) (ge_var rd (p70.2) (by rfl)))) (IE.ge (gv_int _)))) (IE.ge (get2_g (GE.wk (ge_var dw (s69.1) (by rfl)) (fun b od => dw_dr b od)) (ge_var rd (p70.1) (by rfl)) (IE.wk (fz_val (gv_int _)) (fun b od => fr_rd b od))))))))) (by first | (simp only [Res.bind_ok, Res.bind_assoc, Res.bind_pure, of_sub, id_eq]; done) | rfl)) (fun d71 => (ss_stD rfl (IE.cast (IE.wk (tk_val (two_gg k_addI (IE.ge (two_gg k_dix (GE.wk (ge_var dw (s69.1) (by rfl)) (fun b od => dw_dr b od)) (ge_var rd (p70.2) (by rfl)))) (IE.ge (gv_int _)))) (fun b od => rd_fr b od)) (by first | (simp only [Res.bind_ok, Res.bind_assoc, Res.bind_pure, of_sub, id_eq]; done) | rfl)) (GE.cast (ge_var rd (p70.1) (by rfl)) (by first | (simp only [Res.bind_ok, Res.bind_assoc, Res.bind_pure, of_sub, id_eq]; done) | rfl)) fun found_80 => (ss_last (ss_set 5 (fun _ => Nat.le_of_ble_eq_true rfl) (IE.cast (IE.wk (IE.wk (tk_val (gv_bool _)) (fun b od => rd_fr b od)) (fun b od => fr_rd _ od)) (by first | (simp only [Res.bind_ok, Res.bind_assoc, Res.bind_pure, of_sub, id_eq]; done) | rfl)) fun changed_81 => (ss_pass (found_80, changed_81) (by exact (.same (.same (.same (.same (.same (.same (.same (.same (.same .nil))))))))))))))) (fun d71 => (ss_pass (s69.1, s69.2) (by exact (.same (.same (.same (.same (.same (.same (.same (.same (.same .nil)))))))))))) fun s78 => (ss_pass (s78.1, s78.2) (by exact (.same (.same (.same (.same (.same (.same (.any (.any (.any .nil))))))))))))))) fun s84 => (ss_pass (s84.1, s84.2) (by exact (.same (.same (.same (.same (.same (.same (.any (.any (.any .nil))))))))))))))) fun s86 => (ss_last (ss_retV (c := s86.1) (P := dw (s86.1)) rfl rfl (fun od S q _ => q)))))))
theorem c_reached : TF m_reached (fun (a : (Int × (Tp (Int × Int))) × (List Int) × Int × (Dc Int Int) × Unit) => t_reached a.1 a.2.1 a.2.2.1 a.2.2.2.1) (fun a => [rd a.1, rd a.2.1, rd a.2.2.1, dr a.2.2.2.1]) (dw : (Dc Int Int) → Pd) := tf_ret (t := fun (a : (Int × (Tp (Int × Int))) × (List Int) × Int × (Dc Int Int) × Unit) => tb_reached a.1 a.2.1 a.2.2.1 a.2.2.2.1) fun a => s_reached_t a.1 a.2.1 a.2.2.1 a.2.2.2.1
theorem s_step_t (net : (Int × (Tp (Int × Int)))) (some' : (List Int)) (far : (Dc Int Int)) (here : Int) : SS [dv (rd net), dv (rd some'), dv (dr far), dv (rd here), jk, jk, jk] b_step (tb_step net some' far here) (fun (_ : Unit) => []) (QP (rd : Int → Pd)) := by
  unfold tb_step
  exact (ss_for (fun (number_89 : Int) (s90 : Unit) => (((getI net.2.l number_89) : Res (Int × Int)).bind fun p91 => ((if (decide (p91.1 = here)) = true then (if ((dg far p91.2).isSome) = true then ((Res.of (dg far p91.2))).bind fun r93 => ((Res.of (dg far here))).bind fun r94 => Res.ok ((decide ((r93 + (1 : Int)) = r94))) else Res.ok false) else Res.ok false) : Res Bool).bind fun d92 => if d92 = true then Res.ok (Ex.rt (number_89)) else Res.ok (Ex.nx ()) : Res (Ex (Unit) Int))) (fun (s90 : Unit) => [dv (rd net), dv (rd some'), dv (dr far), dv (rd here), any, any, any]) () (TI.cast (ti_fz (fz_var (some') (by rfl))) (by first | (simp only [Res.bind_ok, Res.bind_assoc, Res.bind_pure, of_sub, id_eq]; done) | rfl)) (tg_name 4) (fun _ => ⟨Nat.le_of_ble_eq_true rfl, trivial⟩) (by exact (.same (.same (.same (.same (.any (.any (.any .nil)))))))) (fun number_89 s90 => (ss_unp (v := fun (p91 : (Int × Int)) => p91) (tg_pair (tg_name 5) (tg_name 6)) (fun _ => ⟨Nat.le_of_ble_eq_true rfl, ⟨Nat.le_of_ble_eq_true rfl, trivial⟩⟩) (IE.cast (fz_val (two_gg k_ixT (IE.ge (snd_g (ge_var rd (net) (by rfl)))) (ge_var rd (number_89) (by rfl)))) (by first | (simp only [Res.bind_ok, Res.bind_assoc, Res.bind_pure, of_sub, id_eq]; done) | rfl)) fun p91 => (ss_last (ss_ifr (IT.cast (gt_and (gt_val (IE.ge (two_gg (k_eq (by decide)) (ge_var rd (p91.1) (by rfl)) (ge_var rd (here) (by rfl))))) (gt_and (gt_val (IE.ge (two_gg k_inD (ge_var rd (p91.2) (by rfl)) (ge_var dr (far) (by rfl))))) (gt_val (IE.ge (two_gg (k_eq (by decide)) (IE.ge (two_gg k_addI (IE.ge (two_gg k_dix (ge_var dr (far) (by rfl)) (ge_var rd (p91.2) (by rfl)))) (IE.ge (gv_int _)))) (IE.ge (two_gg k_dix (ge_var dr (far) (by rfl)) (ge_var rd (here) (by rfl))))))))) (by first | (simp only [Res.bind_ok, Res.bind_assoc, Res.bind_pure, of_sub, id_eq]; done) | rfl)) (fun d92 => (ss_retV (c := number_89) (P := rd (number_89)) rfl rfl (fun od S q _ => q))) fun d92 => (ss_pass () (by exact (.same (.same (.same (.same (.any (.any (.any .nil))))))))))))) fun s95 => (ss_last (ss_ret (fun b96 => b96) (IE.cast (gv_int _) (by first | (simp only [Res.bind_ok, Res.bind_assoc, Res.bind_pure, of_sub, id_eq]; done) | rfl)) (fun a od S q _ => q))))
theorem c_step : TF m_step (fun (a : (Int × (Tp (Int × Int))) × (List Int) × (Dc Int Int) × Int × Unit) => t_step a.1 a.2.1 a.2.2.1 a.2.2.2.1) (fun a => [rd a.1, rd a.2.1, dr a.2.2.1, rd a.2.2.2.1]) (rd : Int → Pd) := tf_ret (t := fun (a : (Int × (Tp (Int × Int))) × (List Int) × (Dc Int Int) × Int × Unit) => tb_step a.1 a.2.1 a.2.2.1 a.2.2.2.1) fun a => s_step_t a.1 a.2.1 a.2.2.1 a.2.2.2.1
theorem s_bent_t (net : (Int × (Tp (Int × Int)))) (fallen : (List Int)) (root : Int) : SS [dv (rd net), dv (rd fallen), dv (rd root), jk, jk, jk, jk, jk, jk, jk, jk, jk, jk, jk] b_bent (tb_bent net fallen root) (fun (_ : Unit) => []) (QP (rd : (Tp (Tp Int)) → Pd)) := by
  unfold tb_bent
  exact (ss_expr (IE.cast (gv_call c_need_net (ga_fr (lk_rd (net) (by rfl)) ga_nil)) (by first | (simp only [Res.bind_ok, Res.bind_assoc, Res.bind_pure, of_sub, id_eq]; done) | rfl)) fun b98 => (ss_expr (IE.cast (gv_call c_need_ties (ga_fr (lk_rd (net) (by rfl)) (ga_fr (lk_rd (fallen) (by rfl)) (ga_fr (lk_rd (root) (by rfl)) ga_nil)))) (by first | (simp only [Res.bind_ok, Res.bind_assoc, Res.bind_pure, of_sub, id_eq]; done) | rfl)) fun b99 => (ss_set 3 (fun _ => Nat.le_of_ble_eq_true rfl) (IE.cast (tk_val (gv_call c_usable (ga_fr (lk_rd (net) (by rfl)) (ga_fr (lk_rd (fallen) (by rfl)) ga_nil)))) (by first | (simp only [Res.bind_ok, Res.bind_assoc, Res.bind_pure, of_sub, id_eq]; done) | rfl)) fun some'_100 => (ss_own 3 (some'_100) rfl (ss_set 4 (fun _ => Nat.le_of_ble_eq_true rfl) (IE.cast (tk_val (gv_call c_levels (ga_fr (lk_rd (net) (by rfl)) (ga_fr (lk_rd (some'_100) (by rfl)) (ga_fr (lk_rd (root) (by rfl)) ga_nil))))) (by first | (simp only [Res.bind_ok, Res.bind_assoc, Res.bind_pure, of_sub, id_eq]; done) | rfl)) fun near_101 => (ss_set 3 (fun _ => Nat.le_of_ble_eq_true rfl) (IE.cast (tk_val (gv_comp (ti_fz (fz_var (some'_100) (by rfl))) (tg_name 12) ⟨Nat.le_of_ble_eq_true rfl, trivial⟩ (frc_cons rfl fro_jk frc_nil) (fun x102 => (gt_val (IE.ge (two_gg k_inD (IE.ge (fst_g (IE.ge (two_gg k_ixT (IE.ge (snd_g (ge_var rd (net) (by rfl)))) (ge_var rd (x102) (by rfl)))))) (GE.wk (ge_var dw (near_101) (by rfl)) (fun b od => dw_dr b od)))))) (fun x102 => (tk_var (x102) (by rfl))))) (by first | (simp only [Res.bind_ok, Res.bind_assoc, Res.bind_pure, of_sub, id_eq]; done) | rfl)) fun some'_104 => (ss_own 3 (some'_104) rfl (ss_dic 4 (near_101) rfl (ss_set 5 (fun _ => Nat.le_of_ble_eq_true rfl) (IE.cast (tk_val (gv_comp (ti_fz (fz_var (some'_104) (by rfl))) (tg_name 12) ⟨Nat.le_of_ble_eq_true rfl, trivial⟩ (frc_cons rfl fro_jk frc_nil) (fun x105 => (gt_val (IE.ge (gv_call c_is_up (ga_fr (lk_rd (net) (by rfl)) (ga_dz (lk_dr (near_101) (by rfl)) (ga_fr (lk_rd (x105) (by rfl)) ga_nil))))))) (fun x105 => (tk_var (x105) (by rfl))))) (by first | (simp only [Res.bind_ok, Res.bind_assoc, Res.bind_pure, of_sub, id_eq]; done) | rfl)) fun ups_106 => (ss_set 6 (fun _ => Nat.le_of_ble_eq_true rfl) (IE.cast (tk_val (gv_comp (ti_fz (fz_var (some'_104) (by rfl))) (tg_name 12) ⟨Nat.le_of_ble_eq_true rfl, trivial⟩ (frc_cons rfl fro_jk frc_nil) (fun x107 => (gt_val (IE.ge (two_gg (k_ninL (by decide)) (ge_var rd (x107) (by rfl)) (GE.wk (ge_var ow (ups_106) (by rfl)) (fun b od => ow_rd b od)))))) (fun x107 => (tk_var (x107) (by rfl))))) (by first | (simp only [Res.bind_ok, Res.bind_assoc, Res.bind_pure, of_sub, id_eq]; done) | rfl)) fun downs_108 => (ss_set 7 (fun _ => Nat.le_of_ble_eq_true rfl) (IE.cast (tk_val (gv_compO (ti_rng1 (IE.ge (fst_g (ge_var rd (net) (by rfl))))) (tg_name 11) ⟨Nat.le_of_ble_eq_true rfl, trivial⟩ (frc_cons rfl fro_jk frc_nil) (fun x109 => gt_yes) (fun x109 => (tk_val (two_gg k_mulL (IE.ge (IE.wk (gv_lst1 (IE.wk (tk_val (gv_int _)) (fun b od => rd_fr b od))) (fun b od => ow_rd b od))) (IE.ge (fst_g (ge_var rd (net) (by rfl))))))))) (by first | (simp only [Res.bind_ok, Res.bind_assoc, Res.bind_pure, of_sub, id_eq]; done) | rfl)) fun rows_111 => (ss_own 6 (downs_108) rfl (ss_own 5 (ups_106) rfl (ss_for (fun (goal_112 : Int) (s113 : (List (List Int))) => (((t_reached net downs_108 goal_112 ([] : (Dc Int Int))) : Res (Dc Int Int)).bind fun down_114 => ((t_reached net ups_106 goal_112 down_114) : Res (Dc Int Int)).bind fun whole_115 => ((sortKeys near_101) : Res (List Int)).bind fun xs131 => (forR (fun (here_116 : Int) (s117 : (List (List Int))) => (((Res.ok (((!decide (here_116 = goal_112)) && ((dg whole_115 here_116).isSome))) : Res Bool).bind fun d118 => if d118 = true then ((((if ((dg down_114 here_116).isSome) = true then Res.ok (downs_108) else Res.ok (ups_106))).bind fun r125 => ((if ((dg down_114 here_116).isSome) = true then Res.ok (down_114) else Res.ok (whole_115))).bind fun r126 => (t_step net r125 r126 here_116) : Res Int).bind fun a128 => (Res.ok (here_116) : Res Int).bind fun j129 => (setII s117 j129 goal_112 a128).bind fun rows_127 => Res.ok (Ex.nx rows_127) : Res (Ex ((List (List Int))) (Tp (Tp Int)))) else (Res.ok (Ex.nx s117) : Res (Ex ((List (List Int))) (Tp (Tp Int))))).bindE fun s124 => Res.ok (Ex.nx s124) : Res (Ex ((List (List Int))) (Tp (Tp Int))))) xs131 s113).bindE fun s130 => Res.ok (Ex.nx s130) : Res (Ex ((List (List Int))) (Tp (Tp Int))))) (fun (s113 : (List (List Int))) => [dv (rd net), dv (rd fallen), dv (rd root), dv (rd some'_104), dv (dr near_101), dv (rd ups_106), dv (rd downs_108), dv (oo s113), any, any, any, jk, jk, jk]) rows_111 (TI.cast (ti_fz (fz_val (IE.wk (one_g k_sortD (ge_var dr (near_101) (by rfl))) (fun b od => ow_rd b od)))) (by first | (simp only [Res.bind_ok, Res.bind_assoc, Res.bind_pure, of_sub, id_eq]; done) | rfl)) (tg_name 8) (fun _ => ⟨Nat.le_of_ble_eq_true rfl, trivial⟩) (by exact (.same (.same (.same (.same (.same (.same (.same (.same (.any (.any (.any (.same (.same (.same .nil))))))))))))))) (fun goal_112 s113 => (ss_set 9 (fun _ => Nat.le_of_ble_eq_true rfl) (IE.cast (tk_val (gv_call c_reached (ga_fr (lk_rd (net) (by rfl)) (ga_fr (lk_rd (downs_108) (by rfl)) (ga_fr (lk_rd (goal_112) (by rfl)) (ga_dz (lk_dw (gv_dict0 Int Int rfl)) ga_nil)))))) (by first | (simp only [Res.bind_ok, Res.bind_assoc, Res.bind_pure, of_sub, id_eq]; done) | rfl)) fun down_114 => (ss_dic 9 (down_114) rfl (ss_set 10 (fun _ => Nat.le_of_ble_eq_true rfl) (IE.cast (tk_val (gv_call c_reached (ga_fr (lk_rd (net) (by rfl)) (ga_fr (lk_rd (ups_106) (by rfl)) (ga_fr (lk_rd (goal_112) (by rfl)) (ga_dz (lk_dr (down_114) (by rfl)) ga_nil)))))) (by first | (simp only [Res.bind_ok, Res.bind_assoc, Res.bind_pure, of_sub, id_eq]; done) | rfl)) fun whole_115 => (ss_dic 10 (whole_115) rfl (ss_last (ss_for (fun (here_116 : Int) (s117 : (List (List Int))) => (((Res.ok (((!decide (here_116 = goal_112)) && ((dg whole_115 here_116).isSome))) : Res Bool).bind fun d118 => if d118 = true then ((((if ((dg down_114 here_116).isSome) = true then Res.ok (downs_108) else Res.ok (ups_106))).bind fun r125 => ((if ((dg down_114 here_116).isSome) = true then Res.ok (down_114) else Res.ok (whole_115))).bind fun r126 => (t_step net r125 r126 here_116) : Res Int).bind fun a128 => (Res.ok (here_116) : Res Int).bind fun j129 => (setII s117 j129 goal_112 a128).bind fun rows_127 => Res.ok (Ex.nx rows_127) : Res (Ex ((List (List Int))) (Tp (Tp Int)))) else (Res.ok (Ex.nx s117) : Res (Ex ((List (List Int))) (Tp (Tp Int))))).bindE fun s124 => Res.ok (Ex.nx s124) : Res (Ex ((List (List Int))) (Tp (Tp Int))))) (fun (s117 : (List (List Int))) => [dv (rd net), dv (rd fallen), dv (rd root), dv (rd some'_104), dv (dr near_101), dv (rd ups_106), dv (rd downs_108), dv (oo s117), dv (rd goal_112), dv (dr down_114), dv (dr whole_115), jk, jk, jk]) s113 (TI.cast (ti_fz (fz_val (IE.wk (one_g k_sortD (ge_var dr (near_101) (by rfl))) (fun b od => ow_rd b od)))) (by first | (simp only [Res.bind_ok, Res.bind_assoc, Res.bind_pure, of_sub, id_eq]; done) | rfl)) (tg_name 11) (fun _ => ⟨Nat.le_of_ble_eq_true rfl, trivial⟩) (by exact (.same (.same (.same (.same (.same (.same (.same (.same (.same (.same (.same (.same (.same (.same .nil))))))))))))))) (fun here_116 s117 => (ss_last (ss_if (Γj := (fun (s124 : (List (List Int))) => [dv (rd net), dv (rd fallen), dv (rd root), dv (rd some'_104), dv (dr near_101), dv (rd ups_106), dv (rd downs_108), dv (oo s124), dv (rd goal_112), dv (dr down_114), dv (dr whole_115), dv (rd here_116), jk, jk])) (IT.cast (gt_andO (gt_val (IE.ge (two_gg (k_ne (by decide)) (ge_var rd (here_116) (by rfl)) (ge_var rd (goal_112) (by rfl))))) (gt_val (IE.ge (two_gg k_inD (ge_var rd (here_116) (by rfl)) (ge_var dr (whole_115) (by rfl)))))) (by first | (simp only [Res.bind_ok, Res.bind_assoc, Res.bind_pure, of_sub, id_eq]; done) | rfl)) (fun d118 => (ss_last (ss_st2 rfl rfl (IE.cast (IE.wk (tk_val (gv_call c_step (ga_fr (lk_rd (net) (by rfl)) (ga_fr (lk_if (gt_val (IE.ge (two_gg k_inD (ge_var rd (here_116) (by rfl)) (ge_var dr (down_114) (by rfl))))) (lk_rd (downs_108) (by rfl)) (lk_rd (ups_106) (by rfl))) (ga_dz (lk_if (gt_val (IE.ge (two_gg k_inD (ge_var rd (here_116) (by rfl)) (ge_var dr (down_114) (by rfl))))) (lk_dr (down_114) (by rfl)) (lk_dr (whole_115) (by rfl))) (ga_fr (lk_rd (here_116) (by rfl)) ga_nil)))))) (fun b od => rd_fr b od)) (by first | (simp only [Res.bind_ok, Res.bind_assoc, Res.bind_pure, of_sub, id_eq]; done) | rfl)) (GE.cast (ge_var rd (here_116) (by rfl)) (by first | (simp only [Res.bind_ok, Res.bind_assoc, Res.bind_pure, of_sub, id_eq]; done) | rfl)) fun rows_127 => (ss_pass rows_127 (by exact (.same (.same (.same (.same (.same (.same (.same (.same (.same (.same (.same (.same (.same (.same .nil))))))))))))))))))) (fun d118 => (ss_pass s117 (by exact (.same (.same (.same (.same (.same (.same (.same (.same (.same (.same (.same (.same (.same (.same .nil))))))))))))))))) fun s124 => (ss_pass s124 (by exact (.same (.same (.same (.same (.same (.same (.same (.same (.same (.same (.same (.wk fro_rd (.same (.same .nil))))))))))))))))))) fun s130 => (ss_pass s130 (by exact (.same (.same (.same (.same (.same (.same (.same (.same (.any (.any (.any (.same (.same (.same .nil))))))))))))))))))))))) fun s132 => (ss_roo 7 (s132) rfl (ss_last (ss_ret (fun b135 => b135) (IE.cast (one_g k_tup (IE.ge (IE.wk (gv_comp (ti_fz (fz_ro (s132) (by rfl))) (tg_name 13) ⟨Nat.le_of_ble_eq_true rfl, trivial⟩ (frc_cons rfl fro_jk frc_nil) (fun x133 => gt_yes) (fun x133 => (IE.wk (tk_val (one_g k_tup (ge_var rd (x133) (by rfl)))) (fun b od => rd_fr b od)))) (fun b od => ow_rd b od)))) (by first | (simp only [Res.bind_ok, Res.bind_assoc, Res.bind_pure, of_sub, id_eq]; done) | rfl)) (fun a od S q _ => q))))))))))))))))))
theorem c_bent : TF m_bent (fun (a : (Int × (Tp (Int × Int))) × (List Int) × Int × Unit) => t_bent a.1 a.2.1 a.2.2.1) (fun a => [rd a.1, rd a.2.1, rd a.2.2.1]) (rd : (Tp (Tp Int)) → Pd) := tf_ret (t := fun (a : (Int × (Tp (Int × Int))) × (List Int) × Int × Unit) => tb_bent a.1 a.2.1 a.2.2.1) fun a => s_bent_t a.1 a.2.1 a.2.2.1
theorem s__law_dice_t (script : (List Int)) (k : Int) : SS [dv (rs script), dv (rd k), jk, jk] b__law_dice (tb__law_dice script k) (fun (_ : Unit) => []) (QP (ow : (List Int) → Pd)) := by
  unfold tb__law_dice
  exact (ss_set 2 (fun _ => Nat.le_of_ble_eq_true rfl) (IE.cast (IE.wk (tk_var (k) (by rfl)) (fun b od => fr_rd _ od)) (by first | (simp only [Res.bind_ok, Res.bind_assoc, Res.bind_pure, of_sub, id_eq]; done) | rfl)) fun found_137 => (ss_for (fun (cell_138 : Int) (s139 : Int) => ((((mulI s139 (31 : Int))).bind fun r140 => (Res.of (pMod (r140 + (if cell_138 < 0 then -cell_138 else cell_138)) (2147483647 : Int))) : Res Int).bind fun found_141 => Res.ok (Ex.nx found_141) : Res (Ex (Int) (List Int)))) (fun (s139 : Int) => [dv (rs script), dv (rd k), dv (rd s139), jk]) found_137 (TI.cast (ti_rs (fz_rs (script) (by rfl))) (by first | (simp only [Res.bind_ok, Res.bind_assoc, Res.bind_pure, of_sub, id_eq]; done) | rfl)) (tg_name 3) (fun _ => ⟨Nat.le_of_ble_eq_true rfl, trivial⟩) (by exact (.same (.same (.same (.same .nil))))) (fun cell_138 s139 => (ss_last (ss_set 2 (fun _ => Nat.le_of_ble_eq_true rfl) (IE.cast (IE.wk (IE.wk (tk_val (two_gg (k_int pMod) (IE.ge (two_gg k_addI (IE.ge (two_gg k_mulI (ge_var rd (s139) (by rfl)) (IE.ge (gv_int _)))) (IE.ge (one_g k_abs (ge_var rd (cell_138) (by rfl)))))) (IE.ge (gv_int _)))) (fun b od => rd_fr b od)) (fun b od => fr_rd _ od)) (by first | (simp only [Res.bind_ok, Res.bind_assoc, Res.bind_pure, of_sub, id_eq]; done) | rfl)) fun found_141 => (ss_pass found_141 (by exact (.same (.same (.same (.wk fro_rd .nil))))))))) fun s142 => (ss_last (ss_ret (fun b146 => b146) (IE.cast (two_gg k_addL (IE.ge (IE.wk (gv_lst2 (tk_var (s142) (by rfl)) (IE.wk (tk_val (gv_int _)) (fun b od => rd_fr b od))) (fun b od => ow_rd b od))) (IE.ge (IE.wk (gv_comp (ti_rs (fz_rs (script) (by rfl))) (tg_name 3) ⟨Nat.le_of_ble_eq_true rfl, trivial⟩ (frc_cons rfl fro_jk frc_nil) (fun x143 => (gt_val (IE.ge (two_gg k_ge (ge_var rd (x143) (by rfl)) (IE.ge (two_gg (k_int pPow) (IE.ge (gv_int _)) (IE.ge (gv_int _)))))))) (fun x143 => (tk_var (x143) (by rfl)))) (fun b od => ow_rd b od)))) (by first | (simp only [Res.bind_ok, Res.bind_assoc, Res.bind_pure, of_sub, id_eq]; done) | rfl)) (fun a od S q _ => q)))))
theorem c__law_dice : TF m__law_dice (fun (a : (List Int) × Int × Unit) => t__law_dice a.1 a.2.1) (fun a => [rs a.1, rd a.2.1]) (ow : (List Int) → Pd) := tf_ret (t := fun (a : (List Int) × Int × Unit) => tb__law_dice a.1 a.2.1) fun a => s__law_dice_t a.1 a.2.1
theorem s__law_off_t (d : List Int) (most : Int) : SS [dv (ow d), dv (rd most), jk] b__law_off (tb__law_off d most) (fun (_ : Unit) => []) (QD (rd : Int → Pd)) := by
  unfold tb__law_off
  exact (ss_if (Γj := (fun (s154 : (List Int)) => [dv (ow s154), dv (rd most), any])) (IT.cast (gt_and (gt_val (IE.ge (two_gg (k_eq (by decide)) (IE.ge (two_gg k_ixL (GE.wk (ge_var ow (d) (by rfl)) (fun b od => ow_rd b od)) (IE.ge (gv_int _)))) (IE.ge (gv_int _))))) (gt_val (IE.ge (two_gg k_gt (IE.ge (one_g k_lenL (GE.wk (ge_var ow (d) (by rfl)) (fun b od => ow_rd b od)))) (IE.ge (gv_int _)))))) (by first | (simp only [Res.bind_ok, Res.bind_assoc, Res.bind_pure, of_sub, id_eq]; done) | rfl)) (fun d148 => (ss_last (ss_stI (xs := fun (b156 : ((Int × (List Int)) × Int)) => b156.1.2) (v := fun (b156 : ((Int × (List Int)) × Int)) => b156.1.1) ⟨d, by rfl⟩ (fun _ => by rfl) (IE.cast (IE.wk (tk_val (ie_pop (v := fun (x : Int) => x) rfl (gv_int _) (fun _ => by rfl))) (fun b od => rd_fr _ od)) (by first | (simp only [Res.bind_ok, Res.bind_assoc, Res.bind_pure, of_sub, id_eq]; done) | rfl)) (fun b156 => (GE.cast (IE.ge (gv_int _)) (by first | (simp only [Res.bind_ok, Res.bind_assoc, Res.bind_pure, of_sub, id_eq]; done) | rfl))) fun b156 d_157 => (ss_pass d_157 (by exact (.same (.same (.any .nil)))))))) (fun d148 => (ss_pass d (by exact (.same (.same (.any .nil)))))) fun s154 => (ss_ifr (IT.cast (gt_val (IE.ge (two_gg k_gt (IE.ge (two_gg k_ixL (GE.wk (ge_var ow (s154) (by rfl)) (fun b od => ow_rd b od)) (IE.ge (gv_int _)))) (IE.ge (gv_int _))))) (by first | (simp only [Res.bind_ok, Res.bind_assoc, Res.bind_pure, of_sub, id_eq]; done) | rfl)) (fun d160 => (ss_assoc (ss_set 2 (fun _ => Nat.le_of_ble_eq_true rfl) (IE.cast (IE.wk (IE.wk (tk_val (two_gg (k_int pMod) (IE.ge (two_gg k_ixL (GE.wk (ge_var ow (s154) (by rfl)) (fun b od => ow_rd b od)) (IE.ge (gv_int _)))) (ge_var rd (most) (by rfl)))) (fun b od => rd_fr b od)) (fun b od => fr_rd _ od)) (by first | (simp only [Res.bind_ok, Res.bind_assoc, Res.bind_pure, of_sub, id_eq]; done) | rfl)) fun found_163 => (ss_assoc (ss_st rfl (IE.cast (IE.wk (tk_val (two_gg (k_int pDiv) (IE.ge (two_gg k_ixL (GE.wk (ge_var ow (s154) (by rfl)) (fun b od => ow_rd b od)) (IE.ge (gv_int _)))) (ge_var rd (most) (by rfl)))) (fun b od => rd_fr b od)) (by first | (simp only [Res.bind_ok, Res.bind_assoc, Res.bind_pure, of_sub, id_eq]; done) | rfl)) (GE.cast (IE.ge (gv_int _)) (by first | (simp only [Res.bind_ok, Res.bind_assoc, Res.bind_pure, of_sub, id_eq]; done) | rfl)) fun d_165 => (ss_retV (c := (found_163, d_165)) (P := rd (found_163)) rfl rfl (fun od S q z => ⟨q, z.get rfl⟩))))))) fun d160 => (ss_st rfl (IE.cast (IE.wk (tk_val (two_gg (k_int pMod) (IE.ge (two_gg k_addI (IE.ge (two_gg k_mulI (IE.ge (two_gg k_ixL (GE.wk (ge_var ow (s154) (by rfl)) (fun b od => ow_rd b od)) (IE.ge (gv_int _)))) (IE.ge (gv_int _)))) (IE.ge (gv_int _)))) (IE.ge (gv_int _)))) (fun b od => rd_fr b od)) (by first | (simp only [Res.bind_ok, Res.bind_assoc, Res.bind_pure, of_sub, id_eq]; done) | rfl)) (GE.cast (IE.ge (gv_int _)) (by first | (simp only [Res.bind_ok, Res.bind_assoc, Res.bind_pure, of_sub, id_eq]; done) | rfl)) fun d_170 => (ss_last (ss_ret (fun (b173 : Int) => (b173, d_170)) (IE.cast (two_gg (k_int pMod) (IE.ge (two_gg (k_int pDiv) (IE.ge (two_gg k_ixL (GE.wk (ge_var ow (d_170) (by rfl)) (fun b od => ow_rd b od)) (IE.ge (gv_int _)))) (IE.ge (gv_int _)))) (ge_var rd (most) (by rfl))) (by first | (simp only [Res.bind_ok, Res.bind_assoc, Res.bind_pure, of_sub, id_eq]; done) | rfl)) (fun a od S q z => ⟨q, z.get rfl⟩))))))
theorem c__law_off : TFD m__law_off (fun d (a : Int × Unit) => t__law_off d a.1) (fun a => [rd a.1]) (rd : Int → Pd) := tfd_ret (t := fun d (a : Int × Unit) => tb__law_off d a.1) fun d a => s__law_off_t d a.1
theorem s__law_mixed_t_t (d : List Int) (row : (List (Int × Int))) : SS [dv (ow d), dv (rd row), jk, jk] b__law_mixed (tb__law_mixed_t d row) (fun (_ : Unit) => []) (QD (ow : (List (Int × Int)) → Pd)) := by
  unfold tb__law_mixed_t
  exact (ss_set 2 (fun _ => Nat.le_of_ble_eq_true rfl) (IE.cast (tk_val (one_g k_list (ge_var rd (row) (by rfl)))) (by first | (simp only [Res.bind_ok, Res.bind_assoc, Res.bind_pure, of_sub, id_eq]; done) | rfl)) fun left_176 => (ss_set 3 (fun _ => Nat.le_of_ble_eq_true rfl) (IE.cast (tk_val (gv_nil (Int × Int))) (by first | (simp only [Res.bind_ok, Res.bind_assoc, Res.bind_pure, of_sub, id_eq]; done) | rfl)) fun found_177 => (ss_while (rt := (fun (s178 : (List Int) × (List (Int × Int)) × (List (Int × Int))) => (Res.ok ((!decide (s178.2.1 = ([] : (List (Int × Int)))))) : Res Bool))) (fun (s178 : (List Int) × (List (Int × Int)) × (List (Int × Int))) => ((((t__law_off s178.1 ((s178.2.1.length : Nat) : Int))).bind fun r179 => ((popI s178.2.1 r179.1)).bind fun r180 => ((appL s178.2.2 (r180, r179).1.1)).bind fun r182 => Res.ok ((r182, (r180, r179))) : Res ((List (Int × Int)) × (((Int × Int) × (List (Int × Int))) × (Int × (List Int))))).bind fun b184 => Res.ok (Ex.nx (b184.2.2.2, b184.2.1.2, b184.1)) : Res (Ex ((List Int) × (List (Int × Int)) × (List (Int × Int))) ((List (Int × Int)) × List Int)))) (fun (s178 : (List Int) × (List (Int × Int)) × (List (Int × Int))) => [dv (ow s178.1), dv (rd row), dv (ow s178.2.1), dv (ow s178.2.2)]) (d, left_176, found_177) (by exact (.same (.same (.same (.same .nil))))) (fun s178 => (IT.cast (gt_val (IE.ge (two_gg (k_ne (by decide)) (GE.wk (ge_var ow (s178.2.1) (by rfl)) (fun b od => ow_rd b od)) (IE.ge (IE.wk (gv_nil (Int × Int)) (fun b od => ow_rd b od)))))) (by first | (simp only [Res.bind_ok, Res.bind_assoc, Res.bind_pure, of_sub, id_eq]; done) | rfl))) (fun s178 => (ss_last (ss_expr (IE.cast (ie_append (v := fun (q183 : (((Int × Int) × (List (Int × Int))) × (Int × (List Int)))) => q183.1.1) rfl (IE.wk (tk_val (ie_pop (v := fun (q181 : (Int × (List Int))) => q181.1) rfl (ie_callD c__law_off rfl (ga_fr (fz_val (one_g k_lenL (GE.wk (ge_var ow (s178.2.1) (by rfl)) (fun b od => ow_rd b od)))) ga_nil)) (fun _ => by rfl))) (fun b od => rd_fr _ od)) (fun _ => by rfl)) (by first | (simp only [Res.bind_ok, Res.bind_assoc, Res.bind_pure, of_sub, id_eq]; done) | rfl)) fun b184 => (ss_pass (b184.2.2.2, b184.2.1.2, b184.1) (by exact (.same (.same (.same (.same .nil))))))))) fun s185 => (ss_last (ss_retV (c := (s185.2.2, s185.1)) (P := ow (s185.2.2)) rfl rfl (fun od S q z => ⟨q, z.get rfl⟩))))))
theorem c__law_mixed_t : TFD m__law_mixed (fun d (a : (List (Int × Int)) × Unit) => t__law_mixed_t d a.1) (fun a => [rd a.1]) (ow : (List (Int × Int)) → Pd) := tfd_ret (t := fun d (a : (List (Int × Int)) × Unit) => tb__law_mixed_t d a.1) fun d a => s__law_mixed_t_t d a.1
theorem s__law_mixed_i_t (d : List Int) (row : (List Int)) : SS [dv (ow d), dv (rd row), jk, jk] b__law_mixed (tb__law_mixed_i d row) (fun (_ : Unit) => []) (QD (ow : (List Int) → Pd)) := by
  unfold tb__law_mixed_i
  exact (ss_set 2 (fun _ => Nat.le_of_ble_eq_true rfl) (IE.cast (tk_val (one_g k_list (ge_var rd (row) (by rfl)))) (by first | (simp only [Res.bind_ok, Res.bind_assoc, Res.bind_pure, of_sub, id_eq]; done) | rfl)) fun left_186 => (ss_set 3 (fun _ => Nat.le_of_ble_eq_true rfl) (IE.cast (tk_val (gv_nil Int)) (by first | (simp only [Res.bind_ok, Res.bind_assoc, Res.bind_pure, of_sub, id_eq]; done) | rfl)) fun found_187 => (ss_while (rt := (fun (s188 : (List Int) × (List Int) × (List Int)) => (Res.ok ((!decide (s188.2.1 = ([] : (List Int))))) : Res Bool))) (fun (s188 : (List Int) × (List Int) × (List Int)) => ((((t__law_off s188.1 ((s188.2.1.length : Nat) : Int))).bind fun r189 => ((popI s188.2.1 r189.1)).bind fun r190 => ((appL s188.2.2 (r190, r189).1.1)).bind fun r192 => Res.ok ((r192, (r190, r189))) : Res ((List Int) × ((Int × (List Int)) × (Int × (List Int))))).bind fun b194 => Res.ok (Ex.nx (b194.2.2.2, b194.2.1.2, b194.1)) : Res (Ex ((List Int) × (List Int) × (List Int)) ((List Int) × List Int)))) (fun (s188 : (List Int) × (List Int) × (List Int)) => [dv (ow s188.1), dv (rd row), dv (ow s188.2.1), dv (ow s188.2.2)]) (d, left_186, found_187) (by exact (.same (.same (.same (.same .nil))))) (fun s188 => (IT.cast (gt_val (IE.ge (two_gg (k_ne (by decide)) (GE.wk (ge_var ow (s188.2.1) (by rfl)) (fun b od => ow_rd b od)) (IE.ge (IE.wk (gv_nil Int) (fun b od => ow_rd b od)))))) (by first | (simp only [Res.bind_ok, Res.bind_assoc, Res.bind_pure, of_sub, id_eq]; done) | rfl))) (fun s188 => (ss_last (ss_expr (IE.cast (ie_append (v := fun (q193 : ((Int × (List Int)) × (Int × (List Int)))) => q193.1.1) rfl (IE.wk (tk_val (ie_pop (v := fun (q191 : (Int × (List Int))) => q191.1) rfl (ie_callD c__law_off rfl (ga_fr (fz_val (one_g k_lenL (GE.wk (ge_var ow (s188.2.1) (by rfl)) (fun b od => ow_rd b od)))) ga_nil)) (fun _ => by rfl))) (fun b od => rd_fr _ od)) (fun _ => by rfl)) (by first | (simp only [Res.bind_ok, Res.bind_assoc, Res.bind_pure, of_sub, id_eq]; done) | rfl)) fun b194 => (ss_pass (b194.2.2.2, b194.2.1.2, b194.1) (by exact (.same (.same (.same (.same .nil))))))))) fun s195 => (ss_last (ss_retV (c := (s195.2.2, s195.1)) (P := ow (s195.2.2)) rfl rfl (fun od S q z => ⟨q, z.get rfl⟩))))))
theorem c__law_mixed_i : TFD m__law_mixed (fun d (a : (List Int) × Unit) => t__law_mixed_i d a.1) (fun a => [rd a.1]) (ow : (List Int) → Pd) := tfd_ret (t := fun d (a : (List Int) × Unit) => tb__law_mixed_i d a.1) fun d a => s__law_mixed_i_t d a.1
theorem s__law_net_t (d : List Int) (most : Int) : SS [dv (ow d), dv (rd most), jk, jk, jk, jk, jk, jk, jk, jk, jk] b__law_net (tb__law_net d most) (fun (_ : Unit) => []) (QD (rd : (Int × (Tp (Int × Int))) → Pd)) := by
  unfold tb__law_net
  exact (ss_set 2 (fun _ => Nat.le_of_ble_eq_true rfl) (IE.cast (IE.wk (IE.wk (tk_val (two_ii (v := fun (q197 : Int) => q197) (v' := fun (q198 : (Int × (List Int))) => q198.1) k_addI (gv_int _) (fun _ => (ie_callD c__law_off rfl (ga_fr (fz_val (two_gg (k_int pSub) (ge_var rd (most) (by rfl)) (IE.ge (gv_int _)))) ga_nil))))) (fun b od => rd_fr _ od)) (fun b od => fr_rd _ od)) (by first | (simp only [Res.bind_ok, Res.bind_assoc, Res.bind_pure, of_sub, id_eq]; done) | rfl)) fun many_199 => (ss_set 3 (fun _ => Nat.le_of_ble_eq_true rfl) (IE.cast (IE.wk (IE.wk (tk_val (ie_callD c__law_off rfl (ga_fr (fz_val (gv_int _)) ga_nil))) (fun b od => rd_fr _ od)) (fun b od => fr_rd _ od)) (by first | (simp only [Res.bind_ok, Res.bind_assoc, Res.bind_pure, of_sub, id_eq]; done) | rfl)) fun kind_200 => (ss_set 4 (fun _ => Nat.le_of_ble_eq_true rfl) (IE.cast (tk_val (gv_comp (ti_rng1 (ge_var rd (many_199.1) (by rfl))) (tg_name 5) ⟨Nat.le_of_ble_eq_true rfl, trivial⟩ (frc_cons rfl fro_jk frc_nil) (fun x201 => gt_yes) (fun x201 => (IE.wk (tk_val (gv_tup2 (fz_var (x201) (by rfl)) (fz_val (two_gg (k_int pMod) (IE.ge (two_gg k_addI (ge_var rd (x201) (by rfl)) (IE.ge (gv_int _)))) (ge_var rd (many_199.1) (by rfl)))))) (fun b od => rd_fr b od))))) (by first | (simp only [Res.bind_ok, Res.bind_assoc, Res.bind_pure, of_sub, id_eq]; done) | rfl)) fun ties_204 => (ss_if (Γj := (fun (s209 : (List (Int × Int))) => [dv (ow kind_200.2), dv (rd most), dv (rd many_199.1), dv (rd kind_200.1), dv (ow s209), jk, any, jk, jk, jk, jk])) (IT.cast (gt_val (IE.ge (two_gg (k_eq (by decide)) (ge_var rd (kind_200.1) (by rfl)) (IE.ge (gv_int _))))) (by first | (simp only [Res.bind_ok, Res.bind_assoc, Res.bind_pure, of_sub, id_eq]; done) | rfl)) (fun d205 => (ss_own 4 (ties_204) rfl (ss_last (ss_set 4 (fun _ => Nat.le_of_ble_eq_true rfl) (IE.cast (tk_val (two_gg k_addL (ge_var rd (ties_204) (by rfl)) (IE.ge (IE.wk (gv_comp (ti_fz (fz_var (ties_204) (by rfl))) (tg_pair (tg_name 7) (tg_name 9)) ⟨Nat.le_of_ble_eq_true rfl, ⟨Nat.le_of_ble_eq_true rfl, trivial⟩⟩ (frc_cons rfl fro_jk (frc_cons rfl fro_jk frc_nil)) (fun x210 => gt_yes) (fun x210 => (IE.wk (tk_val (gv_tup2 (fz_var (x210.2) (by rfl)) (fz_var (x210.1) (by rfl)))) (fun b od => rd_fr b od)))) (fun b od => ow_rd b od))))) (by first | (simp only [Res.bind_ok, Res.bind_assoc, Res.bind_pure, of_sub, id_eq]; done) | rfl)) fun ties_212 => (ss_pass ties_212 (by exact (.same (.same (.same (.same (.same (.same (.any (.same (.same (.same (.same .nil))))))))))))))))) (fun d205 => (ss_pass ties_204 (by exact (.same (.same (.same (.same (.same (.same (.any (.same (.same (.same (.same .nil)))))))))))))) fun s209 => (ss_if (Γj := (fun (s221 : (List (Int × Int))) => [dv (ow kind_200.2), dv (rd most), dv (rd many_199.1), dv (rd kind_200.1), dv (ow s221), jk, any, jk, jk, jk, jk])) (IT.cast (gt_val (IE.ge (two_gg (k_eq (by decide)) (ge_var rd (kind_200.1) (by rfl)) (IE.ge (gv_int _))))) (by first | (simp only [Res.bind_ok, Res.bind_assoc, Res.bind_pure, of_sub, id_eq]; done) | rfl)) (fun d213 => (ss_last (ss_set 4 (fun _ => Nat.le_of_ble_eq_true rfl) (IE.cast (tk_val (two_gg k_addL (IE.ge (IE.wk (gv_comp (ti_rng1 (IE.ge (two_gg (k_int pSub) (ge_var rd (many_199.1) (by rfl)) (IE.ge (gv_int _))))) (tg_name 5) ⟨Nat.le_of_ble_eq_true rfl, trivial⟩ (frc_cons rfl fro_jk frc_nil) (fun x222 => gt_yes) (fun x222 => (IE.wk (tk_val (gv_tup2 (fz_var (x222) (by rfl)) (fz_val (two_gg k_addI (ge_var rd (x222) (by rfl)) (IE.ge (gv_int _)))))) (fun b od => rd_fr b od)))) (fun b od => ow_rd b od))) (IE.ge (IE.wk (gv_comp (ti_rng1 (IE.ge (two_gg (k_int pSub) (ge_var rd (many_199.1) (by rfl)) (IE.ge (gv_int _))))) (tg_name 5) ⟨Nat.le_of_ble_eq_true rfl, trivial⟩ (frc_cons rfl fro_jk frc_nil) (fun x224 => gt_yes) (fun x224 => (IE.wk (tk_val (gv_tup2 (fz_val (two_gg k_addI (ge_var rd (x224) (by rfl)) (IE.ge (gv_int _)))) (fz_var (x224) (by rfl)))) (fun b od => rd_fr b od)))) (fun b od => ow_rd b od))))) (by first | (simp only [Res.bind_ok, Res.bind_assoc, Res.bind_pure, of_sub, id_eq]; done) | rfl)) fun ties_228 => (ss_pass ties_228 (by exact (.same (.same (.same (.same (.same (.same (.any (.same (.same (.same (.same .nil)))))))))))))))) (fun d213 => (ss_pass s209 (by exact (.same (.same (.same (.same (.same (.same (.any (.same (.same (.same (.same .nil)))))))))))))) fun s221 => (ss_if (Γj := (fun (s241 : (List (Int × Int))) => [dv (ow kind_200.2), dv (rd most), dv (rd many_199.1), dv (rd kind_200.1), dv (ow s241), jk, any, jk, jk, jk, jk])) (IT.cast (gt_val (IE.ge (two_gg (k_eq (by decide)) (ge_var rd (kind_200.1) (by rfl)) (IE.ge (gv_int _))))) (by first | (simp only [Res.bind_ok, Res.bind_assoc, Res.bind_pure, of_sub, id_eq]; done) | rfl)) (fun d229 => (ss_set 4 (fun _ => Nat.le_of_ble_eq_true rfl) (IE.cast (tk_val (gv_nil (Int × Int))) (by first | (simp only [Res.bind_ok, Res.bind_assoc, Res.bind_pure, of_sub, id_eq]; done) | rfl)) fun ties_242 => (ss_last (ss_for (fun (k_243 : Int) (s244 : (List (Int × Int))) => ((((compG [((k_243 + (1 : Int)), (k_243 + (2 : Int))).1, ((k_243 + (1 : Int)), (k_243 + (2 : Int))).2] (fun (x245 : Int) => Res.ok ((decide (x245 < many_199.1)))) (fun (x245 : Int) => Res.ok ((k_243, x245))))).bind fun r247 => ((compG [((k_243 + (1 : Int)), (k_243 + (2 : Int))).1, ((k_243 + (1 : Int)), (k_243 + (2 : Int))).2] (fun (x246 : Int) => Res.ok ((decide (x246 < many_199.1)))) (fun (x246 : Int) => Res.ok ((x246, k_243))))).bind fun r248 => ((addL r247 r248)).bind fun r249 => (addL s244 r249) : Res (List (Int × Int))).bind fun b250 => Res.ok (Ex.nx b250) : Res (Ex ((List (Int × Int))) ((Int × (Tp (Int × Int))) × List Int)))) (fun (s244 : (List (Int × Int))) => [dv (ow kind_200.2), dv (rd most), dv (rd many_199.1), dv (rd kind_200.1), dv (ow s244), jk, any, jk, jk, jk, jk]) ties_242 (TI.cast (ti_rng1 (ge_var rd (many_199.1) (by rfl))) (by first | (simp only [Res.bind_ok, Res.bind_assoc, Res.bind_pure, of_sub, id_eq]; done) | rfl)) (tg_name 5) (fun _ => ⟨Nat.le_of_ble_eq_true rfl, trivial⟩) (by exact (.same (.same (.same (.same (.same (.same (.any (.same (.same (.same (.same .nil)))))))))))) (fun k_243 s244 => (ss_last (ss_expr (IE.cast (ie_extend rfl (IE.ge (IE.wk (two_gg k_addL (IE.ge (IE.wk (gv_comp (ti_pair (fz_val (gv_tup2 (fz_val (two_gg k_addI (ge_var rd (k_243) (by rfl)) (IE.ge (gv_int _)))) (fz_val (two_gg k_addI (ge_var rd (k_243) (by rfl)) (IE.ge (gv_int _))))))) (tg_name 10) ⟨Nat.le_of_ble_eq_true rfl, trivial⟩ (frc_cons rfl fro_jk frc_nil) (fun x245 => (gt_val (IE.ge (two_gg k_lt (ge_var rd (x245) (by rfl)) (ge_var rd (many_199.1) (by rfl)))))) (fun x245 => (IE.wk (tk_val (gv_tup2 (fz_var (k_243) (by rfl)) (fz_var (x245) (by rfl)))) (fun b od => rd_fr b od)))) (fun b od => ow_rd b od))) (IE.ge (IE.wk (gv_comp (ti_pair (fz_val (gv_tup2 (fz_val (two_gg k_addI (ge_var rd (k_243) (by rfl)) (IE.ge (gv_int _)))) (fz_val (two_gg k_addI (ge_var rd (k_243) (by rfl)) (IE.ge (gv_int _))))))) (tg_name 10) ⟨Nat.le_of_ble_eq_true rfl, trivial⟩ (frc_cons rfl fro_jk frc_nil) (fun x246 => (gt_val (IE.ge (two_gg k_lt (ge_var rd (x246) (by rfl)) (ge_var rd (many_199.1) (by rfl)))))) (fun x246 => (IE.wk (tk_val (gv_tup2 (fz_var (x246) (by rfl)) (fz_var (k_243) (by rfl)))) (fun b od => rd_fr b od)))) (fun b od => ow_rd b od)))) (fun b od => ow_rd b od)))) (by first | (simp only [Res.bind_ok, Res.bind_assoc, Res.bind_pure, of_sub, id_eq]; done) | rfl)) fun b250 => (ss_pass b250 (by exact (.same (.same (.same (.same (.same (.wk fro_rd (.any (.same (.same (.same (.same .nil)))))))))))))))) fun s251 => (ss_pass s251 (by exact (.same (.same (.same (.same (.same (.same (.any (.same (.same (.same (.same .nil))))))))))))))))) (fun d229 => (ss_pass s221 (by exact (.same (.same (.same (.same (.same (.same (.any (.same (.same (.same (.same .nil)))))))))))))) fun s241 => (ss_if (Γj := (fun (s295 : (List Int) × (List (Int × Int))) => [dv (ow s295.1), dv (rd most), dv (rd many_199.1), dv (rd kind_200.1), dv (ow s295.2), jk, any, jk, jk, jk, jk])) (IT.cast (gt_val (IE.ge (two_gg (k_eq (by decide)) (ge_var rd (kind_200.1) (by rfl)) (IE.ge (gv_int _))))) (by first | (simp only [Res.bind_ok, Res.bind_assoc, Res.bind_pure, of_sub, id_eq]; done) | rfl)) (fun d253 => (ss_set 4 (fun _ => Nat.le_of_ble_eq_true rfl) (IE.cast (tk_val (gi_comp (Γl := (fun s304 => [dv (ow s304), dv (rd most), dv (rd many_199.1), dv (rd kind_200.1), dv (ow s241), jk, any, jk, jk, jk, jk])) (kind_200.2) (ct := fun (d305 : Bool) => id d305) (nx := fun (x296 : Int) (s304 : (List Int)) (d305 : Bool) (e306 : ((Int × Int) × (Int × (Int × (Int × (Int × (List Int))))))) => e306.2.2.2.2.2) (sk := fun (x296 : Int) (s304 : (List Int)) (d305 : Bool) => s304) (v := (fun (e306 : ((Int × Int) × (Int × (Int × (Int × (Int × (List Int))))))) => e306.1)) (ti_rng1 (ge_var rd (many_199.1) (by rfl))) (tg_name 5) (by exact .same (.same (.same (.same (.same (.same (.same (.same (.same (.same (.same (.nil)))))))))))) (fun _ => ⟨Nat.le_of_ble_eq_true rfl, trivial⟩) (frc_cons rfl fro_jk frc_nil) (fun _ => rfl) (fun _ => ⟨rfl, trivial⟩) (fun x296 s304 => gt_yes) (fun x296 s304 d305 => (IE.wk (tk_val (ie_tup2 (v := fun (q313 : (Int × (Int × (Int × (Int × (List Int)))))) => q313.1) (fz_var (x296) (by rfl)) (fz_val (v := fun (q312 : (Int × (Int × (Int × (Int × (List Int)))))) => q312.1) (two_ig (v := fun (q311 : (Int × (Int × (Int × (List Int))))) => q311.1) (k_int pMod) (two_ii (v := fun (q308 : Int) => q308) (v' := fun (q309 : (Int × (List Int))) => q309.1) k_addI (two_gg k_addI (ge_var rd (x296) (by rfl)) (IE.ge (gv_int _))) (fun _ => (ie_callD c__law_off rfl (ga_fr (fz_val (two_gg (k_int pSub) (ge_var rd (many_199.1) (by rfl)) (IE.ge (gv_int _)))) ga_nil)))) (fun _ => (ge_var rd (many_199.1) (by rfl))))))) (fun b od => rd_fr _ od))) (fun x296 s304 d305 e306 => (by exact .same (.same (.same (.same (.same (.same (.same (.same (.same (.same (.same (.nil))))))))))))) (fun x296 s304 d305 => (by exact .same (.same (.same (.same (.same (.same (.same (.same (.same (.same (.same (.nil))))))))))))))) (by first | (simp only [Res.bind_ok, Res.bind_assoc, Res.bind_pure, of_sub, id_eq]; done) | rfl)) fun ties_315 => (ss_last (ss_forI (fun (turn_321 : Int) (s322 : (List Int) × (List (Int × Int))) => (((t__law_off s322.1 many_199.1) : Res (Int × (List Int))).bind fun begin'_323 => (((t__law_off begin'_323.2 (many_199.1 - (1 : Int)))).bind fun r324 => ((Res.of (pMod (((begin'_323.1 + (1 : Int)) + r324.1), ((begin'_323.1 + (1 : Int)), r324)).1 many_199.1))).bind fun r327 => ((appL s322.2 ((begin'_323.1, (r327, (((begin'_323.1 + (1 : Int)) + r324.1), ((begin'_323.1 + (1 : Int)), r324))).1), (r327, (((begin'_323.1 + (1 : Int)) + r324.1), ((begin'_323.1 + (1 : Int)), r324)))).1)).bind fun r331 => Res.ok ((r331, ((begin'_323.1, (r327, (((begin'_323.1 + (1 : Int)) + r324.1), ((begin'_323.1 + (1 : Int)), r324))).1), (r327, (((begin'_323.1 + (1 : Int)) + r324.1), ((begin'_323.1 + (1 : Int)), r324)))))) : Res ((List (Int × Int)) × ((Int × Int) × (Int × (Int × (Int × (Int × (List Int)))))))).bind fun b333 => Res.ok (Ex.nx (b333.2.2.2.2.2.2, b333.1)) : Res (Ex ((List Int) × (List (Int × Int))) ((Int × (Tp (Int × Int))) × List Int)))) (fun (s322 : (List Int) × (List (Int × Int))) => [dv (ow s322.1), dv (rd most), dv (rd many_199.1), dv (rd kind_200.1), dv (ow s322.2), jk, any, jk, jk, jk, jk]) (fun (q336 : (Int × (List Int))) => (q336.2, ties_315.1)) (TII.cast (tii_rng1 (v := fun (q320 : (Int × (List Int))) => q320.1) (ie_callD c__law_off rfl (ga_fr (fz_val (two_gg k_mulI (IE.ge (gv_int _)) (ge_var rd (many_199.1) (by rfl)))) ga_nil))) (by first | (simp only [Res.bind_ok, Res.bind_assoc, Res.bind_pure, of_sub, id_eq]; done) | rfl)) (tg_name 6) (fun _ => ⟨Nat.le_of_ble_eq_true rfl, trivial⟩) (fun q336 => (by exact (.same (.same (.same (.same (.same (.same (.any (.same (.same (.same (.same .nil))))))))))))) (fun turn_321 s322 => (ss_set 7 (fun _ => Nat.le_of_ble_eq_true rfl) (IE.cast (IE.wk (IE.wk (tk_val (ie_callD c__law_off rfl (ga_fr (lk_rd (many_199.1) (by rfl)) ga_nil))) (fun b od => rd_fr _ od)) (fun b od => fr_rd _ od)) (by first | (simp only [Res.bind_ok, Res.bind_assoc, Res.bind_pure, of_sub, id_eq]; done) | rfl)) fun begin'_323 => (ss_last (ss_expr (IE.cast (ie_append (v := fun (q332 : ((Int × Int) × (Int × (Int × (Int × (Int × (List Int))))))) => q332.1) rfl (IE.wk (tk_val (ie_tup2 (v := fun (q330 : (Int × (Int × (Int × (Int × (List Int)))))) => q330.1) (fz_var (begin'_323.1) (by rfl)) (fz_val (v := fun (q329 : (Int × (Int × (Int × (Int × (List Int)))))) => q329.1) (two_ig (v := fun (q328 : (Int × (Int × (Int × (List Int))))) => q328.1) (k_int pMod) (two_ii (v := fun (q325 : Int) => q325) (v' := fun (q326 : (Int × (List Int))) => q326.1) k_addI (two_gg k_addI (ge_var rd (begin'_323.1) (by rfl)) (IE.ge (gv_int _))) (fun _ => (ie_callD c__law_off rfl (ga_fr (fz_val (two_gg (k_int pSub) (ge_var rd (many_199.1) (by rfl)) (IE.ge (gv_int _)))) ga_nil)))) (fun _ => (ge_var rd (many_199.1) (by rfl))))))) (fun b od => rd_fr _ od)) (fun _ => by rfl)) (by first | (simp only [Res.bind_ok, Res.bind_assoc, Res.bind_pure, of_sub, id_eq]; done) | rfl)) fun b333 => (ss_pass (b333.2.2.2.2.2.2, b333.1) (by exact (.same (.same (.same (.same (.same (.same (.any (.wk fro_rd (.same (.same (.same .nil))))))))))))))))) fun s334 => (ss_pass (s334.1, s334.2) (by exact (.same (.same (.same (.same (.same (.same (.any (.same (.same (.same (.same .nil))))))))))))))))) (fun d253 => (ss_pass (kind_200.2, s241) (by exact (.same (.same (.same (.same (.same (.same (.any (.same (.same (.same (.same .nil)))))))))))))) fun s295 => (ss_own 4 (s295.2) rfl (ss_set 4 (fun _ => Nat.le_of_ble_eq_true rfl) (IE.cast (tk_val (gv_comp (ti_enum (fz_var (s295.2) (by rfl))) (tg_pair (tg_name 5) (tg_name 8)) ⟨Nat.le_of_ble_eq_true rfl, ⟨Nat.le_of_ble_eq_true rfl, trivial⟩⟩ (frc_cons rfl fro_jk (frc_cons rfl fro_jk frc_nil)) (fun x337 => (gt_val (IE.ge (two_gg (k_ninL (by decide)) (ge_var rd (x337.2) (by rfl)) (IE.ge (IE.wk (gv_slice (ge_var rd (s295.2) (by rfl)) go_no (go_so (ge_var rd (x337.1) (by rfl)))) (fun b od => ow_rd b od))))))) (fun x337 => (tk_var (x337.2) (by rfl))))) (by first | (simp only [Res.bind_ok, Res.bind_assoc, Res.bind_pure, of_sub, id_eq]; done) | rfl)) fun ties_338 => (ss_own 4 (ties_338) rfl (ss_last (ss_ret (fun (b345 : ((Int × (Tp (Int × Int))) × ((Tp (Int × Int)) × ((List (Int × Int)) × ((List (Int × Int)) × (List Int)))))) => (b345.1, b345.2.2.2.2)) (IE.cast (ie_tup2 (v := fun (q344 : ((Tp (Int × Int)) × ((List (Int × Int)) × ((List (Int × Int)) × (List Int))))) => q344.1) (fz_var (many_199.1) (by rfl)) (fz_val (v := fun (q343 : ((Tp (Int × Int)) × ((List (Int × Int)) × ((List (Int × Int)) × (List Int))))) => q343.1) (one_i (v := fun (q342 : ((List (Int × Int)) × ((List (Int × Int)) × (List Int)))) => q342.1) k_tup (IE.wk (ie_slice (v := fun (q341 : ((List (Int × Int)) × (List Int))) => q341.1) (IE.wk (ie_callD c__law_mixed_t rfl (ga_fr (lk_rd (ties_338) (by rfl)) ga_nil)) (fun b od => ow_rd _ od)) (fun _ => go_no) (fun _ => (go_so (IE.ge (gv_int _))))) (fun b od => ow_rd _ od))))) (by first | (simp only [Res.bind_ok, Res.bind_assoc, Res.bind_pure, of_sub, id_eq]; done) | rfl)) (fun a od S q z => ⟨q, z.get rfl⟩)))))))))))))
theorem c__law_net : TFD m__law_net (fun d (a : Int × Unit) => t__law_net d a.1) (fun a => [rd a.1]) (rd : (Int × (Tp (Int × Int))) → Pd) := tfd_ret (t := fun d (a : Int × Unit) => tb__law_net d a.1) fun d a => s__law_net_t d a.1
theorem s_alike_int_t {ms : List OD → Res OD} (found : Int) (due_here : Int) : SS [dv (rd found), dv (rd due_here), jk] (b__law_alike ms) (tb_alike_int found due_here) (fun (_ : Unit) => []) (QP (rd : Bool → Pd)) := by
  unfold tb_alike_int
  exact (ss_ifr (IT.cast (gt_val (IE.ge (gv_isNn (ge_var rd (due_here) (by rfl))))) (by first | (simp only [Res.bind_ok, Res.bind_assoc, Res.bind_pure, of_sub, id_eq]; done) | rfl)) (fun d346 => (ss_any _)) fun d346 => (ss_ifr (IT.cast (gt_val (IE.ge (gv_isa (ge_var rd (due_here) (by rfl))))) (by first | (simp only [Res.bind_ok, Res.bind_assoc, Res.bind_pure, of_sub, id_eq]; done) | rfl)) (fun d347 => (ss_any _)) fun d347 => (ss_ifr (IT.cast (gt_val (IE.ge (gv_isa (ge_var rd (due_here) (by rfl))))) (by first | (simp only [Res.bind_ok, Res.bind_assoc, Res.bind_pure, of_sub, id_eq]; done) | rfl)) (fun d348 => (ss_ret (fun b349 => b349) (IE.cast (gv_andO (gt_val (IE.ge (gv_isa (ge_var rd (found) (by rfl))))) (gv_andO (gt_val (IE.ge (gv_not (gt_val (IE.ge (gv_isa (ge_var rd (found) (by rfl)))))))) (two_gg (k_eq (by decide)) (ge_var rd (found) (by rfl)) (ge_var rd (due_here) (by rfl))))) (by first | (simp only [Res.bind_ok, Res.bind_assoc, Res.bind_pure, of_sub, id_eq]; done) | rfl)) (fun a od S q _ => q))) fun d348 => (ss_any _))))
theorem s_alike_row_t {ms : List OD → Res OD} (cs : TF ms (fun (a : Int × Int × Unit) => t_alike_int a.1 a.2.1) (fun a => [rd a.1, rd a.2.1]) (rd : Bool → Pd)) (found : (Tp Int)) (due_here : (Tp Int)) : SS [dv (rd found), dv (rd due_here), jk] (b__law_alike ms) (tb_alike_row found due_here) (fun (_ : Unit) => []) (QP (rd : Bool → Pd)) := by
  unfold tb_alike_row
  exact (ss_ifr (IT.cast (gt_val (IE.ge (gv_isNn (ge_var rd (due_here) (by rfl))))) (by first | (simp only [Res.bind_ok, Res.bind_assoc, Res.bind_pure, of_sub, id_eq]; done) | rfl)) (fun d350 => (ss_any _)) fun d350 => (ss_ifr (IT.cast (gt_val (IE.ge (gv_isa (ge_var rd (due_here) (by rfl))))) (by first | (simp only [Res.bind_ok, Res.bind_assoc, Res.bind_pure, of_sub, id_eq]; done) | rfl)) (fun d351 => (ss_any _)) fun d351 => (ss_ifr (IT.cast (gt_val (IE.ge (gv_isa (ge_var rd (due_here) (by rfl))))) (by first | (simp only [Res.bind_ok, Res.bind_assoc, Res.bind_pure, of_sub, id_eq]; done) | rfl)) (fun d352 => (ss_any _)) fun d352 => (ss_ifr (IT.cast (gt_val (IE.ge (gv_isa (ge_var rd (due_here) (by rfl))))) (by first | (simp only [Res.bind_ok, Res.bind_assoc, Res.bind_pure, of_sub, id_eq]; done) | rfl)) (fun d353 => (ss_any _)) fun d353 => (ss_ifr (IT.cast (gt_orO (gt_val (IE.ge (two_gg (k_ne (by decide)) (IE.ge (gv_isa (ge_var rd (due_here) (by rfl)))) (IE.ge (gv_isa (ge_var rd (found) (by rfl))))))) (gt_val (IE.ge (two_gg (k_ne (by decide)) (IE.ge (gv_isa (ge_var rd (due_here) (by rfl)))) (IE.ge (gv_isa (ge_var rd (found) (by rfl)))))))) (by first | (simp only [Res.bind_ok, Res.bind_assoc, Res.bind_pure, of_sub, id_eq]; done) | rfl)) (fun d354 => (ss_any _)) fun d354 => (ss_ifr (IT.cast (gt_val (IE.ge (two_gg (k_ne (by decide)) (IE.ge (one_g k_lenT (ge_var rd (found) (by rfl)))) (IE.ge (one_g k_lenT (ge_var rd (due_here) (by rfl))))))) (by first | (simp only [Res.bind_ok, Res.bind_assoc, Res.bind_pure, of_sub, id_eq]; done) | rfl)) (fun d355 => (ss_ret (fun b356 => b356) (IE.cast (gv_bool _) (by first | (simp only [Res.bind_ok, Res.bind_assoc, Res.bind_pure, of_sub, id_eq]; done) | rfl)) (fun a od S q _ => q))) fun d355 => (ss_last (ss_ret (fun b362 => b362) (IE.cast (one_g k_all (IE.ge (IE.wk (gv_comp (ti_rng1 (IE.ge (one_g k_lenT (ge_var rd (due_here) (by rfl))))) (tg_name 2) ⟨Nat.le_of_ble_eq_true rfl, trivial⟩ (frc_cons rfl fro_jk frc_nil) (fun x357 => gt_yes) (fun x357 => (IE.wk (tk_val (gv_call cs (ga_fr (fz_val (two_gg k_ixT (ge_var rd (found) (by rfl)) (ge_var rd (x357) (by rfl)))) (ga_fr (fz_val (two_gg k_ixT (ge_var rd (due_here) (by rfl)) (ge_var rd (x357) (by rfl)))) ga_nil)))) (fun b od => rd_fr b od)))) (fun b od => ow_rd b od)))) (by first | (simp only [Res.bind_ok, Res.bind_assoc, Res.bind_pure, of_sub, id_eq]; done) | rfl)) (fun a od S q _ => q)))))))))
theorem s__law_alike_t {ms : List OD → Res OD} (cs : TF ms (fun (a : Tp Int × Tp Int × Unit) => t_alike_row a.1 a.2.1) (fun a => [rd a.1, rd a.2.1]) (rd : Bool → Pd)) (found : (Tp (Tp Int))) (due_here : (Tp (Tp Int))) : SS [dv (rd found), dv (rd due_here), jk] (b__law_alike ms) (tb__law_alike found due_here) (fun (_ : Unit) => []) (QP (rd : Bool → Pd)) := by
  unfold tb__law_alike
  exact (ss_ifr (IT.cast (gt_val (IE.ge (gv_isNn (ge_var rd (due_here) (by rfl))))) (by first | (simp only [Res.bind_ok, Res.bind_assoc, Res.bind_pure, of_sub, id_eq]; done) | rfl)) (fun d363 => (ss_any _)) fun d363 => (ss_ifr (IT.cast (gt_val (IE.ge (gv_isa (ge_var rd (due_here) (by rfl))))) (by first | (simp only [Res.bind_ok, Res.bind_assoc, Res.bind_pure, of_sub, id_eq]; done) | rfl)) (fun d364 => (ss_any _)) fun d364 => (ss_ifr (IT.cast (gt_val (IE.ge (gv_isa (ge_var rd (due_here) (by rfl))))) (by first | (simp only [Res.bind_ok, Res.bind_assoc, Res.bind_pure, of_sub, id_eq]; done) | rfl)) (fun d365 => (ss_any _)) fun d365 => (ss_ifr (IT.cast (gt_val (IE.ge (gv_isa (ge_var rd (due_here) (by rfl))))) (by first | (simp only [Res.bind_ok, Res.bind_assoc, Res.bind_pure, of_sub, id_eq]; done) | rfl)) (fun d366 => (ss_any _)) fun d366 => (ss_ifr (IT.cast (gt_orO (gt_val (IE.ge (two_gg (k_ne (by decide)) (IE.ge (gv_isa (ge_var rd (due_here) (by rfl)))) (IE.ge (gv_isa (ge_var rd (found) (by rfl))))))) (gt_val (IE.ge (two_gg (k_ne (by decide)) (IE.ge (gv_isa (ge_var rd (due_here) (by rfl)))) (IE.ge (gv_isa (ge_var rd (found) (by rfl)))))))) (by first | (simp only [Res.bind_ok, Res.bind_assoc, Res.bind_pure, of_sub, id_eq]; done) | rfl)) (fun d367 => (ss_any _)) fun d367 => (ss_ifr (IT.cast (gt_val (IE.ge (two_gg (k_ne (by decide)) (IE.ge (one_g k_lenT (ge_var rd (found) (by rfl)))) (IE.ge (one_g k_lenT (ge_var rd (due_here) (by rfl))))))) (by first | (simp only [Res.bind_ok, Res.bind_assoc, Res.bind_pure, of_sub, id_eq]; done) | rfl)) (fun d368 => (ss_ret (fun b369 => b369) (IE.cast (gv_bool _) (by first | (simp only [Res.bind_ok, Res.bind_assoc, Res.bind_pure, of_sub, id_eq]; done) | rfl)) (fun a od S q _ => q))) fun d368 => (ss_last (ss_ret (fun b375 => b375) (IE.cast (one_g k_all (IE.ge (IE.wk (gv_comp (ti_rng1 (IE.ge (one_g k_lenT (ge_var rd (due_here) (by rfl))))) (tg_name 2) ⟨Nat.le_of_ble_eq_true rfl, trivial⟩ (frc_cons rfl fro_jk frc_nil) (fun x370 => gt_yes) (fun x370 => (IE.wk (tk_val (gv_call cs (ga_fr (fz_val (two_gg k_ixT (ge_var rd (found) (by rfl)) (ge_var rd (x370) (by rfl)))) (ga_fr (fz_val (two_gg k_ixT (ge_var rd (due_here) (by rfl)) (ge_var rd (x370) (by rfl)))) ga_nil)))) (fun b od => rd_fr b od)))) (fun b od => ow_rd b od)))) (by first | (simp only [Res.bind_ok, Res.bind_assoc, Res.bind_pure, of_sub, id_eq]; done) | rfl)) (fun a od S q _ => q)))))))))
theorem ca_int (n : Nat) : TF (r__law_alike (n + 1)) (fun (a : Int × Int × Unit) => t_alike_int a.1 a.2.1) (fun a => [rd a.1, rd a.2.1]) (rd : Bool → Pd) := tf_ret (t := fun (a : Int × Int × Unit) => tb_alike_int a.1 a.2.1) fun a => s_alike_int_t (ms := r__law_alike n) a.1 a.2.1
theorem ca_row (n : Nat) : TF (r__law_alike (n + 2)) (fun (a : Tp Int × Tp Int × Unit) => t_alike_row a.1 a.2.1) (fun a => [rd a.1, rd a.2.1]) (rd : Bool → Pd) := tf_ret (t := fun (a : Tp Int × Tp Int × Unit) => tb_alike_row a.1 a.2.1) fun a => s_alike_row_t (ms := r__law_alike (n + 1)) (ca_int n) a.1 a.2.1
theorem c__law_alike : TF m__law_alike (fun (a : Tp (Tp Int) × Tp (Tp Int) × Unit) => t__law_alike a.1 a.2.1) (fun a => [rd a.1, rd a.2.1]) (rd : Bool → Pd) := tf_ret (t := fun (a : Tp (Tp Int) × Tp (Tp Int) × Unit) => tb__law_alike a.1 a.2.1) fun a => s__law_alike_t (ms := r__law_alike 7) (ca_row 5) a.1 a.2.1
theorem s__law_of_use_t (net_here : (Int × (Tp (Int × Int)))) (fallen : (List Int)) : SS [dv (rd net_here), dv (rd fallen), jk, jk, jk] b__law_of_use (tb__law_of_use net_here fallen) (fun (_ : Unit) => []) (QP (ow : (List Int) → Pd)) := by
  unfold tb__law_of_use
  exact (ss_set 2 (fun _ => Nat.le_of_ble_eq_true rfl) (IE.cast (tk_val (gv_comp (ti_enumT (fz_val (snd_g (ge_var rd (net_here) (by rfl))))) (tg_pair (tg_name 3) (tg_name 4)) ⟨Nat.le_of_ble_eq_true rfl, ⟨Nat.le_of_ble_eq_true rfl, trivial⟩⟩ (frc_cons rfl fro_jk (frc_cons rfl fro_jk frc_nil)) (fun x376 => (gt_val (IE.ge (two_gg (k_ninL (by decide)) (ge_var rd (x376.1) (by rfl)) (ge_var rd (fallen) (by rfl)))))) (fun x376 => (tk_var (x376.2) (by rfl))))) (by first | (simp only [Res.bind_ok, Res.bind_assoc, Res.bind_pure, of_sub, id_eq]; done) | rfl)) fun stand_377 => (ss_last (ss_ret (fun b379 => b379) (IE.cast (gv_comp (ti_enumT (fz_val (snd_g (ge_var rd (net_here) (by rfl))))) (tg_pair (tg_name 3) (tg_name 4)) ⟨Nat.le_of_ble_eq_true rfl, ⟨Nat.le_of_ble_eq_true rfl, trivial⟩⟩ (frc_cons rfl fro_jk (frc_cons rfl fro_jk frc_nil)) (fun x378 => (gt_andO (gt_val (IE.ge (two_gg (k_inL (by decide)) (ge_var rd (x378.2) (by rfl)) (GE.wk (ge_var ow (stand_377) (by rfl)) (fun b od => ow_rd b od))))) (gt_val (IE.ge (two_gg (k_inL (by decide)) (IE.ge (gv_tup2 (fz_val (snd_g (ge_var rd (x378.2) (by rfl)))) (fz_val (fst_g (ge_var rd (x378.2) (by rfl)))))) (GE.wk (ge_var ow (stand_377) (by rfl)) (fun b od => ow_rd b od))))))) (fun x378 => (tk_var (x378.1) (by rfl)))) (by first | (simp only [Res.bind_ok, Res.bind_assoc, Res.bind_pure, of_sub, id_eq]; done) | rfl)) (fun a od S q _ => q))))
theorem c__law_of_use : TF m__law_of_use (fun (a : (Int × (Tp (Int × Int))) × (List Int) × Unit) => t__law_of_use a.1 a.2.1) (fun a => [rd a.1, rd a.2.1]) (ow : (List Int) → Pd) := tf_ret (t := fun (a : (Int × (Tp (Int × Int))) × (List Int) × Unit) => tb__law_of_use a.1 a.2.1) fun a => s__law_of_use_t a.1 a.2.1
theorem s__law_near_t (net_here : (Int × (Tp (Int × Int)))) (some' : (List Int)) (root : Int) : SS [dv (rd net_here), dv (rd some'), dv (rd root), jk, jk, jk, jk, jk] b__law_near (tb__law_near net_here some' root) (fun (_ : Unit) => []) (QP (dw : (Dc Int Int) → Pd)) := by
  unfold tb__law_near
  exact (ss_set 3 (fun _ => Nat.le_of_ble_eq_true rfl) (IE.cast (tk_val (gv_dict1 (tk_var (root) (by rfl)) (IE.wk (tk_val (gv_int _)) (fun b od => rd_fr b od)))) (by first | (simp only [Res.bind_ok, Res.bind_assoc, Res.bind_pure, of_sub, id_eq]; done) | rfl)) fun far_380 => (ss_for (fun (turn_381 : Int) (s382 : (Dc Int Int)) => ((Res.ok (some') : Res (List Int)).bind fun xs397 => (forR (fun (k_383 : Int) (s384 : (Dc Int Int)) => (((getI net_here.2.l k_383) : Res (Int × Int)).bind fun p385 => ((Res.ok (((dg s384 p385.1).isSome)) : Res Bool).bind fun d386 => if d386 = true then ((((Res.of (dg s384 p385.1))).bind fun r392 => Res.ok ((if (r392 + (1 : Int)) < ((dg s384 p385.2).getD (99 : Int)) then (r392 + (1 : Int)) else ((dg s384 p385.2).getD (99 : Int)))) : Res Int).bind fun a394 => (Res.ok (p385.2) : Res Int).bind fun j395 => (putD s384 j395 a394).bind fun far_393 => Res.ok (Ex.nx far_393) : Res (Ex ((Dc Int Int)) (Dc Int Int))) else (Res.ok (Ex.nx s384) : Res (Ex ((Dc Int Int)) (Dc Int Int)))).bindE fun s391 => Res.ok (Ex.nx s391) : Res (Ex ((Dc Int Int)) (Dc Int Int)))) xs397 s382).bindE fun s396 => Res.ok (Ex.nx s396) : Res (Ex ((Dc Int Int)) (Dc Int Int)))) (fun (s382 : (Dc Int Int)) => [dv (rd net_here), dv (rd some'), dv (rd root), dv (dw s382), any, any, any, any]) far_380 (TI.cast (ti_rng1 (IE.ge (fst_g (ge_var rd (net_here) (by rfl))))) (by first | (simp only [Res.bind_ok, Res.bind_assoc, Res.bind_pure, of_sub, id_eq]; done) | rfl)) (tg_name 4) (fun _ => ⟨Nat.le_of_ble_eq_true rfl, trivial⟩) (by exact (.same (.same (.same (.same (.any (.any (.any (.any .nil))))))))) (fun turn_381 s382 => (ss_last (ss_for (fun (k_383 : Int) (s384 : (Dc Int Int)) => (((getI net_here.2.l k_383) : Res (Int × Int)).bind fun p385 => ((Res.ok (((dg s384 p385.1).isSome)) : Res Bool).bind fun d386 => if d386 = true then ((((Res.of (dg s384 p385.1))).bind fun r392 => Res.ok ((if (r392 + (1 : Int)) < ((dg s384 p385.2).getD (99 : Int)) then (r392 + (1 : Int)) else ((dg s384 p385.2).getD (99 : Int)))) : Res Int).bind fun a394 => (Res.ok (p385.2) : Res Int).bind fun j395 => (putD s384 j395 a394).bind fun far_393 => Res.ok (Ex.nx far_393) : Res (Ex ((Dc Int Int)) (Dc Int Int))) else (Res.ok (Ex.nx s384) : Res (Ex ((Dc Int Int)) (Dc Int Int)))).bindE fun s391 => Res.ok (Ex.nx s391) : Res (Ex ((Dc Int Int)) (Dc Int Int)))) (fun (s384 : (Dc Int Int)) => [dv (rd net_here), dv (rd some'), dv (rd root), dv (dw s384), dv (rd turn_381), any, any, any]) s382 (TI.cast (ti_fz (fz_var (some') (by rfl))) (by first | (simp only [Res.bind_ok, Res.bind_assoc, Res.bind_pure, of_sub, id_eq]; done) | rfl)) (tg_name 5) (fun _ => ⟨Nat.le_of_ble_eq_true rfl, trivial⟩) (by exact (.same (.same (.same (.same (.same (.any (.any (.any .nil))))))))) (fun k_383 s384 => (ss_unp (v := fun (p385 : (Int × Int)) => p385) (tg_pair (tg_name 6) (tg_name 7)) (fun _ => ⟨Nat.le_of_ble_eq_true rfl, ⟨Nat.le_of_ble_eq_true rfl, trivial⟩⟩) (IE.cast (fz_val (two_gg k_ixT (IE.ge (snd_g (ge_var rd (net_here) (by rfl)))) (ge_var rd (k_383) (by rfl)))) (by first | (simp only [Res.bind_ok, Res.bind_assoc, Res.bind_pure, of_sub, id_eq]; done) | rfl)) fun p385 => (ss_last (ss_if (Γj := (fun (s391 : (Dc Int Int)) => [dv (rd net_here), dv (rd some'), dv (rd root), dv (dw s391), dv (rd turn_381), dv (rd k_383), dv (rd p385.1), dv (rd p385.2)])) (IT.cast (gt_val (IE.ge (two_gg k_inD (ge_var rd (p385.1) (by rfl)) (GE.wk (ge_var dw (s384) (by rfl)) (fun b od => dw_dr b od))))) (by first | (simp only [Res.bind_ok, Res.bind_assoc, Res.bind_pure, of_sub, id_eq]; done) | rfl)) (fun d386 => (ss_last (ss_stD rfl (IE.cast (IE.wk (tk_val (gv_min2 (IE.ge (get2_g (GE.wk (ge_var dw (s384) (by rfl)) (fun b od => dw_dr b od)) (ge_var rd (p385.2) (by rfl)) (IE.wk (fz_val (gv_int _)) (fun b od => fr_rd b od)))) (IE.ge (two_gg k_addI (IE.ge (two_gg k_dix (GE.wk (ge_var dw (s384) (by rfl)) (fun b od => dw_dr b od)) (ge_var rd (p385.1) (by rfl)))) (IE.ge (gv_int _)))))) (fun b od => rd_fr b od)) (by first | (simp only [Res.bind_ok, Res.bind_assoc, Res.bind_pure, of_sub, id_eq]; done) | rfl)) (GE.cast (ge_var rd (p385.2) (by rfl)) (by first | (simp only [Res.bind_ok, Res.bind_assoc, Res.bind_pure, of_sub, id_eq]; done) | rfl)) fun far_393 => (ss_pass far_393 (by exact (.same (.same (.same (.same (.same (.same (.same (.same .nil))))))))))))) (fun d386 => (ss_pass s384 (by exact (.same (.same (.same (.same (.same (.same (.same (.same .nil))))))))))) fun s391 => (ss_pass s391 (by exact (.same (.same (.same (.same (.same (.any (.any (.any .nil)))))))))))))) fun s396 => (ss_pass s396 (by exact (.same (.same (.same (.same (.any (.any (.any (.any .nil))))))))))))) fun s398 => (ss_last (ss_retV (c := s398) (P := dw (s398)) rfl rfl (fun od S q _ => q)))))
theorem c__law_near : TF m__law_near (fun (a : (Int × (Tp (Int × Int))) × (List Int) × Int × Unit) => t__law_near a.1 a.2.1 a.2.2.1) (fun a => [rd a.1, rd a.2.1, rd a.2.2.1]) (dw : (Dc Int Int) → Pd) := tf_ret (t := fun (a : (Int × (Tp (Int × Int))) × (List Int) × Int × Unit) => tb__law_near a.1 a.2.1 a.2.2.1) fun a => s__law_near_t a.1 a.2.1 a.2.2.1
theorem s__law_due_t (net_here : (Int × (Tp (Int × Int)))) (fallen : (List Int)) (root : Int) : SS [dv (rd net_here), dv (rd fallen), dv (rd root), jk, jk, jk, jk, jk, jk, jk, jk, jk, jk, jk, jk, jk, jk, jk, jk] b__law_due (tb__law_due net_here fallen root) (fun (_ : Unit) => []) (QP (rd : (Tp (Tp Int)) → Pd)) := by
  unfold tb__law_due
  exact (ss_set 3 (fun _ => Nat.le_of_ble_eq_true rfl) (IE.cast (tk_val (gv_call c__law_of_use (ga_fr (lk_rd (net_here) (by rfl)) (ga_fr (lk_rd (fallen) (by rfl)) ga_nil)))) (by first | (simp only [Res.bind_ok, Res.bind_assoc, Res.bind_pure, of_sub, id_eq]; done) | rfl)) fun some'_400 => (ss_own 3 (some'_400) rfl (ss_set 4 (fun _ => Nat.le_of_ble_eq_true rfl) (IE.cast (tk_val (gv_call c__law_near (ga_fr (lk_rd (net_here) (by rfl)) (ga_fr (lk_rd (some'_400) (by rfl)) (ga_fr (lk_rd (root) (by rfl)) ga_nil))))) (by first | (simp only [Res.bind_ok, Res.bind_assoc, Res.bind_pure, of_sub, id_eq]; done) | rfl)) fun near_here_401 => (ss_set 3 (fun _ => Nat.le_of_ble_eq_true rfl) (IE.cast (tk_val (gv_comp (ti_fz (fz_var (some'_400) (by rfl))) (tg_name 6) ⟨Nat.le_of_ble_eq_true rfl, trivial⟩ (frc_cons rfl fro_jk frc_nil) (fun x402 => (gt_val (IE.ge (two_gg k_inD (IE.ge (fst_g (IE.ge (two_gg k_ixT (IE.ge (snd_g (ge_var rd (net_here) (by rfl)))) (ge_var rd (x402) (by rfl)))))) (GE.wk (ge_var dw (near_here_401) (by rfl)) (fun b od => dw_dr b od)))))) (fun x402 => (tk_var (x402) (by rfl))))) (by first | (simp only [Res.bind_ok, Res.bind_assoc, Res.bind_pure, of_sub, id_eq]; done) | rfl)) fun some'_404 => (ss_set 5 (fun _ => Nat.le_of_ble_eq_true rfl) (IE.cast (tk_val (gv_nil Int)) (by first | (simp only [Res.bind_ok, Res.bind_assoc, Res.bind_pure, of_sub, id_eq]; done) | rfl)) fun ups_405 => (ss_own 3 (some'_404) rfl (ss_for (fun (k_406 : Int) (s407 : (List Int)) => (((getI net_here.2.l k_406) : Res (Int × Int)).bind fun p408 => (((Res.of (dg near_here_401 p408.2))).bind fun r409 => ((Res.of (dg near_here_401 p408.1))).bind fun r410 => ((mulL [k_406] (if (lt2 (r409, p408.2) (r410, p408.1)) = true then (1 : Int) else 0))).bind fun r411 => (addL s407 r411) : Res (List Int)).bind fun ups_412 => Res.ok (Ex.nx ups_412) : Res (Ex ((List Int)) (Tp (Tp Int))))) (fun (s407 : (List Int)) => [dv (rd net_here), dv (rd fallen), dv (rd root), dv (rd some'_404), dv (dw near_here_401), dv (ow s407), jk, any, any, any, any, any, any, any, any, jk, any, any, jk]) ups_405 (TI.cast (ti_fz (fz_var (some'_404) (by rfl))) (by first | (simp only [Res.bind_ok, Res.bind_assoc, Res.bind_pure, of_sub, id_eq]; done) | rfl)) (tg_name 6) (fun _ => ⟨Nat.le_of_ble_eq_true rfl, trivial⟩) (by exact (.same (.same (.same (.same (.same (.same (.same (.any (.any (.any (.any (.any (.any (.any (.any (.same (.any (.any (.same .nil)))))))))))))))))))) (fun k_406 s407 => (ss_unp (v := fun (p408 : (Int × Int)) => p408) (tg_pair (tg_name 10) (tg_name 11)) (fun _ => ⟨Nat.le_of_ble_eq_true rfl, ⟨Nat.le_of_ble_eq_true rfl, trivial⟩⟩) (IE.cast (fz_val (two_gg k_ixT (IE.ge (snd_g (ge_var rd (net_here) (by rfl)))) (ge_var rd (k_406) (by rfl)))) (by first | (simp only [Res.bind_ok, Res.bind_assoc, Res.bind_pure, of_sub, id_eq]; done) | rfl)) fun p408 => (ss_last (ss_set 5 (fun _ => Nat.le_of_ble_eq_true rfl) (IE.cast (tk_val (two_gg k_addL (GE.wk (ge_var ow (s407) (by rfl)) (fun b od => ow_rd b od)) (IE.ge (IE.wk (two_gg k_mulL (IE.ge (IE.wk (gv_lst1 (tk_var (k_406) (by rfl))) (fun b od => ow_rd b od))) (IE.ge (one_g k_intB (IE.ge (two_gg k_ltP (IE.ge (gv_tup2 (fz_val (two_gg k_dix (GE.wk (ge_var dw (near_here_401) (by rfl)) (fun b od => dw_dr b od)) (ge_var rd (p408.2) (by rfl)))) (fz_var (p408.2) (by rfl)))) (IE.ge (gv_tup2 (fz_val (two_gg k_dix (GE.wk (ge_var dw (near_here_401) (by rfl)) (fun b od => dw_dr b od)) (ge_var rd (p408.1) (by rfl)))) (fz_var (p408.1) (by rfl))))))))) (fun b od => ow_rd b od))))) (by first | (simp only [Res.bind_ok, Res.bind_assoc, Res.bind_pure, of_sub, id_eq]; done) | rfl)) fun ups_412 => (ss_pass ups_412 (by exact (.same (.same (.same (.same (.same (.same (.wk fro_rd (.any (.any (.any (.any (.any (.any (.any (.any (.same (.any (.any (.same .nil))))))))))))))))))))))))) fun s413 => (ss_set 7 (fun _ => Nat.le_of_ble_eq_true rfl) (IE.cast (tk_val (gv_comp (ti_fz (fz_var (some'_404) (by rfl))) (tg_name 6) ⟨Nat.le_of_ble_eq_true rfl, trivial⟩ (frc_cons rfl fro_jk frc_nil) (fun x414 => (gt_val (IE.ge (two_gg (k_ninL (by decide)) (ge_var rd (x414) (by rfl)) (GE.wk (ge_var ow (s413) (by rfl)) (fun b od => ow_rd b od)))))) (fun x414 => (tk_var (x414) (by rfl))))) (by first | (simp only [Res.bind_ok, Res.bind_assoc, Res.bind_pure, of_sub, id_eq]; done) | rfl)) fun downs_415 => (ss_set 8 (fun _ => Nat.le_of_ble_eq_true rfl) (IE.cast (tk_val (gv_compO (ti_rng1 (IE.ge (fst_g (ge_var rd (net_here) (by rfl))))) (tg_name 15) ⟨Nat.le_of_ble_eq_true rfl, trivial⟩ (frc_cons rfl fro_jk frc_nil) (fun x416 => gt_yes) (fun x416 => (tk_val (two_gg k_mulL (IE.ge (IE.wk (gv_lst1 (IE.wk (tk_val (gv_neg (IE.ge (gv_int _)))) (fun b od => rd_fr b od))) (fun b od => ow_rd b od))) (IE.ge (fst_g (ge_var rd (net_here) (by rfl))))))))) (by first | (simp only [Res.bind_ok, Res.bind_assoc, Res.bind_pure, of_sub, id_eq]; done) | rfl)) fun rows_418 => (ss_dic 4 (near_here_401) rfl (ss_own 7 (downs_415) rfl (ss_own 5 (s413) rfl (ss_for (fun (goal_419 : Int) (s420 : (List (List Int))) => ((Res.ok ([(goal_419, (0 : Int))]) : Res (Dc Int Int)).bind fun down_421 => ((rngR net_here.1) : Res (List Int)).bind fun xs495 => (forR (fun (turn_422 : Int) (s423 : (Dc Int Int)) => ((Res.ok (downs_415) : Res (List Int)).bind fun xs445 => (forR (fun (k_424 : Int) (s425 : (Dc Int Int)) => (((((getI net_here.2.l k_424)).bind fun r428 => Res.ok (((dg s425 r428.2).isSome)) : Res Bool).bind fun d427 => if d427 = true then ((((getI net_here.2.l k_424)).bind fun r437 => ((getI net_here.2.l k_424)).bind fun r438 => ((Res.of (dg s425 r438.2))).bind fun r439 => Res.ok ((if (r439 + (1 : Int)) < ((dg s425 r437.1).getD (99 : Int)) then (r439 + (1 : Int)) else ((dg s425 r437.1).getD (99 : Int)))) : Res Int).bind fun a442 => (((getI net_here.2.l k_424)).bind fun r440 => Res.ok (r440.1) : Res Int).bind fun j443 => (putD s425 j443 a442).bind fun down_441 => Res.ok (Ex.nx down_441) : Res (Ex ((Dc Int Int)) (Tp (Tp Int)))) else (Res.ok (Ex.nx s425) : Res (Ex ((Dc Int Int)) (Tp (Tp Int))))).bindE fun s436 => Res.ok (Ex.nx s436) : Res (Ex ((Dc Int Int)) (Tp (Tp Int))))) xs445 s423).bindE fun s444 => Res.ok (Ex.nx s444) : Res (Ex ((Dc Int Int)) (Tp (Tp Int))))) xs495 down_421).bindE fun s446 => (Res.ok (s446) : Res (Dc Int Int)).bind fun far_447 => ((rngR net_here.1) : Res (List Int)).bind fun xs494 => (forR (fun (turn_448 : Int) (s449 : (Dc Int Int)) => ((Res.ok (s413) : Res (List Int)).bind fun xs471 => (forR (fun (k_450 : Int) (s451 : (Dc Int Int)) => (((((getI net_here.2.l k_450)).bind fun r453 => (if ((dg s451 r453.2).isSome) = true then ((getI net_here.2.l k_450)).bind fun r454 => Res.ok ((!(dg s446 r454.1).isSome)) else Res.ok false) : Res Bool).bind fun d452 => if d452 = true then ((((getI net_here.2.l k_450)).bind fun r463 => ((getI net_here.2.l k_450)).bind fun r464 => ((Res.of (dg s451 r464.2))).bind fun r465 => Res.ok ((if (r465 + (1 : Int)) < ((dg s451 r463.1).getD (99 : Int)) then (r465 + (1 : Int)) else ((dg s451 r463.1).getD (99 : Int)))) : Res Int).bind fun a468 => (((getI net_here.2.l k_450)).bind fun r466 => Res.ok (r466.1) : Res Int).bind fun j469 => (putD s451 j469 a468).bind fun far_467 => Res.ok (Ex.nx far_467) : Res (Ex ((Dc Int Int)) (Tp (Tp Int)))) else (Res.ok (Ex.nx s451) : Res (Ex ((Dc Int Int)) (Tp (Tp Int))))).bindE fun s462 => Res.ok (Ex.nx s462) : Res (Ex ((Dc Int Int)) (Tp (Tp Int))))) xs471 s449).bindE fun s470 => Res.ok (Ex.nx s470) : Res (Ex ((Dc Int Int)) (Tp (Tp Int))))) xs494 far_447).bindE fun s472 => (Res.ok ((keysD s472)) : Res (List Int)).bind fun xs493 => (forR (fun (house_473 : Int) (s474 : (List (List Int))) => (((if ((dg s446 house_473).isSome) = true then Res.ok (downs_415) else Res.ok (s413)) : Res (List Int)).bind fun ways_475 => ((compG ways_475 (fun (x476 : Int) => ((getI net_here.2.l x476)).bind fun r477 => (if (decide (r477.1 = house_473)) = true then ((getI net_here.2.l x476)).bind fun r478 => ((Res.of (dg s472 house_473))).bind fun r479 => Res.ok ((decide ((((dg s472 r478.2).getD (99 : Int)) + (1 : Int)) = r479))) else Res.ok false)) (fun (x476 : Int) => Res.ok (x476))) : Res (List Int)).bind fun good_480 => ((Res.ok (((dg s446 house_473).isSome)) : Res Bool).bind fun d481 => if d481 = true then (((compG good_480 (fun (x486 : Int) => ((getI net_here.2.l x486)).bind fun r487 => Res.ok (((dg s446 r487.2).isSome))) (fun (x486 : Int) => Res.ok (x486))) : Res (List Int)).bind fun good_488 => Res.ok (Ex.nx good_488) : Res (Ex ((List Int)) (Tp (Tp Int)))) else (Res.ok (Ex.nx good_480) : Res (Ex ((List Int)) (Tp (Tp Int))))).bindE fun s485 => ((if (!decide (house_473 = goal_419)) = true then (minI s485) else Res.ok ((-(1 : Int)))) : Res Int).bind fun a490 => (Res.ok (house_473) : Res Int).bind fun j491 => (setII s474 j491 goal_419 a490).bind fun rows_489 => Res.ok (Ex.nx rows_489) : Res (Ex ((List (List Int))) (Tp (Tp Int))))) xs493 s420).bindE fun s492 => Res.ok (Ex.nx s492) : Res (Ex ((List (List Int))) (Tp (Tp Int))))) (fun (s420 : (List (List Int))) => [dv (rd net_here), dv (rd fallen), dv (rd root), dv (rd some'_404), dv (dr near_here_401), dv (rd s413), jk, dv (rd downs_415), dv (oo s420), any, any, any, any, any, any, jk, any, any, jk]) rows_418 (TI.cast (ti_keys (near_here_401) (by rfl)) (by first | (simp only [Res.bind_ok, Res.bind_assoc, Res.bind_pure, of_sub, id_eq]; done) | rfl)) (tg_name 9) (fun _ => ⟨Nat.le_of_ble_eq_true rfl, trivial⟩) (by exact (.same (.same (.same (.same (.same (.same (.same (.same (.same (.any (.any (.any (.any (.any (.any (.same (.any (.any (.same .nil)))))))))))))))))))) (fun goal_419 s420 => (ss_set 12 (fun _ => Nat.le_of_ble_eq_true rfl) (IE.cast (tk_val (gv_dict1 (tk_var (goal_419) (by rfl)) (IE.wk (tk_val (gv_int _)) (fun b od => rd_fr b od)))) (by first | (simp only [Res.bind_ok, Res.bind_assoc, Res.bind_pure, of_sub, id_eq]; done) | rfl)) fun down_421 => (ss_for (fun (turn_422 : Int) (s423 : (Dc Int Int)) => ((Res.ok (downs_415) : Res (List Int)).bind fun xs445 => (forR (fun (k_424 : Int) (s425 : (Dc Int Int)) => (((((getI net_here.2.l k_424)).bind fun r428 => Res.ok (((dg s425 r428.2).isSome)) : Res Bool).bind fun d427 => if d427 = true then ((((getI net_here.2.l k_424)).bind fun r437 => ((getI net_here.2.l k_424)).bind fun r438 => ((Res.of (dg s425 r438.2))).bind fun r439 => Res.ok ((if (r439 + (1 : Int)) < ((dg s425 r437.1).getD (99 : Int)) then (r439 + (1 : Int)) else ((dg s425 r437.1).getD (99 : Int)))) : Res Int).bind fun a442 => (((getI net_here.2.l k_424)).bind fun r440 => Res.ok (r440.1) : Res Int).bind fun j443 => (putD s425 j443 a442).bind fun down_441 => Res.ok (Ex.nx down_441) : Res (Ex ((Dc Int Int)) (Tp (Tp Int)))) else (Res.ok (Ex.nx s425) : Res (Ex ((Dc Int Int)) (Tp (Tp Int))))).bindE fun s436 => Res.ok (Ex.nx s436) : Res (Ex ((Dc Int Int)) (Tp (Tp Int))))) xs445 s423).bindE fun s444 => Res.ok (Ex.nx s444) : Res (Ex ((Dc Int Int)) (Tp (Tp Int))))) (fun (s423 : (Dc Int Int)) => [dv (rd net_here), dv (rd fallen), dv (rd root), dv (rd some'_404), dv (dr near_here_401), dv (rd s413), jk, dv (rd downs_415), dv (oo s420), dv (rd goal_419), any, any, dv (dw s423), any, any, jk, any, any, jk]) down_421 (TI.cast (ti_rng1 (IE.ge (fst_g (ge_var rd (net_here) (by rfl))))) (by first | (simp only [Res.bind_ok, Res.bind_assoc, Res.bind_pure, of_sub, id_eq]; done) | rfl)) (tg_name 13) (fun _ => ⟨Nat.le_of_ble_eq_true rfl, trivial⟩) (by exact (.same (.same (.same (.same (.same (.same (.same (.same (.same (.same (.any (.any (.same (.any (.any (.same (.any (.any (.same .nil)))))))))))))))))))) (fun turn_422 s423 => (ss_last (ss_for (fun (k_424 : Int) (s425 : (Dc Int Int)) => (((((getI net_here.2.l k_424)).bind fun r428 => Res.ok (((dg s425 r428.2).isSome)) : Res Bool).bind fun d427 => if d427 = true then ((((getI net_here.2.l k_424)).bind fun r437 => ((getI net_here.2.l k_424)).bind fun r438 => ((Res.of (dg s425 r438.2))).bind fun r439 => Res.ok ((if (r439 + (1 : Int)) < ((dg s425 r437.1).getD (99 : Int)) then (r439 + (1 : Int)) else ((dg s425 r437.1).getD (99 : Int)))) : Res Int).bind fun a442 => (((getI net_here.2.l k_424)).bind fun r440 => Res.ok (r440.1) : Res Int).bind fun j443 => (putD s425 j443 a442).bind fun down_441 => Res.ok (Ex.nx down_441) : Res (Ex ((Dc Int Int)) (Tp (Tp Int)))) else (Res.ok (Ex.nx s425) : Res (Ex ((Dc Int Int)) (Tp (Tp Int))))).bindE fun s436 => Res.ok (Ex.nx s436) : Res (Ex ((Dc Int Int)) (Tp (Tp Int))))) (fun (s425 : (Dc Int Int)) => [dv (rd net_here), dv (rd fallen), dv (rd root), dv (rd some'_404), dv (dr near_here_401), dv (rd s413), jk, dv (rd downs_415), dv (oo s420), dv (rd goal_419), any, any, dv (dw s425), dv (rd turn_422), any, jk, any, any, jk]) s423 (TI.cast (ti_fz (fz_var (downs_415) (by rfl))) (by first | (simp only [Res.bind_ok, Res.bind_assoc, Res.bind_pure, of_sub, id_eq]; done) | rfl)) (tg_name 6) (fun _ => ⟨Nat.le_of_ble_eq_true rfl, trivial⟩) (by exact (.same (.same (.same (.same (.same (.same (.same (.same (.same (.same (.any (.any (.same (.same (.any (.same (.any (.any (.same .nil)))))))))))))))))))) (fun k_424 s425 => (ss_last (ss_if (Γj := (fun (s436 : (Dc Int Int)) => [dv (rd net_here), dv (rd fallen), dv (rd root), dv (rd some'_404), dv (dr near_here_401), dv (rd s413), dv (rd k_424), dv (rd downs_415), dv (oo s420), dv (rd goal_419), any, any, dv (dw s436), dv (rd turn_422), any, jk, any, any, jk])) (IT.cast (gt_val (IE.ge (two_gg k_inD (IE.ge (snd_g (IE.ge (two_gg k_ixT (IE.ge (snd_g (ge_var rd (net_here) (by rfl)))) (ge_var rd (k_424) (by rfl)))))) (GE.wk (ge_var dw (s425) (by rfl)) (fun b od => dw_dr b od))))) (by first | (simp only [Res.bind_ok, Res.bind_assoc, Res.bind_pure, of_sub, id_eq]; done) | rfl)) (fun d427 => (ss_last (ss_stD rfl (IE.cast (IE.wk (tk_val (gv_min2 (IE.ge (get2_g (GE.wk (ge_var dw (s425) (by rfl)) (fun b od => dw_dr b od)) (IE.ge (fst_g (IE.ge (two_gg k_ixT (IE.ge (snd_g (ge_var rd (net_here) (by rfl)))) (ge_var rd (k_424) (by rfl)))))) (IE.wk (fz_val (gv_int _)) (fun b od => fr_rd b od)))) (IE.ge (two_gg k_addI (IE.ge (two_gg k_dix (GE.wk (ge_var dw (s425) (by rfl)) (fun b od => dw_dr b od)) (IE.ge (snd_g (IE.ge (two_gg k_ixT (IE.ge (snd_g (ge_var rd (net_here) (by rfl)))) (ge_var rd (k_424) (by rfl)))))))) (IE.ge (gv_int _)))))) (fun b od => rd_fr b od)) (by first | (simp only [Res.bind_ok, Res.bind_assoc, Res.bind_pure, of_sub, id_eq]; done) | rfl)) (GE.cast (IE.ge (fst_g (IE.ge (two_gg k_ixT (IE.ge (snd_g (ge_var rd (net_here) (by rfl)))) (ge_var rd (k_424) (by rfl)))))) (by first | (simp only [Res.bind_ok, Res.bind_assoc, Res.bind_pure, of_sub, id_eq]; done) | rfl)) fun down_441 => (ss_pass down_441 (by exact (.same (.same (.same (.same (.same (.same (.same (.same (.same (.same (.any (.any (.same (.same (.any (.same (.any (.any (.same .nil)))))))))))))))))))))))) (fun d427 => (ss_pass s425 (by exact (.same (.same (.same (.same (.same (.same (.same (.same (.same (.same (.any (.any (.same (.same (.any (.same (.any (.any (.same .nil)))))))))))))))))))))) fun s436 => (ss_pass s436 (by exact (.same (.same (.same (.same (.same (.same (.wk fro_rd (.same (.same (.same (.any (.any (.same (.same (.any (.same (.any (.any (.same .nil)))))))))))))))))))))))) fun s444 => (ss_pass s444 (by exact (.same (.same (.same (.same (.same (.same (.same (.same (.same (.same (.any (.any (.same (.any (.any (.same (.any (.any (.same .nil)))))))))))))))))))))))) fun s446 => (ss_set 14 (fun _ => Nat.le_of_ble_eq_true rfl) (IE.cast (tk_val (one_g k_dict (GE.wk (ge_var dw (s446) (by rfl)) (fun b od => dw_dr b od)))) (by first | (simp only [Res.bind_ok, Res.bind_assoc, Res.bind_pure, of_sub, id_eq]; done) | rfl)) fun far_447 => (ss_for (fun (turn_448 : Int) (s449 : (Dc Int Int)) => ((Res.ok (s413) : Res (List Int)).bind fun xs471 => (forR (fun (k_450 : Int) (s451 : (Dc Int Int)) => (((((getI net_here.2.l k_450)).bind fun r453 => (if ((dg s451 r453.2).isSome) = true then ((getI net_here.2.l k_450)).bind fun r454 => Res.ok ((!(dg s446 r454.1).isSome)) else Res.ok false) : Res Bool).bind fun d452 => if d452 = true then ((((getI net_here.2.l k_450)).bind fun r463 => ((getI net_here.2.l k_450)).bind fun r464 => ((Res.of (dg s451 r464.2))).bind fun r465 => Res.ok ((if (r465 + (1 : Int)) < ((dg s451 r463.1).getD (99 : Int)) then (r465 + (1 : Int)) else ((dg s451 r463.1).getD (99 : Int)))) : Res Int).bind fun a468 => (((getI net_here.2.l k_450)).bind fun r466 => Res.ok (r466.1) : Res Int).bind fun j469 => (putD s451 j469 a468).bind fun far_467 => Res.ok (Ex.nx far_467) : Res (Ex ((Dc Int Int)) (Tp (Tp Int)))) else (Res.ok (Ex.nx s451) : Res (Ex ((Dc Int Int)) (Tp (Tp Int))))).bindE fun s462 => Res.ok (Ex.nx s462) : Res (Ex ((Dc Int Int)) (Tp (Tp Int))))) xs471 s449).bindE fun s470 => Res.ok (Ex.nx s470) : Res (Ex ((Dc Int Int)) (Tp (Tp Int))))) (fun (s449 : (Dc Int Int)) => [dv (rd net_here), dv (rd fallen), dv (rd root), dv (rd some'_404), dv (dr near_here_401), dv (rd s413), jk, dv (rd downs_415), dv (oo s420), dv (rd goal_419), any, any, dv (dw s446), any, dv (dw s449), jk, any, any, jk]) far_447 (TI.cast (ti_rng1 (IE.ge (fst_g (ge_var rd (net_here) (by rfl))))) (by first | (simp only [Res.bind_ok, Res.bind_assoc, Res.bind_pure, of_sub, id_eq]; done) | rfl)) (tg_name 13) (fun _ => ⟨Nat.le_of_ble_eq_true rfl, trivial⟩) (by exact (.same (.same (.same (.same (.same (.same (.same (.same (.same (.same (.any (.any (.same (.any (.same (.same (.any (.any (.same .nil)))))))))))))))))))) (fun turn_448 s449 => (ss_last (ss_for (fun (k_450 : Int) (s451 : (Dc Int Int)) => (((((getI net_here.2.l k_450)).bind fun r453 => (if ((dg s451 r453.2).isSome) = true then ((getI net_here.2.l k_450)).bind fun r454 => Res.ok ((!(dg s446 r454.1).isSome)) else Res.ok false) : Res Bool).bind fun d452 => if d452 = true then ((((getI net_here.2.l k_450)).bind fun r463 => ((getI net_here.2.l k_450)).bind fun r464 => ((Res.of (dg s451 r464.2))).bind fun r465 => Res.ok ((if (r465 + (1 : Int)) < ((dg s451 r463.1).getD (99 : Int)) then (r465 + (1 : Int)) else ((dg s451 r463.1).getD (99 : Int)))) : Res Int).bind fun a468 => (((getI net_here.2.l k_450)).bind fun r466 => Res.ok (r466.1) : Res Int).bind fun j469 => (putD s451 j469 a468).bind fun far_467 => Res.ok (Ex.nx far_467) : Res (Ex ((Dc Int Int)) (Tp (Tp Int)))) else (Res.ok (Ex.nx s451) : Res (Ex ((Dc Int Int)) (Tp (Tp Int))))).bindE fun s462 => Res.ok (Ex.nx s462) : Res (Ex ((Dc Int Int)) (Tp (Tp Int))))) (fun (s451 : (Dc Int Int)) => [dv (rd net_here), dv (rd fallen), dv (rd root), dv (rd some'_404), dv (dr near_here_401), dv (rd s413), jk, dv (rd downs_415), dv (oo s420), dv (rd goal_419), any, any, dv (dw s446), dv (rd turn_448), dv (dw s451), jk, any, any, jk]) s449 (TI.cast (ti_fz (fz_var (s413) (by rfl))) (by first | (simp only [Res.bind_ok, Res.bind_assoc, Res.bind_pure, of_sub, id_eq]; done) | rfl)) (tg_name 6) (fun _ => ⟨Nat.le_of_ble_eq_true rfl, trivial⟩) (by exact (.same (.same (.same (.same (.same (.same (.same (.same (.same (.same (.any (.any (.same (.same (.same (.same (.any (.any (.same .nil)))))))))))))))))))) (fun k_450 s451 => (ss_last (ss_if (Γj := (fun (s462 : (Dc Int Int)) => [dv (rd net_here), dv (rd fallen), dv (rd root), dv (rd some'_404), dv (dr near_here_401), dv (rd s413), dv (rd k_450), dv (rd downs_415), dv (oo s420), dv (rd goal_419), any, any, dv (dw s446), dv (rd turn_448), dv (dw s462), jk, any, any, jk])) (IT.cast (gt_and (gt_val (IE.ge (two_gg k_inD (IE.ge (snd_g (IE.ge (two_gg k_ixT (IE.ge (snd_g (ge_var rd (net_here) (by rfl)))) (ge_var rd (k_450) (by rfl)))))) (GE.wk (ge_var dw (s451) (by rfl)) (fun b od => dw_dr b od))))) (gt_val (IE.ge (two_gg k_ninD (IE.ge (fst_g (IE.ge (two_gg k_ixT (IE.ge (snd_g (ge_var rd (net_here) (by rfl)))) (ge_var rd (k_450) (by rfl)))))) (GE.wk (ge_var dw (s446) (by rfl)) (fun b od => dw_dr b od)))))) (by first | (simp only [Res.bind_ok, Res.bind_assoc, Res.bind_pure, of_sub, id_eq]; done) | rfl)) (fun d452 => (ss_last (ss_stD rfl (IE.cast (IE.wk (tk_val (gv_min2 (IE.ge (get2_g (GE.wk (ge_var dw (s451) (by rfl)) (fun b od => dw_dr b od)) (IE.ge (fst_g (IE.ge (two_gg k_ixT (IE.ge (snd_g (ge_var rd (net_here) (by rfl)))) (ge_var rd (k_450) (by rfl)))))) (IE.wk (fz_val (gv_int _)) (fun b od => fr_rd b od)))) (IE.ge (two_gg k_addI (IE.ge (two_gg k_dix (GE.wk (ge_var dw (s451) (by rfl)) (fun b od => dw_dr b od)) (IE.ge (snd_g (IE.ge (two_gg k_ixT (IE.ge (snd_g (ge_var rd (net_here) (by rfl)))) (ge_var rd (k_450) (by rfl)))))))) (IE.ge (gv_int _)))))) (fun b od => rd_fr b od)) (by first | (simp only [Res.bind_ok, Res.bind_assoc, Res.bind_pure, of_sub, id_eq]; done) | rfl)) (GE.cast (IE.ge (fst_g (IE.ge (two_gg k_ixT (IE.ge (snd_g (ge_var rd (net_here) (by rfl)))) (ge_var rd (k_450) (by rfl)))))) (by first | (simp only [Res.bind_ok, Res.bind_assoc, Res.bind_pure, of_sub, id_eq]; done) | rfl)) fun far_467 => (ss_pass far_467 (by exact (.same (.same (.same (.same (.same (.same (.same (.same (.same (.same (.any (.any (.same (.same (.same (.same (.any (.any (.same .nil)))))))))))))))))))))))) (fun d452 => (ss_pass s451 (by exact (.same (.same (.same (.same (.same (.same (.same (.same (.same (.same (.any (.any (.same (.same (.same (.same (.any (.any (.same .nil)))))))))))))))))))))) fun s462 => (ss_pass s462 (by exact (.same (.same (.same (.same (.same (.same (.wk fro_rd (.same (.same (.same (.any (.any (.same (.same (.same (.same (.any (.any (.same .nil)))))))))))))))))))))))) fun s470 => (ss_pass s470 (by exact (.same (.same (.same (.same (.same (.same (.same (.same (.same (.same (.any (.any (.same (.any (.same (.same (.any (.any (.same .nil)))))))))))))))))))))))) fun s472 => (ss_dic 14 (s472) rfl (ss_last (ss_for (fun (house_473 : Int) (s474 : (List (List Int))) => (((if ((dg s446 house_473).isSome) = true then Res.ok (downs_415) else Res.ok (s413)) : Res (List Int)).bind fun ways_475 => ((compG ways_475 (fun (x476 : Int) => ((getI net_here.2.l x476)).bind fun r477 => (if (decide (r477.1 = house_473)) = true then ((getI net_here.2.l x476)).bind fun r478 => ((Res.of (dg s472 house_473))).bind fun r479 => Res.ok ((decide ((((dg s472 r478.2).getD (99 : Int)) + (1 : Int)) = r479))) else Res.ok false)) (fun (x476 : Int) => Res.ok (x476))) : Res (List Int)).bind fun good_480 => ((Res.ok (((dg s446 house_473).isSome)) : Res Bool).bind fun d481 => if d481 = true then (((compG good_480 (fun (x486 : Int) => ((getI net_here.2.l x486)).bind fun r487 => Res.ok (((dg s446 r487.2).isSome))) (fun (x486 : Int) => Res.ok (x486))) : Res (List Int)).bind fun good_488 => Res.ok (Ex.nx good_488) : Res (Ex ((List Int)) (Tp (Tp Int)))) else (Res.ok (Ex.nx good_480) : Res (Ex ((List Int)) (Tp (Tp Int))))).bindE fun s485 => ((if (!decide (house_473 = goal_419)) = true then (minI s485) else Res.ok ((-(1 : Int)))) : Res Int).bind fun a490 => (Res.ok (house_473) : Res Int).bind fun j491 => (setII s474 j491 goal_419 a490).bind fun rows_489 => Res.ok (Ex.nx rows_489) : Res (Ex ((List (List Int))) (Tp (Tp Int))))) (fun (s474 : (List (List Int))) => [dv (rd net_here), dv (rd fallen), dv (rd root), dv (rd some'_404), dv (dr near_here_401), dv (rd s413), jk, dv (rd downs_415), dv (oo s474), dv (rd goal_419), any, any, dv (dw s446), any, dv (dr s472), jk, any, any, jk]) s420 (TI.cast (ti_keys (s472) (by rfl)) (by first | (simp only [Res.bind_ok, Res.bind_assoc, Res.bind_pure, of_sub, id_eq]; done) | rfl)) (tg_name 15) (fun _ => ⟨Nat.le_of_ble_eq_true rfl, trivial⟩) (by exact (.same (.same (.same (.same (.same (.same (.same (.same (.same (.same (.any (.any (.same (.any (.same (.same (.any (.any (.same .nil)))))))))))))))))))) (fun house_473 s474 => (ss_set 16 (fun _ => Nat.le_of_ble_eq_true rfl) (IE.cast (IE.wk (tk_if (gt_val (IE.ge (two_gg k_inD (ge_var rd (house_473) (by rfl)) (GE.wk (ge_var dw (s446) (by rfl)) (fun b od => dw_dr b od))))) (tk_var (downs_415) (by rfl)) (tk_var (s413) (by rfl))) (fun b od => fr_rd _ od)) (by first | (simp only [Res.bind_ok, Res.bind_assoc, Res.bind_pure, of_sub, id_eq]; done) | rfl)) fun ways_475 => (ss_set 17 (fun _ => Nat.le_of_ble_eq_true rfl) (IE.cast (tk_val (gv_comp (ti_fz (fz_var (ways_475) (by rfl))) (tg_name 6) ⟨Nat.le_of_ble_eq_true rfl, trivial⟩ (frc_cons rfl fro_jk frc_nil) (fun x476 => (gt_and (gt_val (IE.ge (two_gg (k_eq (by decide)) (IE.ge (fst_g (IE.ge (two_gg k_ixT (IE.ge (snd_g (ge_var rd (net_here) (by rfl)))) (ge_var rd (x476) (by rfl)))))) (ge_var rd (house_473) (by rfl))))) (gt_val (IE.ge (two_gg (k_eq (by decide)) (IE.ge (two_gg k_addI (IE.ge (get2_g (ge_var dr (s472) (by rfl)) (IE.ge (snd_g (IE.ge (two_gg k_ixT (IE.ge (snd_g (ge_var rd (net_here) (by rfl)))) (ge_var rd (x476) (by rfl)))))) (IE.wk (fz_val (gv_int _)) (fun b od => fr_rd b od)))) (IE.ge (gv_int _)))) (IE.ge (two_gg k_dix (ge_var dr (s472) (by rfl)) (ge_var rd (house_473) (by rfl))))))))) (fun x476 => (tk_var (x476) (by rfl))))) (by first | (simp only [Res.bind_ok, Res.bind_assoc, Res.bind_pure, of_sub, id_eq]; done) | rfl)) fun good_480 => (ss_if (Γj := (fun (s485 : (List Int)) => [dv (rd net_here), dv (rd fallen), dv (rd root), dv (rd some'_404), dv (dr near_here_401), dv (rd s413), jk, dv (rd downs_415), dv (oo s474), dv (rd goal_419), any, any, dv (dw s446), any, dv (dr s472), dv (rd house_473), dv (rd ways_475), dv (ow s485), jk])) (IT.cast (gt_val (IE.ge (two_gg k_inD (ge_var rd (house_473) (by rfl)) (GE.wk (ge_var dw (s446) (by rfl)) (fun b od => dw_dr b od))))) (by first | (simp only [Res.bind_ok, Res.bind_assoc, Res.bind_pure, of_sub, id_eq]; done) | rfl)) (fun d481 => (ss_own 17 (good_480) rfl (ss_last (ss_set 17 (fun _ => Nat.le_of_ble_eq_true rfl) (IE.cast (tk_val (gv_comp (ti_fz (fz_var (good_480) (by rfl))) (tg_name 6) ⟨Nat.le_of_ble_eq_true rfl, trivial⟩ (frc_cons rfl fro_jk frc_nil) (fun x486 => (gt_val (IE.ge (two_gg k_inD (IE.ge (snd_g (IE.ge (two_gg k_ixT (IE.ge (snd_g (ge_var rd (net_here) (by rfl)))) (ge_var rd (x486) (by rfl)))))) (GE.wk (ge_var dw (s446) (by rfl)) (fun b od => dw_dr b od)))))) (fun x486 => (tk_var (x486) (by rfl))))) (by first | (simp only [Res.bind_ok, Res.bind_assoc, Res.bind_pure, of_sub, id_eq]; done) | rfl)) fun good_488 => (ss_pass good_488 (by exact (.same (.same (.same (.same (.same (.same (.same (.same (.same (.same (.any (.any (.same (.any (.same (.same (.same (.same (.same .nil))))))))))))))))))))))))) (fun d481 => (ss_pass good_480 (by exact (.same (.same (.same (.same (.same (.same (.same (.same (.same (.same (.any (.any (.same (.any (.same (.same (.same (.same (.same .nil)))))))))))))))))))))) fun s485 => (ss_last (ss_st2 rfl rfl (IE.cast (tk_if (gt_val (IE.ge (two_gg (k_ne (by decide)) (ge_var rd (house_473) (by rfl)) (ge_var rd (goal_419) (by rfl))))) (IE.wk (tk_val (one_g k_min (GE.wk (ge_var ow (s485) (by rfl)) (fun b od => ow_rd b od)))) (fun b od => rd_fr b od)) (IE.wk (tk_val (gv_neg (IE.ge (gv_int _)))) (fun b od => rd_fr b od))) (by first | (simp only [Res.bind_ok, Res.bind_assoc, Res.bind_pure, of_sub, id_eq]; done) | rfl)) (GE.cast (ge_var rd (house_473) (by rfl)) (by first | (simp only [Res.bind_ok, Res.bind_assoc, Res.bind_pure, of_sub, id_eq]; done) | rfl)) fun rows_489 => (ss_pass rows_489 (by exact (.same (.same (.same (.same (.same (.same (.same (.same (.same (.same (.any (.any (.same (.any (.same (.wk fro_rd (.any (.any (.same .nil))))))))))))))))))))))))))) fun s492 => (ss_pass s492 (by exact (.same (.same (.same (.same (.same (.same (.same (.same (.same (.any (.any (.any (.any (.any (.any (.same (.any (.any (.same .nil))))))))))))))))))))))))))))) fun s496 => (ss_roo 8 (s496) rfl (ss_last (ss_ret (fun b499 => b499) (IE.cast (one_g k_tup (IE.ge (IE.wk (gv_comp (ti_fz (fz_ro (s496) (by rfl))) (tg_name 18) ⟨Nat.le_of_ble_eq_true rfl, trivial⟩ (frc_cons rfl fro_jk frc_nil) (fun x497 => gt_yes) (fun x497 => (IE.wk (tk_val (one_g k_tup (ge_var rd (x497) (by rfl)))) (fun b od => rd_fr b od)))) (fun b od => ow_rd b od)))) (by first | (simp only [Res.bind_ok, Res.bind_assoc, Res.bind_pure, of_sub, id_eq]; done) | rfl)) (fun a od S q _ => q)))))))))))))))))
theorem c__law_due : TF m__law_due (fun (a : (Int × (Tp (Int × Int))) × (List Int) × Int × Unit) => t__law_due a.1 a.2.1 a.2.2.1) (fun a => [rd a.1, rd a.2.1, rd a.2.2.1]) (rd : (Tp (Tp Int)) → Pd) := tf_ret (t := fun (a : (Int × (Tp (Int × Int))) × (List Int) × Int × Unit) => tb__law_due a.1 a.2.1 a.2.2.1) fun a => s__law_due_t a.1 a.2.1 a.2.2.1
theorem s_law_t (script : (List Int)) : SS [dv (rs script), jk, jk, jk, jk, jk, jk, jk, jk, jk, jk] b_law (tb_law script) (fun (_ : Unit) => []) (QP (rd : Bool → Pd)) := by
  unfold tb_law
  exact (ss_set 1 (fun _ => Nat.le_of_ble_eq_true rfl) (IE.cast (tk_val (gv_call c__law_dice (ga_rs (lk_rs (script) (by rfl)) (ga_fr (fz_val (gv_int _)) ga_nil)))) (by first | (simp only [Res.bind_ok, Res.bind_assoc, Res.bind_pure, of_sub, id_eq]; done) | rfl)) fun d_502 => (ss_for (fun (turn_503 : Int) (s504 : (List Int)) => (((t__law_net s504 (8 : Int)) : Res ((Int × (Tp (Int × Int))) × (List Int))).bind fun net_here_505 => (((rngR ((net_here_505.1.2.l.length : Nat) : Int))).bind fun r515 => (compS r515 net_here_505.2 (fun (x506 : Int) (s509 : (List Int)) => (noR (((t__law_off s509 (5 : Int))).bind fun r512 => Res.ok (((decide (r512.1 = (0 : Int))), r512)))).bind fun d510 => if d510.1 = true then (noR (Res.ok (x506))).bind fun e511 => Res.ok (some e511, d510.2.2) else Res.ok (none, d510.2.2))) : Res ((List Int) × (List Int))).bind fun fallen_516 => ((((t__law_off fallen_516.2 (9 : Int))).bind fun r517 => Res.ok (((decide (r517.1 = (0 : Int))), r517)) : Res (Bool × (Int × (List Int)))).bind fun d519 => if d519.1 = true then (((rngL ((net_here_505.1.2.l.length : Nat) : Int)) : Res (List Int)).bind fun fallen_523 => Res.ok (Ex.nx (d519.2.2, fallen_523)) : Res (Ex ((List Int) × (List Int)) Bool)) else (Res.ok (Ex.nx (d519.2.2, fallen_516.1)) : Res (Ex ((List Int) × (List Int)) Bool))).bindE fun s522 => ((((t__law_off s522.1 (3 : Int))).bind fun r524 => Res.ok (((decide (r524.1 = (0 : Int))), r524)) : Res (Bool × (Int × (List Int)))).bind fun d526 => if d526.1 = true then ((((addL s522.2 (cutD s522.2 none (some (1 : Int))))).bind fun r531 => (t__law_mixed_i d526.2.2 r531) : Res ((List Int) × (List Int))).bind fun fallen_532 => Res.ok (Ex.nx (fallen_532.2, fallen_532.1)) : Res (Ex ((List Int) × (List Int)) Bool)) else (Res.ok (Ex.nx (d526.2.2, s522.2)) : Res (Ex ((List Int) × (List Int)) Bool))).bindE fun s530 => ((t__law_off s530.1 net_here_505.1.1) : Res (Int × (List Int))).bind fun root_533 => (Res.ok (s530.2) : Res (List Int)).bind fun handed_534 => ((t__law_due net_here_505.1 s530.2 root_533.1) : Res (Tp (Tp Int))).bind fun due_here_535 => ((rngR (2 : Int)) : Res (List Int)).bind fun xs543 => (forR (fun (again_536 : Int) (s537 : Unit) => (((t_bent net_here_505.1 handed_534 root_533.1) : Res (Tp (Tp Int))).bind fun found_538 => (((t__law_alike found_538 due_here_535)).bind fun r540 => (if (!r540) = true then Res.ok true else Res.ok ((!decide (handed_534 = s530.2)))) : Res Bool).bind fun d539 => if d539 = true then (Res.ok (false) : Res Bool).bind fun b541 => Res.ok (Ex.rt b541) else Res.ok (Ex.nx ()) : Res (Ex (Unit) Bool))) xs543 ()).bindE fun s542 => Res.ok (Ex.nx root_533.2) : Res (Ex ((List Int)) Bool))) (fun (s504 : (List Int)) => [dv (rs script), dv (ow s504), any, any, any, any, any, any, any, any, jk]) d_502 (TI.cast (ti_rng1 (IE.ge (gv_int _))) (by first | (simp only [Res.bind_ok, Res.bind_assoc, Res.bind_pure, of_sub, id_eq]; done) | rfl)) (tg_name 2) (fun _ => ⟨Nat.le_of_ble_eq_true rfl, trivial⟩) (by exact (.same (.same (.any (.any (.any (.any (.any (.any (.any (.any (.same .nil)))))))))))) (fun turn_503 s504 => (ss_set 3 (fun _ => Nat.le_of_ble_eq_true rfl) (IE.cast (IE.wk (IE.wk (tk_val (ie_callD c__law_net rfl (ga_fr (fz_val (gv_int _)) ga_nil))) (fun b od => rd_fr _ od)) (fun b od => fr_rd _ od)) (by first | (simp only [Res.bind_ok, Res.bind_assoc, Res.bind_pure, of_sub, id_eq]; done) | rfl)) fun net_here_505 => (ss_set 4 (fun _ => Nat.le_of_ble_eq_true rfl) (IE.cast (tk_val (gi_comp (Γl := (fun s509 => [dv (rs script), dv (ow s509), dv (rd turn_503), dv (rd net_here_505.1), any, any, any, any, any, any, jk])) (net_here_505.2) (ct := fun (d510 : (Bool × (Int × (List Int)))) => d510.1) (nx := fun (x506 : Int) (s509 : (List Int)) (d510 : (Bool × (Int × (List Int)))) (e511 : Int) => d510.2.2) (sk := fun (x506 : Int) (s509 : (List Int)) (d510 : (Bool × (Int × (List Int)))) => d510.2.2) (v := (fun (e511 : Int) => e511)) (ti_rng1 (IE.ge (one_g k_lenT (IE.ge (snd_g (ge_var rd (net_here_505.1) (by rfl))))))) (tg_name 10) (by exact .same (.same (.same (.same (.same (.same (.same (.same (.same (.same (.same (.nil)))))))))))) (fun _ => ⟨Nat.le_of_ble_eq_true rfl, trivial⟩) (frc_cons rfl fro_jk frc_nil) (fun _ => rfl) (fun _ => ⟨rfl, trivial⟩) (fun x506 s509 => (it_val (v := fun (q514 : (Bool × (Int × (List Int)))) => q514.1) (two_ig (v := fun (q513 : (Int × (List Int))) => q513.1) (k_eq (by decide)) (ie_callD c__law_off rfl (ga_fr (fz_val (gv_int _)) ga_nil)) (fun _ => (IE.ge (gv_int _)))))) (fun x506 s509 d510 => (tk_var (x506) (by rfl))) (fun x506 s509 d510 e511 => (by exact .same (.same (.same (.same (.same (.same (.same (.same (.same (.same (.same (.nil))))))))))))) (fun x506 s509 d510 => (by exact .same (.same (.same (.same (.same (.same (.same (.same (.same (.same (.same (.nil))))))))))))))) (by first | (simp only [Res.bind_ok, Res.bind_assoc, Res.bind_pure, of_sub, id_eq]; done) | rfl)) fun fallen_516 => (ss_if (Γj := (fun (s522 : (List Int) × (List Int)) => [dv (rs script), dv (ow s522.1), dv (rd turn_503), dv (rd net_here_505.1), dv (ow s522.2), any, any, any, any, any, jk])) (IT.cast (it_val (v := fun (q520 : (Bool × (Int × (List Int)))) => q520.1) (two_ig (v := fun (q518 : (Int × (List Int))) => q518.1) (k_eq (by decide)) (ie_callD c__law_off rfl (ga_fr (fz_val (gv_int _)) ga_nil)) (fun _ => (IE.ge (gv_int _))))) (by first | (simp only [Res.bind_ok, Res.bind_assoc, Res.bind_pure, of_sub, id_eq]; done) | rfl)) (fun d519 => (ss_last (ss_set 4 (fun _ => Nat.le_of_ble_eq_true rfl) (IE.cast (tk_val (gv_lstRg (IE.ge (one_g k_lenT (IE.ge (snd_g (ge_var rd (net_here_505.1) (by rfl)))))))) (by first | (simp only [Res.bind_ok, Res.bind_assoc, Res.bind_pure, of_sub, id_eq]; done) | rfl)) fun fallen_523 => (ss_pass (d519.2.2, fallen_523) (by exact (.same (.same (.same (.same (.same (.any (.any (.any (.any (.any (.same .nil)))))))))))))))) (fun d519 => (ss_pass (d519.2.2, fallen_516.1) (by exact (.same (.same (.same (.same (.same (.any (.any (.any (.any (.any (.same .nil)))))))))))))) fun s522 => (ss_if (Γj := (fun (s530 : (List Int) × (List Int)) => [dv (rs script), dv (ow s530.1), dv (rd turn_503), dv (rd net_here_505.1), dv (ow s530.2), any, any, any, any, any, jk])) (IT.cast (it_val (v := fun (q527 : (Bool × (Int × (List Int)))) => q527.1) (two_ig (v := fun (q525 : (Int × (List Int))) => q525.1) (k_eq (by decide)) (ie_callD c__law_off rfl (ga_fr (fz_val (gv_int _)) ga_nil)) (fun _ => (IE.ge (gv_int _))))) (by first | (simp only [Res.bind_ok, Res.bind_assoc, Res.bind_pure, of_sub, id_eq]; done) | rfl)) (fun d526 => (ss_last (ss_set 4 (fun _ => Nat.le_of_ble_eq_true rfl) (IE.cast (tk_val (ie_callD c__law_mixed_i rfl (ga_fr (fz_val (IE.wk (two_gg k_addL (GE.wk (ge_var ow (s522.2) (by rfl)) (fun b od => ow_rd b od)) (IE.ge (IE.wk (gv_slice (GE.wk (ge_var ow (s522.2) (by rfl)) (fun b od => ow_rd b od)) go_no (go_so (IE.ge (gv_int _)))) (fun b od => ow_rd b od)))) (fun b od => ow_rd b od))) ga_nil))) (by first | (simp only [Res.bind_ok, Res.bind_assoc, Res.bind_pure, of_sub, id_eq]; done) | rfl)) fun fallen_532 => (ss_pass (fallen_532.2, fallen_532.1) (by exact (.same (.same (.same (.same (.same (.any (.any (.any (.any (.any (.same .nil)))))))))))))))) (fun d526 => (ss_pass (d526.2.2, s522.2) (by exact (.same (.same (.same (.same (.same (.any (.any (.any (.any (.any (.same .nil)))))))))))))) fun s530 => (ss_set 5 (fun _ => Nat.le_of_ble_eq_true rfl) (IE.cast (IE.wk (IE.wk (tk_val (ie_callD c__law_off rfl (ga_fr (fz_val (fst_g (ge_var rd (net_here_505.1) (by rfl)))) ga_nil))) (fun b od => rd_fr _ od)) (fun b od => fr_rd _ od)) (by first | (simp only [Res.bind_ok, Res.bind_assoc, Res.bind_pure, of_sub, id_eq]; done) | rfl)) fun root_533 => (ss_set 6 (fun _ => Nat.le_of_ble_eq_true rfl) (IE.cast (tk_val (one_g k_list (GE.wk (ge_var ow (s530.2) (by rfl)) (fun b od => ow_rd b od)))) (by first | (simp only [Res.bind_ok, Res.bind_assoc, Res.bind_pure, of_sub, id_eq]; done) | rfl)) fun handed_534 => (ss_own 4 (s530.2) rfl (ss_set 7 (fun _ => Nat.le_of_ble_eq_true rfl) (IE.cast (IE.wk (IE.wk (tk_val (gv_call c__law_due (ga_fr (lk_rd (net_here_505.1) (by rfl)) (ga_fr (lk_rd (s530.2) (by rfl)) (ga_fr (lk_rd (root_533.1) (by rfl)) ga_nil))))) (fun b od => rd_fr b od)) (fun b od => fr_rd _ od)) (by first | (simp only [Res.bind_ok, Res.bind_assoc, Res.bind_pure, of_sub, id_eq]; done) | rfl)) fun due_here_535 => (ss_own 6 (handed_534) rfl (ss_last (ss_for (fun (again_536 : Int) (s537 : Unit) => (((t_bent net_here_505.1 handed_534 root_533.1) : Res (Tp (Tp Int))).bind fun found_538 => (((t__law_alike found_538 due_here_535)).bind fun r540 => (if (!r540) = true then Res.ok true else Res.ok ((!decide (handed_534 = s530.2)))) : Res Bool).bind fun d539 => if d539 = true then (Res.ok (false) : Res Bool).bind fun b541 => Res.ok (Ex.rt b541) else Res.ok (Ex.nx ()) : Res (Ex (Unit) Bool))) (fun (s537 : Unit) => [dv (rs script), dv (ow root_533.2), dv (rd turn_503), dv (rd net_here_505.1), dv (rd s530.2), dv (rd root_533.1), dv (rd handed_534), dv (rd due_here_535), any, any, jk]) () (TI.cast (ti_rng1 (IE.ge (gv_int _))) (by first | (simp only [Res.bind_ok, Res.bind_assoc, Res.bind_pure, of_sub, id_eq]; done) | rfl)) (tg_name 8) (fun _ => ⟨Nat.le_of_ble_eq_true rfl, trivial⟩) (by exact (.same (.same (.same (.same (.same (.same (.same (.same (.any (.any (.same .nil)))))))))))) (fun again_536 s537 => (ss_set 9 (fun _ => Nat.le_of_ble_eq_true rfl) (IE.cast (IE.wk (IE.wk (tk_val (gv_call c_bent (ga_fr (lk_rd (net_here_505.1) (by rfl)) (ga_fr (lk_rd (handed_534) (by rfl)) (ga_fr (lk_rd (root_533.1) (by rfl)) ga_nil))))) (fun b od => rd_fr b od)) (fun b od => fr_rd _ od)) (by first | (simp only [Res.bind_ok, Res.bind_assoc, Res.bind_pure, of_sub, id_eq]; done) | rfl)) fun found_538 => (ss_last (ss_ifr (IT.cast (gt_or (gt_not (gt_val (IE.ge (gv_call c__law_alike (ga_fr (lk_rd (found_538) (by rfl)) (ga_fr (lk_rd (due_here_535) (by rfl)) ga_nil)))))) (gt_val (IE.ge (two_gg (k_ne (by decide)) (ge_var rd (handed_534) (by rfl)) (ge_var rd (s530.2) (by rfl)))))) (by first | (simp only [Res.bind_ok, Res.bind_assoc, Res.bind_pure, of_sub, id_eq]; done) | rfl)) (fun d539 => (ss_ret (fun b541 => b541) (IE.cast (gv_bool _) (by first | (simp only [Res.bind_ok, Res.bind_assoc, Res.bind_pure, of_sub, id_eq]; done) | rfl)) (fun a od S q _ => q))) fun d539 => (ss_pass () (by exact (.same (.same (.same (.same (.same (.same (.same (.same (.any (.any (.same .nil))))))))))))))))) fun s542 => (ss_pass root_533.2 (by exact (.same (.same (.any (.any (.any (.any (.any (.any (.any (.any (.same .nil))))))))))))))))))))))))) fun s544 => (ss_last (ss_ret (fun b545 => b545) (IE.cast (gv_bool _) (by first | (simp only [Res.bind_ok, Res.bind_assoc, Res.bind_pure, of_sub, id_eq]; done) | rfl)) (fun a od S q _ => q)))))
theorem c_law : TF m_law (fun (a : (List Int) × Unit) => t_law a.1) (fun a => [rs a.1]) (rd : Bool → Pd) := tf_ret (t := fun (a : (List Int) × Unit) => tb_law a.1) fun a => s_law_t a.1
end DL
set_option Elab.async false
set_option linter.all false
set_option maxRecDepth 100000
set_option maxHeartbeats 4000000
namespace DL
open PySem PySem.Spec PyProof.Rows L2
open En (en)
/-! ### typed functions that end well -/
section
variable {α β γ δ σ ρ : Type}
def Good (r : Res α) (P : α → Prop) : Prop := ∃ a, r = .ok a ∧ P a
theorem Good.ok {a : α} {P : α → Prop} (h : P a) : Good (.ok a) P := ⟨a, rfl, h⟩
theorem Good.mono {r : Res α} {P Q : α → Prop} (h : Good r P) (w : ∀ a, P a → Q a) : Good r Q := h.imp fun a q => ⟨q.1, w a q.2⟩
theorem Good.bind {r : Res α} {P : α → Prop} {k : α → Res β} {Q : β → Prop} (h : Good r P) (hk : ∀ a, P a → Good (k a) Q) : Good (r.bind k) Q := by
  obtain ⟨a, rfl, p⟩ := h
  exact hk a p
theorem Good.eq {r : Res α} {a : α} (h : r = .ok a) {k : α → Res β} {Q : β → Prop} (hk : Good (k a) Q) : Good (r.bind k) Q := by
  rw [h]; exact hk
def PE (P : β → Prop) (R : ρ → Prop) : Ex β ρ → Prop
  | .nx b => P b
  | .rt c => R c
abbrev GoodE (r : Res (Ex β ρ)) (P : β → Prop) (R : ρ → Prop) : Prop := Good r (PE P R)
theorem GoodE.nx {b : β} {P : β → Prop} {R : ρ → Prop} (h : P b) : GoodE (.ok (.nx b)) P R := ⟨_, rfl, h⟩
theorem GoodE.rt {c : ρ} {P : β → Prop} {R : ρ → Prop} (h : R c) : GoodE (.ok (.rt c)) P R := ⟨_, rfl, h⟩
theorem GoodE.bindE {r : Res (Ex β ρ)} {P : β → Prop} {R : ρ → Prop} {k : β → Res (Ex γ ρ)} {P' : γ → Prop} (h : GoodE r P R) (hk : ∀ b, P b → GoodE (k b) P' R) : GoodE (r.bindE k) P' R := by
  obtain ⟨e, rfl, p⟩ := h
  cases e with
  | nx b => exact hk b p
  | rt c => exact ⟨_, rfl, p⟩
theorem GoodE.for (I : List α → σ → Prop) {R : ρ → Prop} {b : α → σ → Res (Ex σ ρ)} (hs : ∀ a as x, I (a :: as) x → GoodE (b a x) (I as) R) : ∀ {xs : List α} {x : σ}, I xs x → GoodE (forR b xs x) (I []) R
  | [], x, h => .nx h
  | a :: as, x, h => (hs a as x h).bindE fun y hy => GoodE.for I hs hy
/-- .. with what was done -/
theorem GoodE.forD {xs : List α} (I : List α → σ → Prop) {R : ρ → Prop} {b : α → σ → Res (Ex σ ρ)} {x : σ} (h0 : I [] x) (hs : ∀ a dn as x, xs = dn ++ a :: as → I dn x → GoodE (b a x) (I (dn ++ [a])) R) : GoodE (forR b xs x) (I xs) R := by
  have := GoodE.for (fun as x => ∃ dn, xs = dn ++ as ∧ I dn x) (R := R) (b := b) (fun a as x ⟨dn, e, h⟩ => (hs a dn as x e h).mono fun o ho => by
    cases o with
    | nx y => exact ⟨dn ++ [a], by rw [e, List.append_assoc]; rfl, ho⟩
    | rt c => exact ho) (xs := xs) (x := x) ⟨[], rfl, h0⟩
  exact this.mono fun o ho => by
    cases o with
    | nx y =>
      obtain ⟨dn, e, h⟩ := ho
      rw [List.append_nil] at e
      exact e ▸ h
    | rt c => exact ho
theorem GoodE.while (I : Nat → σ → Prop) {P : σ → Prop} {R : ρ → Prop} {t : σ → Res Bool} {b : σ → Res (Ex σ ρ)} (hs : ∀ n x, I n x → ∃ c, t x = .ok c ∧ (c = false → P x) ∧ (c = true → GoodE (b x) (fun y => ∃ m, m < n ∧ I m y) R)) : ∀ (f : Nat) {n : Nat} {x : σ}, I n x → n < f → GoodE (whileR f t b x) P R
  | 0, n, x, _, h => absurd h (Nat.not_lt_zero _)
  | f + 1, n, x, h, hf => by
    obtain ⟨c, e, h1, h2⟩ := hs n x h
    show GoodE ((t x).bind _) P R
    rw [e]
    cases c with
    | false => exact .nx (h1 rfl)
    | true => exact (h2 rfl).bindE fun y ⟨m, hm, hi⟩ => GoodE.while I hs f hi (by omega)
theorem Good.endR {r : Res (Ex β ρ)} {R : ρ → Prop} (h : GoodE r (fun _ => False) R) : Good (endR r) R := by
  obtain ⟨e, rfl, p⟩ := h
  cases e with
  | nx b => exact p.elim
  | rt c => exact ⟨c, rfl, p⟩
theorem Good.endU {r : Res (Ex β ρ)} {P : β → Prop} (h : GoodE r P (fun _ => False)) : endU r = .ok () := by
  obtain ⟨e, rfl, p⟩ := h
  cases e with
  | nx b => rfl
  | rt c => exact p.elim
theorem Good.guard {b : Bool} {k : Unit → Res α} {P : α → Prop} (h : b = true) (hk : Good (k ()) P) : Good ((guardR b).bind k) P := by
  subst h; exact hk
theorem Good.imp_noR {r : Res α} {P : α → Prop} (h : Good r P) : Good (noR r) P := by
  obtain ⟨a, rfl, p⟩ := h
  exact ⟨a, rfl, p⟩
/-! the operations -/
theorem rngR_ok {j : Int} (h : 0 ≤ j) (h' : j ≤ 1000000) : rngR j = .ok (rng 0 j.toNat) := by
  unfold rngR
  rw [decide_eq_true (show -1000000 ≤ j ∧ j ≤ 1000000 by omega)]
  rfl
theorem rngL_ok {j : Int} (h : 0 ≤ j) (h' : j ≤ 1000000) : rngL j = .ok (rng 0 j.toNat) := by
  unfold rngL
  rw [decide_eq_true (show 0 ≤ j ∧ j ≤ 1000000 by omega)]
  rfl
theorem mem_rng {n : Nat} {i : Int} : i ∈ rng 0 n ↔ 0 ≤ i ∧ i < n := by
  unfold rng
  rw [List.mem_map]
  constructor
  · rintro ⟨j, h, rfl⟩
    have := List.mem_range.mp h
    omega
  · intro ⟨h0, h1⟩
    exact ⟨i.toNat, List.mem_range.mpr (by omega), by omega⟩
theorem rng_len (lo : Int) (n : Nat) : (rng lo n).length = n := by unfold rng; rw [List.length_map, List.length_range]
theorem pMod_ok (i : Int) {j : Int} (h : 0 < j) : Res.of (pMod i j) = .ok (i % j) := by unfold pMod; rw [if_pos h]; rfl
theorem pDiv_ok (i : Int) {j : Int} (h : 0 < j) (h' : j < 1073741824) : Res.of (pDiv i j) = .ok (i / j) := by unfold pDiv; rw [if_pos ⟨h, h'⟩]; rfl
theorem mulI_ok (a : Int) {b : Int} (h : -(2 ^ 64) < b ∧ b < 2 ^ 64) : mulI a b = .ok (a * b) := by
  unfold mulI
  rw [decide_eq_true (Or.inr h)]
  rfl
theorem ixN_ok {n : Nat} {i : Int} (h : 0 ≤ i) (h' : i < n) : ixN n i = some i.toNat := by
  unfold ixN
  rw [if_pos h, if_pos h']
theorem getI_ok {xs : List α} {i : Int} {a : α} (h : 0 ≤ i) (e : xs[i.toNat]? = some a) : getI xs i = .ok a := by
  unfold getI atI
  have := (List.getElem?_eq_some_iff.mp e).1
  rw [ixN_ok h (by omega)]
  show Res.of xs[i.toNat]? = _
  rw [e]
  rfl
theorem getI_in {xs : List α} {i : Int} (h : 0 ≤ i) (h' : i < xs.length) : ∃ a, getI xs i = .ok a ∧ xs[i.toNat]? = some a ∧ a ∈ xs := by
  have hi : i.toNat < xs.length := by omega
  exact ⟨xs[i.toNat], getI_ok h (List.getElem?_eq_getElem hi), List.getElem?_eq_getElem hi, List.getElem_mem hi⟩
theorem appL_ok {xs : List α} {a : α} (h : xs.length < 1000000) : appL xs a = .ok (xs ++ [a]) := by
  unfold appL
  rw [decide_eq_true h]
  rfl
theorem addL_ok {xs ys : List α} (h : xs.length + ys.length < 1000000) : addL xs ys = .ok (xs ++ ys) := by
  unfold addL
  rw [decide_eq_true h]
  rfl
theorem putD_ok {κ υ : Type} [DecidableEq κ] {m : Dc κ υ} {k : κ} {v : υ} (h : m.length < 1000000) : putD m k v = .ok (dp m k v) := by
  unfold putD
  rw [decide_eq_true h]
  rfl
theorem mulL_ok {xs : List α} {j : Int} (h : -1000 ≤ j) (h' : j ≤ 1000) (hl : xs.length ≤ 1000) : mulL xs j = .ok (List.replicate j.toNat xs).flatten := by
  unfold mulL
  rw [decide_eq_true ⟨h, h', hl⟩]
  rfl
theorem setI_ok {xs : List α} {i : Int} {a : α} (h : 0 ≤ i) (h' : i < xs.length) : setI xs i a = .ok (xs.set i.toNat a) := by
  unfold setI
  rw [ixN_ok h h']
  rfl
theorem setII_ok {xs : List (List α)} {i k : Int} {a : α} {ys : List α} (h : 0 ≤ i) (e : xs[i.toNat]? = some ys) (h1 : 0 ≤ k) (h1' : k < ys.length) : setII xs i k a = .ok (xs.set i.toNat (ys.set k.toNat a)) := by
  have := (List.getElem?_eq_some_iff.mp e).1
  unfold setII
  rw [ixN_ok h (by omega)]
  show (Res.of xs[i.toNat]?).bind _ = _
  rw [e]
  show (Res.of (ixN ys.length k)).bind _ = _
  rw [ixN_ok h1 h1']
  rfl
theorem popI_good {xs : List α} {i : Int} (h : 0 ≤ i) (h' : i < xs.length) (hl : xs.length < 1000000) : ∃ a, popI xs i = .ok (a, xs.eraseIdx i.toNat) ∧ xs[i.toNat]? = some a ∧ a ∈ xs := by
  have hi : i.toNat < xs.length := by omega
  refine ⟨xs[i.toNat], ?_, List.getElem?_eq_getElem hi, List.getElem_mem hi⟩
  unfold popI
  rw [ixN_ok h h']
  show (Res.of xs[i.toNat]?).bind _ = _
  rw [List.getElem?_eq_getElem hi, decide_eq_true hl]
  rfl
theorem popI_head {a : α} {xs : List α} (hl : (a :: xs).length < 1000000) : popI (a :: xs) 0 = .ok (a, xs) := by
  obtain ⟨b, e, e2, _⟩ := popI_good (xs := a :: xs) (i := 0) (Int.le_refl _) (by simp only [List.length_cons]; omega) hl
  cases e2
  exact e
theorem compR_ok {t : α → Res Bool} {e : α → Res β} {p : α → Bool} {g : α → β} : ∀ {xs : List α}, (∀ x ∈ xs, t x = .ok (p x)) → (∀ x ∈ xs, p x = true → e x = .ok (g x)) → compR t e xs = .ok ((xs.filter p).map g)
  | [], _, _ => rfl
  | x :: xs, ht, he => by
    have ih := compR_ok (xs := xs) (fun y z => ht y (List.mem_cons_of_mem _ z)) fun y z => he y (List.mem_cons_of_mem _ z)
    show (noR (t x)).bind _ = _
    rw [ht x List.mem_cons_self]
    show (if p x = true then (noR (e x)).bind _ else _) = _
    by_cases q : p x = true
    · rw [if_pos q, he x List.mem_cons_self q, List.filter_cons_of_pos q]
      show (compR t e xs).bind _ = _
      rw [ih]
      rfl
    · rw [if_neg q, List.filter_cons_of_neg q, ih]
theorem compG_ok {xs : List α} {t : α → Res Bool} {e : α → Res β} {p : α → Bool} {g : α → β} (hl : xs.length < 1000000) (ht : ∀ x ∈ xs, t x = .ok (p x)) (he : ∀ x ∈ xs, p x = true → e x = .ok (g x)) : compG xs t e = .ok ((xs.filter p).map g) := by
  unfold compG
  rw [decide_eq_true hl]
  exact compR_ok ht he
theorem compG_all {xs : List α} {t : α → Res Bool} {e : α → Res β} {g : α → β} (hl : xs.length < 1000000) (ht : ∀ x ∈ xs, t x = .ok true) (he : ∀ x ∈ xs, e x = .ok (g x)) : compG xs t e = .ok (xs.map g) := by
  rw [compG_ok (p := fun _ => true) hl ht fun x hx _ => he x hx, List.filter_eq_self.mpr fun _ _ => rfl]
theorem compG_fil {xs : List α} {t : α → Res Bool} {e : α → Res α} {p : α → Bool} (hl : xs.length < 1000000) (ht : ∀ x ∈ xs, t x = .ok (p x)) (he : ∀ x ∈ xs, e x = .ok x) : compG xs t e = .ok (xs.filter p) := by
  rw [compG_ok (g := fun x => x) hl ht fun x hx _ => he x hx, List.map_id']
theorem compS_good {xs : List α} {x0 : σ} {st : α → σ → Res (Option β × σ)} (I : σ → Prop) (P : β → Prop) (hl : xs.length < 1000000) (h0 : I x0) (hs : ∀ a ∈ xs, ∀ x, I x → Good (st a x) fun r => I r.2 ∧ ∀ b, r.1 = some b → P b) : Good (compS xs x0 st) fun r => I r.2 ∧ (∀ y ∈ r.1, P y) ∧ r.1.length ≤ xs.length := by
  unfold compS
  refine Good.guard (decide_eq_true hl) ?_
  clear hl
  induction xs generalizing x0 with
  | nil => exact .ok ⟨h0, fun _ z => (nomatch z), Nat.le_refl _⟩
  | cons a as ih =>
    show Good ((noR (st a x0)).bind _) _
    obtain ⟨r, e, h1, h2⟩ := hs a List.mem_cons_self x0 h0
    rw [e]
    show Good ((compSR st as r.2).bind _) _
    refine (ih h1 fun b hb => hs b (List.mem_cons_of_mem _ hb)).bind fun s ⟨q1, q2, q3⟩ => .ok ?_
    obtain ⟨o, r2⟩ := r
    cases o with
    | none => exact ⟨q1, q2, Nat.le_succ_of_le q3⟩
    | some b =>
      refine ⟨q1, fun y hy => ?_, Nat.succ_le_succ q3⟩
      rcases List.mem_cons.mp hy with rfl | hy
      · exact h2 y rfl
      · exact q2 y hy
end
end DL
set_option Elab.async false
set_option linter.all false
set_option maxRecDepth 100000
set_option maxHeartbeats 4000000
namespace DL
open PySem PySem.Spec PyProof.Rows L2
abbrev KM := List (Int × Int)
def rngI (m : Nat) : List Int := (List.range m).map fun i : Nat => (i : Int)
theorem mem_rngI {m : Nat} {i : Int} : i ∈ rngI m ↔ 0 ≤ i ∧ i < m := by
  unfold rngI
  rw [List.mem_map]
  constructor
  · rintro ⟨j, h, rfl⟩
    have := List.mem_range.mp h
    omega
  · intro ⟨h0, h1⟩
    exact ⟨i.toNat, List.mem_range.mpr (by omega), by omega⟩
theorem rngI_len (m : Nat) : (rngI m).length = m := by unfold rngI; rw [List.length_map, List.length_range]
def gt (m : KM) (k : Int) : Option Int := (m.find? fun p => decide (p.1 = k)).map (·.2)
def pt (m : KM) (k v : Int) : KM := if (m.any fun p => decide (p.1 = k)) = true then m.map (fun p => if p.1 = k then (p.1, v) else p) else m ++ [(k, v)]
theorem gt_none {m : KM} {k : Int} : gt m k = none ↔ (m.any fun p => decide (p.1 = k)) = false := by
  unfold gt
  rw [Option.map_eq_none_iff, List.find?_eq_none, List.any_eq_false]
theorem gt_app {m : KM} {k v j : Int} (h : gt m k = none) : gt (m ++ [(k, v)]) j = if j = k then some v else gt m j := by
  unfold gt at *
  rw [List.find?_append]
  by_cases e : j = k
  · subst e
    rw [if_pos rfl, Option.map_eq_none_iff.mp h]
    simp
  · rw [if_neg e]
    have : ¬ k = j := fun z => e z.symm
    simp [this]
theorem gt_pt (m : KM) (k v j : Int) : gt (pt m k v) j = if j = k then some v else gt m j := by
  by_cases h : (m.any fun p => decide (p.1 = k)) = true
  · unfold pt
    rw [if_pos h]
    by_cases e : j = k
    · subst e
      rw [if_pos rfl]
      unfold gt
      induction m with
      | nil => cases h
      | cons p m ih =>
        rw [List.map_cons, List.find?_cons]
        by_cases q : p.1 = j
        · simp [q]
        · simp only [q, if_false, decide_false]
          refine ih ?_
          rw [List.any_cons, decide_eq_false q, Bool.false_or] at h
          exact h
    · rw [if_neg e]
      unfold gt
      clear h
      induction m with
      | nil => rfl
      | cons p m ih =>
        rw [List.map_cons, List.find?_cons, List.find?_cons]
        by_cases q : p.1 = k
        · have : ¬ k = j := fun z => e z.symm
          simp only [q, if_true, this, decide_false]
          exact ih
        · by_cases q2 : p.1 = j
          · rw [if_neg q]
            simp [q2]
          · rw [if_neg q, decide_eq_false q2]
            exact ih
  · have e : pt m k v = m ++ [(k, v)] := if_neg h
    rw [e, gt_app (gt_none.mpr (by rw [Bool.not_eq_true] at h; exact h))]
theorem gt_mem {m : KM} {k : Int} : (gt m k).isSome = true ↔ k ∈ m.map Prod.fst := by
  unfold gt
  rw [Option.isSome_map, List.find?_isSome]
  constructor
  · rintro ⟨p, h, e⟩
    exact List.mem_map.mpr ⟨p, h, of_decide_eq_true e⟩
  · intro h
    obtain ⟨p, h, e⟩ := List.mem_map.mp h
    exact ⟨p, h, decide_eq_true e⟩
theorem pt_nodup {m : KM} (k v : Int) (h : (m.map Prod.fst).Nodup) : ((pt m k v).map Prod.fst).Nodup := by
  unfold pt
  by_cases q : (m.any fun p => decide (p.1 = k)) = true
  · rw [if_pos q, List.map_map]
    have : (m.map (Prod.fst ∘ fun p => if p.1 = k then (p.1, v) else p)) = m.map Prod.fst := List.map_congr_left fun p _ => by
      simp only [Function.comp]
      split <;> rfl
    rw [this]
    exact h
  · rw [if_neg q, List.map_append]
    refine List.nodup_append.mpr ⟨h, by simp, fun a ha b hb e => q ?_⟩
    rw [List.map_singleton, List.mem_singleton] at hb
    subst hb e
    obtain ⟨p, hp, e⟩ := List.mem_map.mp ha
    exact List.any_eq_true.mpr ⟨p, hp, decide_eq_true e⟩
theorem pt_len (m : KM) (k v : Int) : (pt m k v).length ≤ m.length + 1 := by
  unfold pt
  split
  · rw [List.length_map]; omega
  · rw [List.length_append]; exact Nat.le_refl _


/-! ### distances, with no program in sight -/
structure Dist (es : List (Int × Int)) (K D : Int → Option Int) : Prop where
  base : ∀ v x, K v = some x → D v = some x
  clos : ∀ u v x, (u, v) ∈ es → K v = none → D u = some x → ∃ y, D v = some y ∧ y ≤ x + 1
  supp : ∀ v y, D v = some y → K v = none → ∃ u, (u, v) ∈ es ∧ D u = some (y - 1)
  nn : ∀ v y, D v = some y → 0 ≤ y
section
variable {es : List (Int × Int)} {K D D' : Int → Option Int}
theorem Dist.le (h : Dist es K D) (h' : Dist es K D') : ∀ (m : Nat) (v y : Int), D v = some y → y < m → ∃ y', D' v = some y' ∧ y' ≤ y
  | 0, v, y, e, hm => by have := h.nn v y e; omega
  | m + 1, v, y, e, hm => by
    cases hK : K v with
    | some x =>
      have e1 := h.base v x hK
      rw [e] at e1
      exact ⟨y, by rw [h'.base v x hK, ← e1], Int.le_refl _⟩
    | none =>
      obtain ⟨u, hu, e1⟩ := h.supp v y e hK
      obtain ⟨z, e2, hz⟩ := Dist.le h h' m u (y - 1) e1 (by omega)
      obtain ⟨y', e3, h3⟩ := h'.clos u v z hu hK e2
      exact ⟨y', e3, by omega⟩
theorem Dist.uniq (h : Dist es K D) (h' : Dist es K D') : D = D' := by
  have key : ∀ {D D' : Int → Option Int}, Dist es K D → Dist es K D' → ∀ v y, D v = some y → ∃ y', D' v = some y' ∧ y' ≤ y := fun h h' v y e => by
    have := h.nn v y e
    exact Dist.le h h' (y.toNat + 1) v y e (by omega)
  funext v
  cases e : D v with
  | none =>
    cases e' : D' v with
    | none => rfl
    | some y =>
      obtain ⟨z, e2, _⟩ := key h' h v y e'
      rw [e] at e2
      cases e2
  | some y =>
    obtain ⟨z, e2, h2⟩ := key h h' v y e
    obtain ⟨w, e3, h3⟩ := key h' h v z e2
    rw [e] at e3
    cases e3
    rw [e2, Int.le_antisymm h2 h3]
/-- one tie, relaxed -/
def rx (P : Int → Bool) (L : KM) (e : Int × Int) : KM := match gt L e.1 with
  | none => L
  | some x => if P e.2 = true then pt L e.2 (if x + 1 < (gt L e.2).getD 99 then x + 1 else (gt L e.2).getD 99) else L
def rounds (P : Int → Bool) (es : List (Int × Int)) : Nat → KM → KM
  | 0, L => L
  | r + 1, L => rounds P es r (es.foldl (rx P) L)
structure RxOk (P : Int → Bool) (es : List (Int × Int)) (K D : Int → Option Int) : Prop extends Dist es K D where
  small : ∀ v y, D v = some y → y < 99
  cl : ∀ u v x, (u, v) ∈ es → P v = true → D u = some x → ∃ y, D v = some y ∧ y ≤ x + 1
  free : ∀ v, K v = none → P v = true
def Low (D : Int → Option Int) (L : KM) : Prop := ∀ v x, gt L v = some x → ∃ y, D v = some y ∧ y ≤ x
variable {P : Int → Bool}
theorem rx_low (h : RxOk P es K D) {L : KM} (l : Low D L) {e : Int × Int} (he : e ∈ es) : Low D (rx P L e) := by
  obtain ⟨u, v⟩ := e
  unfold rx
  cases e1 : gt L u with
  | none => exact l
  | some x =>
    dsimp only
    by_cases hp : P v = true
    · rw [if_pos hp]
      intro w z hz
      rw [gt_pt] at hz
      by_cases q : w = v
      · rw [if_pos q] at hz
        subst q
        obtain ⟨y, e2, h2⟩ := l u x e1
        obtain ⟨y', e3, h3⟩ := h.cl u w y he hp e2
        refine ⟨y', e3, ?_⟩
        have := h.small w y' e3
        have hz' := Option.some.inj hz
        cases e4 : gt L w with
        | none =>
          rw [e4] at hz'
          simp only [Option.getD_none] at hz'
          split at hz' <;> omega
        | some g =>
          rw [e4] at hz'
          simp only [Option.getD_some] at hz'
          obtain ⟨y2, e5, h5⟩ := l w g e4
          rw [e3] at e5
          cases e5
          split at hz' <;> omega
      · rw [if_neg q] at hz
        exact l w z hz
    · rw [if_neg hp]; exact l
/-- what is exact stays so -/
theorem rx_keep (h : RxOk P es K D) {L : KM} (l : Low D L) {e : Int × Int} (he : e ∈ es) {w y : Int} (hw : D w = some y) (ex : gt L w = some y) : gt (rx P L e) w = some y := by
  have l2 := rx_low h l he
  have mono : ∃ z, gt (rx P L e) w = some z ∧ z ≤ y := by
    obtain ⟨u, v⟩ := e
    unfold rx
    cases e1 : gt L u with
    | none => exact ⟨y, ex, Int.le_refl _⟩
    | some x =>
      dsimp only
      by_cases hp : P v = true
      · rw [if_pos hp, gt_pt]
        by_cases q : w = v
        · rw [if_pos q]
          subst q
          refine ⟨_, rfl, ?_⟩
          rw [ex]
          simp only [Option.getD_some]
          split <;> omega
        · rw [if_neg q]; exact ⟨y, ex, Int.le_refl _⟩
      · rw [if_neg hp]; exact ⟨y, ex, Int.le_refl _⟩
  obtain ⟨z, e1, h1⟩ := mono
  obtain ⟨y', e2, h2⟩ := l2 w z e1
  rw [hw] at e2
  cases e2
  rw [e1, Int.le_antisymm h1 h2]
theorem rx_hit (h : RxOk P es K D) {L : KM} (l : Low D L) {u v y : Int} (he : (u, v) ∈ es) (hp : P v = true) (hu : gt L u = some (y - 1)) (hv : D v = some y) : gt (rx P L (u, v)) v = some y := by
  have l2 := rx_low h l he
  have mono : ∃ z, gt (rx P L (u, v)) v = some z ∧ z ≤ y := by
    unfold rx
    rw [hu]
    dsimp only
    rw [if_pos hp, gt_pt, if_pos rfl]
    exact ⟨_, rfl, by split <;> omega⟩
  obtain ⟨z, e1, h1⟩ := mono
  obtain ⟨y', e2, h2⟩ := l2 v z e1
  rw [hv] at e2
  cases e2
  rw [e1, Int.le_antisymm h1 h2]
theorem fold_low (h : RxOk P es K D) : ∀ {fs : List (Int × Int)} {L : KM}, (∀ e ∈ fs, e ∈ es) → Low D L → Low D (fs.foldl (rx P) L)
  | [], L, _, l => l
  | e :: fs, L, hs, l => fold_low h (fs := fs) (fun e z => hs e (List.mem_cons_of_mem _ z)) (rx_low h l (hs e List.mem_cons_self))
theorem fold_keep (h : RxOk P es K D) {w y : Int} (hw : D w = some y) : ∀ {fs : List (Int × Int)} {L : KM}, (∀ e ∈ fs, e ∈ es) → Low D L → gt L w = some y → gt (fs.foldl (rx P) L) w = some y
  | [], L, _, l, ex => ex
  | e :: fs, L, hs, l, ex => fold_keep h hw (fs := fs) (fun e z => hs e (List.mem_cons_of_mem _ z)) (rx_low h l (hs e List.mem_cons_self)) (rx_keep h l (hs e List.mem_cons_self) hw ex)
theorem fold_hit (h : RxOk P es K D) {u v y : Int} (hp : P v = true) (hu' : D u = some (y - 1)) (hv : D v = some y) : ∀ {fs : List (Int × Int)} {L : KM}, (∀ e ∈ fs, e ∈ es) → (u, v) ∈ fs → Low D L → gt L u = some (y - 1) → gt (fs.foldl (rx P) L) v = some y
  | [], L, _, hm, l, ex => nomatch hm
  | e :: fs, L, hs, hm, l, ex => by
    have he := hs e List.mem_cons_self
    have hs' := fun e z => hs e (List.mem_cons_of_mem _ z)
    rcases List.mem_cons.mp hm with q | q
    · subst q
      exact fold_keep (fs := fs) (L := rx P L (u, v)) h hv hs' (rx_low h l he) (rx_hit h l he hp ex hv)
    · exact fold_hit h hp hu' hv (fs := fs) hs' q (rx_low h l he) (rx_keep h l he hu' ex)
theorem rounds_ex (h : RxOk P es K D) : ∀ (r s : Nat) {L : KM}, Low D L → (∀ v y, D v = some y → (K v ≠ none ∨ y ≤ s) → gt L v = some y) → Low D (rounds P es r L) ∧ ∀ v y, D v = some y → (K v ≠ none ∨ y ≤ ((s + r : Nat) : Int)) → gt (rounds P es r L) v = some y
  | 0, s, L, l, ex => ⟨l, ex⟩
  | r + 1, s, L, l, ex => by
    have := rounds_ex h r (s + 1) (L := es.foldl (rx P) L) (fold_low h (fun _ z => z) l) fun v y hv hy => by
      by_cases q : K v ≠ none ∨ y ≤ s
      · exact fold_keep h hv (fun _ z => z) l (ex v y hv q)
      · have hK : K v = none := Classical.byContradiction fun z => q (.inl z)
        obtain ⟨u, hu, e1⟩ := h.supp v y hv hK
        have hy2 : y ≤ (s + 1 : Nat) := hy.resolve_left fun z => z hK
        exact fold_hit h (h.free v hK) e1 hv (fun _ z => z) hu l (ex u (y - 1) e1 (.inr (by omega)))
    rw [show s + (r + 1) = s + 1 + r by omega]
    exact this
/-- n rounds find every distance -/
theorem rounds_all (h : RxOk P es K D) {n : Nat} (hn : ∀ v y, D v = some y → y ≤ n) {L : KM} (hL : ∀ v, gt L v = K v) : ∀ v, gt (rounds P es n L) v = D v := by
  obtain ⟨l, ex⟩ := rounds_ex h n 0 (L := L) (fun v x e => by
    rw [hL] at e
    exact ⟨x, h.base v x e, Int.le_refl _⟩) (fun v y hv hy => by
    cases hK : K v with
    | some x =>
      have e := h.base v x hK
      rw [hv] at e
      rw [hL, hK, ← e]
    | none =>
      obtain ⟨u, _, e1⟩ := h.supp v y hv hK
      have := h.nn u _ e1
      have := hy.resolve_left fun z => z hK
      omega)
  intro v
  cases e : D v with
  | some y => exact ex v y e (.inr (by have := hn v y e; omega))
  | none =>
    cases e1 : gt (rounds P es n L) v with
    | none => rfl
    | some x =>
      obtain ⟨y, e2, _⟩ := l v x e1
      rw [e] at e2
      cases e2
end
theorem nodup_len : ∀ {l m : List Int}, l.Nodup → (∀ x ∈ l, x ∈ m) → l.length ≤ m.length
  | [], m, _, _ => Nat.zero_le _
  | x :: l, m, nd, h => by
    have nd' := List.nodup_cons.mp nd
    have hx := h x List.mem_cons_self
    have := nodup_len (l := l) (m := m.erase x) nd'.2 fun y hy => (List.mem_erase_of_ne (fun e => nd'.1 (by rw [← e]; exact hy))).mpr (h y (List.mem_cons_of_mem _ hy))
    rw [List.length_erase_of_mem hx] at this
    have := List.length_pos_of_mem hx
    simp only [List.length_cons]
    omega
structure KOk (n : Int) (L : KM) : Prop where
  nd : (L.map Prod.fst).Nodup
  rg : ∀ k ∈ L.map Prod.fst, 0 ≤ k ∧ k < n
theorem KOk.len {n : Int} {L : KM} (h : KOk n L) (h1 : n ≤ 8) : L.length ≤ 8 := by
  have := nodup_len (m := rngI n.toNat) h.nd fun x hx => mem_rngI.mpr (by have := h.rg x hx; omega)
  rw [List.length_map, rngI_len] at this
  omega
theorem KOk.pt {n : Int} {L : KM} (h : KOk n L) {k : Int} (v : Int) (h0 : 0 ≤ k ∧ k < n) : KOk n (pt L k v) := by
  refine ⟨pt_nodup k v h.nd, fun j hj => ?_⟩
  have := gt_mem.mpr hj
  rw [gt_pt] at this
  by_cases q : j = k
  · rw [q]; exact h0
  · rw [if_neg q] at this
    exact h.rg j (gt_mem.mp this)
theorem KOk.rx {n : Int} {L : KM} (h : KOk n L) {P : Int → Bool} {e : Int × Int} (h0 : 0 ≤ e.2 ∧ e.2 < n) : KOk n (rx P L e) := by
  unfold DL.rx
  cases gt L e.1 with
  | none => exact h
  | some x =>
    dsimp only
    split
    · exact h.pt _ h0
    · exact h
def lv (here x : Int) (a : KM × List Int) (e : Int × Int) : KM × List Int := if e.1 = here ∧ (gt a.1 e.2).isSome = false then (pt a.1 e.2 (x + 1), a.2 ++ [e.2]) else a


/-- the search by levels, between two houses; `c` is the house in hand with its distance, `dn` its ties seen -/
structure Mid (n : Int) (es : List (Int × Int)) (root c x : Int) (dn : List (Int × Int)) (F : KM) (w : List Int) : Prop where
  kok : KOk n F
  base : gt F root = some 0
  here : gt F c = some x
  wq : ∀ v ∈ w, ∃ y, gt F v = some y ∧ x ≤ y
  sorted : w.Pairwise fun a b => ∀ p q, gt F a = some p → gt F b = some q → p ≤ q
  top : ∀ v y, gt F v = some y → y ≤ x + 1
  clos : ∀ u v p, (u, v) ∈ es → gt F u = some p → u ∉ w → u ≠ c → ∃ y, gt F v = some y ∧ y ≤ p + 1
  closc : ∀ v, (c, v) ∈ dn → ∃ y, gt F v = some y ∧ y ≤ x + 1
  supp : ∀ v y, gt F v = some y → (v = root ∧ y = 0) ∨ ∃ u, (u, v) ∈ es ∧ gt F u = some (y - 1)
  nn : ∀ v y, gt F v = some y → 0 ≤ y ∧ y < F.length
theorem pt_new {m : KM} {k v : Int} (h : (gt m k).isSome = false) : pt m k v = m ++ [(k, v)] := by
  unfold pt
  rw [if_neg]
  rw [Bool.not_eq_true]
  refine gt_none.mp ?_
  cases e : gt m k with
  | none => rfl
  | some _ => rw [e] at h; cases h
theorem Mid.step {n root c x : Int} {es dn : List (Int × Int)} {F : KM} {w : List Int} (h : Mid n es root c x dn F w) {e : Int × Int} (he : e ∈ es) (h0 : 0 ≤ e.2 ∧ e.2 < n) : Mid n es root c x (dn ++ [e]) (lv c x (F, w) e).1 (lv c x (F, w) e).2 := by
  obtain ⟨u, v⟩ := e
  unfold lv
  by_cases q : u = c ∧ (gt F v).isSome = false
  · rw [if_pos q]
    obtain ⟨rfl, q⟩ := q
    have hv : gt F v = none := by
      cases e : gt F v with
      | none => rfl
      | some _ => rw [e] at q; cases q
    have keep : ∀ a y, gt F a = some y → gt (pt F v (x + 1)) a = some y := fun a y ha => by
      rw [gt_pt, if_neg]
      · exact ha
      · intro z; subst z; rw [hv] at ha; cases ha
    have back : ∀ a y, gt (pt F v (x + 1)) a = some y → (a = v ∧ y = x + 1) ∨ gt F a = some y := fun a y ha => by
      rw [gt_pt] at ha
      by_cases z : a = v
      · rw [if_pos z] at ha; exact .inl ⟨z, (Option.some.inj ha).symm⟩
      · rw [if_neg z] at ha; exact .inr ha
    have hn : gt (pt F v (x + 1)) v = some (x + 1) := by rw [gt_pt, if_pos rfl]
    have ln : (pt F v (x + 1)).length = F.length + 1 := by rw [pt_new q, List.length_append]; rfl
    refine ⟨h.kok.pt _ h0, keep _ _ h.base, keep _ _ h.here, ?_, ?_, ?_, ?_, ?_, ?_, ?_⟩
    · intro a ha
      rcases List.mem_append.mp ha with z | z
      · obtain ⟨y, e1, e2⟩ := h.wq a z
        exact ⟨y, keep _ _ e1, e2⟩
      · rw [List.mem_singleton.mp z]
        exact ⟨x + 1, hn, by omega⟩
    · refine List.pairwise_append.mpr ⟨?_, List.pairwise_singleton _ _, ?_⟩
      · refine List.Pairwise.imp_of_mem ?_ h.sorted
        intro a b ha hb r p s hp hs
        obtain ⟨p', e1, _⟩ := h.wq a ha
        obtain ⟨s', e2, _⟩ := h.wq b hb
        have := keep _ _ e1
        rw [hp] at this; cases this
        have := keep _ _ e2
        rw [hs] at this; cases this
        exact r p s e1 e2
      · intro a ha b hb p s hp hs
        rw [List.mem_singleton.mp hb, hn] at hs
        cases hs
        obtain ⟨p', e1, _⟩ := h.wq a ha
        have := keep _ _ e1
        rw [hp] at this; cases this
        exact h.top a p e1
    · intro a y ha
      rcases back a y ha with ⟨_, z⟩ | z
      · omega
      · exact h.top a y z
    · intro a b p hab ha hw hc
      have hw' : a ∉ w := fun z => hw (List.mem_append_left _ z)
      have hav : a ≠ v := fun z => hw (List.mem_append_right _ (List.mem_singleton.mpr z))
      have ha' : gt F a = some p := (back a p ha).resolve_left fun z => hav z.1
      obtain ⟨y, e1, e2⟩ := h.clos a b p hab ha' hw' hc
      exact ⟨y, keep _ _ e1, e2⟩
    · intro b hb
      rcases List.mem_append.mp hb with z | z
      · obtain ⟨y, e1, e2⟩ := h.closc b z
        exact ⟨y, keep _ _ e1, e2⟩
      · have := List.mem_singleton.mp z
        cases this
        exact ⟨x + 1, hn, Int.le_refl _⟩
    · intro a y ha
      rcases back a y ha with ⟨z1, z2⟩ | z
      · subst z1
        exact .inr ⟨u, he, by rw [z2, show x + 1 - 1 = x by omega]; exact keep _ _ h.here⟩
      · rcases h.supp a y z with z | ⟨b, e1, e2⟩
        · exact .inl z
        · exact .inr ⟨b, e1, keep _ _ e2⟩
    · intro a y ha
      rw [ln]
      have := h.nn u x h.here
      rcases back a y ha with ⟨_, z⟩ | z
      · omega
      · have := h.nn a y z
        omega
  · rw [if_neg q]
    refine { h with closc := fun b hb => ?_ }
    rcases List.mem_append.mp hb with z | z
    · exact h.closc b z
    · have := List.mem_singleton.mp z
      cases this
      cases e : gt F v with
      | none => exact absurd ⟨rfl, by rw [e]; rfl⟩ q
      | some y => exact ⟨y, rfl, h.top v y e⟩


structure Bfs (n : Int) (es : List (Int × Int)) (root : Int) (F : KM) (w : List Int) : Prop where
  kok : KOk n F
  base : gt F root = some 0
  wq : ∀ v ∈ w, ∃ y, gt F v = some y
  sorted : w.Pairwise fun a b => ∀ p q, gt F a = some p → gt F b = some q → p ≤ q
  head : ∀ a r, w = a :: r → ∀ x, gt F a = some x → ∀ v y, gt F v = some y → y ≤ x + 1
  clos : ∀ u v p, (u, v) ∈ es → gt F u = some p → u ∉ w → ∃ y, gt F v = some y ∧ y ≤ p + 1
  supp : ∀ v y, gt F v = some y → (v = root ∧ y = 0) ∨ ∃ u, (u, v) ∈ es ∧ gt F u = some (y - 1)
  nn : ∀ v y, gt F v = some y → 0 ≤ y ∧ y < F.length
section
variable {n root c x : Int} {es dn : List (Int × Int)} {F : KM} {w : List Int}
theorem Bfs.pop (h : Bfs n es root F (c :: w)) (hx : gt F c = some x) : Mid n es root c x [] F w := by
  obtain ⟨p1, p2⟩ := List.pairwise_cons.mp h.sorted
  refine ⟨h.kok, h.base, hx, fun v hv => ?_, p2, h.head c w rfl x hx, fun u v p hu hp hw hc => h.clos u v p hu hp fun z => ?_, fun v hv => (nomatch hv), h.supp, h.nn⟩
  · obtain ⟨y, e⟩ := h.wq v (List.mem_cons_of_mem _ hv)
    exact ⟨y, e, p1 v hv x y hx e⟩
  · rcases List.mem_cons.mp z with z | z
    · exact hc z
    · exact hw z
theorem Mid.bfs (h : Mid n es root c x es F w) : Bfs n es root F w := by
  refine ⟨h.kok, h.base, fun v hv => (h.wq v hv).imp fun y z => z.1, h.sorted, fun a r e p hp v y hv => ?_, fun u v p hu hp hw => ?_, h.supp, h.nn⟩
  · obtain ⟨p', e1, e2⟩ := h.wq a (by rw [e]; exact List.mem_cons_self)
    rw [hp] at e1
    cases e1
    have := h.top v y hv
    omega
  · by_cases q : u = c
    · subst q
      have := h.here
      rw [hp] at this
      cases this
      exact h.closc v hu
    · exact h.clos u v p hu hp hw q
theorem Mid.fold : ∀ {post : List (Int × Int)} {dn : List (Int × Int)} {a : KM × List Int}, Mid n es root c x dn a.1 a.2 → (∀ e ∈ post, e ∈ es ∧ 0 ≤ e.2 ∧ e.2 < n) → Mid n es root c x (dn ++ post) (post.foldl (lv c x) a).1 (post.foldl (lv c x) a).2
  | [], dn, a, h, _ => by rw [List.append_nil]; exact h
  | e :: post, dn, a, h, hp => by
    obtain ⟨q1, q2⟩ := hp e List.mem_cons_self
    have := Mid.fold (post := post) (h.step q1 q2) fun e z => hp e (List.mem_cons_of_mem _ z)
    rw [List.append_assoc] at this
    exact this
theorem lv_len (a : KM × List Int) (e : Int × Int) : (lv c x a e).1.length + a.2.length = a.1.length + (lv c x a e).2.length := by
  unfold lv
  split
  · rename_i h
    rw [pt_new h.2, List.length_append, List.length_append]
    simp only [List.length_cons, List.length_nil]
    omega
  · rfl
theorem fold_len : ∀ (post : List (Int × Int)) (a : KM × List Int), (post.foldl (lv c x) a).1.length + a.2.length = a.1.length + (post.foldl (lv c x) a).2.length
  | [], a => rfl
  | e :: post, a => by
    have h1 := fold_len post (lv c x a e)
    have h2 := lv_len (c := c) (x := x) a e
    rw [List.foldl_cons]
    omega
theorem Bfs.dist (h : Bfs n es root F []) : Dist es (fun v => if v = root then some 0 else none) (gt F) := by
  refine ⟨fun v x e => ?_, fun u v x hu _ hx => h.clos u v x hu hx fun z => (nomatch z), fun v y e hk => ?_, fun v y e => (h.nn v y e).1⟩
  · by_cases q : v = root
    · rw [if_pos q] at e
      cases e
      rw [q]
      exact h.base
    · rw [if_neg q] at e
      cases e
  · rcases h.supp v y e with ⟨z, _⟩ | z
    · rw [if_pos z] at hk
      cases hk
    · exact z
theorem Bfs.start (h0 : 0 ≤ root) (h1 : root < n) : Bfs n es root [(root, 0)] [root] := by
  have g : ∀ v y, gt [(root, 0)] v = some y → v = root ∧ y = 0 := fun v y e => by
    unfold gt at e
    by_cases q : root = v
    · simp [q] at e; exact ⟨q.symm, e.symm⟩
    · simp [q] at e
  have b : gt [(root, 0)] root = some 0 := by unfold gt; simp
  refine ⟨⟨by simp, fun k hk => by simp at hk; subst hk; exact ⟨h0, h1⟩⟩, b, fun v hv => ⟨0, by rw [List.mem_singleton.mp hv]; exact b⟩, List.pairwise_singleton _ _, fun a r e x hx v y hv => ?_, fun u v p _ hp hw => absurd (by rw [(g u p hp).1]; exact List.mem_singleton.mpr rfl) hw, fun v y e => .inl (g v y e), fun v y e => ?_⟩
  · have := (g a x hx).2
    have := (g v y hv).2
    omega
  · have := (g v y e).2
    simp only [List.length_cons, List.length_nil]
    omega
end

theorem KOk.lenN {n : Int} {L : KM} (h : KOk n L) : L.length ≤ n.toNat := by
  have := nodup_len (m := rngI n.toNat) h.nd fun x hx => mem_rngI.mpr (by have := h.rg x hx; omega)
  rwa [List.length_map, rngI_len] at this
theorem near_eq {n r : Int} (hn : n ≤ 8) {es : List (Int × Int)} {F : KM} (hB : Bfs n es r F []) : ∀ v, gt (rounds (fun _ => true) es n.toNat [(r, 0)]) v = gt F v := by
  have hl := hB.kok.lenN
  refine rounds_all (K := fun v => if v = r then some 0 else none) (D := gt F) ⟨hB.dist, fun v y e => ?_, fun u v x hu _ hx => hB.clos u v x hu hx fun z => (nomatch z), fun _ _ => rfl⟩ (fun v y e => ?_) fun v => ?_
  · have := hB.nn v y e
    omega
  · have := hB.nn v y e
    omega
  · unfold gt
    by_cases q : v = r
    · simp [q]
    · have : ¬ r = v := fun z => q z.symm
      simp [q, this]
def rc (K : KM) (a : KM × Bool) (e : Int × Int) : KM × Bool := match gt a.1 e.2 with
  | none => a
  | some y => if (gt K e.1).isSome = false ∧ y + 1 < (gt a.1 e.1).getD 99 then (pt a.1 e.1 (y + 1), true) else a


theorem sum_le {f g : Int → Nat} : ∀ {l : List Int}, (∀ v ∈ l, f v ≤ g v) → (l.map f).sum ≤ (l.map g).sum
  | [], _ => Nat.le_refl _
  | v :: l, h => by
    have h1 := h v List.mem_cons_self
    have h2 := sum_le (l := l) fun u z => h u (List.mem_cons_of_mem _ z)
    simp only [List.map_cons, List.sum_cons]
    omega
theorem sum_lt {f g : Int → Nat} : ∀ {l : List Int}, (∀ v ∈ l, f v ≤ g v) → (∃ v ∈ l, f v < g v) → (l.map f).sum < (l.map g).sum
  | [], _, ⟨_, h, _⟩ => nomatch h
  | v :: l, h, ⟨u, hu, hl⟩ => by
    have h1 := h v List.mem_cons_self
    simp only [List.map_cons, List.sum_cons]
    rcases List.mem_cons.mp hu with rfl | hu
    · have := sum_le (l := l) fun w z => h w (List.mem_cons_of_mem _ z)
      omega
    · have := sum_lt (l := l) (fun w z => h w (List.mem_cons_of_mem _ z)) ⟨u, hu, hl⟩
      omega
theorem sum_bd {f : Int → Nat} {b : Nat} : ∀ {l : List Int}, (∀ v ∈ l, f v ≤ b) → (l.map f).sum ≤ b * l.length
  | [], _ => Nat.le_refl _
  | v :: l, h => by
    have h1 := h v List.mem_cons_self
    have h2 := sum_bd (l := l) fun u z => h u (List.mem_cons_of_mem _ z)
    simp only [List.map_cons, List.sum_cons, List.length_cons, Nat.mul_add, Nat.mul_one]
    omega
def mass (n : Int) (F : KM) : Nat := ((rngI n.toNat).map fun v => ((gt F v).getD 99).toNat).sum
theorem pt_len2 {m : KM} {k v : Int} : (pt m k v).length = if (gt m k).isSome = true then m.length else m.length + 1 := by
  cases e : (gt m k).isSome with
  | false => rw [if_neg Bool.false_ne_true, pt_new e, List.length_append]; rfl
  | true =>
    rw [if_pos rfl]
    unfold pt
    rw [if_pos, List.length_map]
    by_cases q : (m.any fun p => decide (p.1 = k)) = true
    · exact q
    · rw [Bool.not_eq_true] at q
      rw [gt_none.mpr q] at e
      cases e
/-- found, while `reached` works: es holds (begin, end) -/
structure Rv (n : Int) (es : List (Int × Int)) (K1 : Int → Option Int) (F : KM) : Prop where
  kok : KOk n F
  base : ∀ v x, K1 v = some x → gt F v = some x
  wsup : ∀ v y, gt F v = some y → K1 v = none → ∃ u z, (v, u) ∈ es ∧ gt F u = some z ∧ z + 1 ≤ y
  nn : ∀ v y, gt F v = some y → 0 ≤ y ∧ y < F.length
structure RvM (n : Int) (es : List (Int × Int)) (K : KM) (K1 : Int → Option Int) (F0 : KM) (dn : List (Int × Int)) (a : KM × Bool) : Prop where
  rv : Rv n es K1 a.1
  same : a.2 = false → a.1 = F0 ∧ ∀ e ∈ dn, ∀ y, gt F0 e.2 = some y → (gt K e.1).isSome = false → ¬ y + 1 < (gt F0 e.1).getD 99
  less : a.2 = true → mass n a.1 < mass n F0
section
variable {n : Int} {es : List (Int × Int)} {K : KM} {K1 : Int → Option Int} {F0 : KM}
theorem RvM.step (hK : ∀ v, gt K v = none → K1 v = none ∨ K1 v = some 0) {dn : List (Int × Int)} {a : KM × Bool} (h : RvM n es K K1 F0 dn a) {e : Int × Int} (he : e ∈ es) (h0 : 0 ≤ e.1 ∧ e.1 < n) : RvM n es K K1 F0 (dn ++ [e]) (rc K a e) := by
  obtain ⟨F, ch⟩ := a
  obtain ⟨b, u⟩ := e
  have hr := h.rv
  dsimp only at hr
  unfold rc
  dsimp only
  cases hg : gt F u with
  | none =>
    refine ⟨hr, fun z => ?_, h.less⟩
    obtain ⟨e1, e2⟩ := h.same z
    refine ⟨e1, fun e he y hy => ?_⟩
    rcases List.mem_append.mp he with q | q
    · exact e2 e q y hy
    · have := List.mem_singleton.mp q
      subst this
      dsimp only at e1 hy
      rw [← e1, hg] at hy
      cases hy
  | some y =>
    dsimp only
    by_cases q : (gt K b).isSome = false ∧ y + 1 < (gt F b).getD 99
    · rw [if_pos q]
      obtain ⟨q1, q2⟩ := q
      have ny := hr.nn u y hg
      have hKb : gt K b = none := by
        cases e : gt K b with
        | none => rfl
        | some _ => rw [e] at q1; cases q1
      have hb : K1 b = none := (hK b hKb).resolve_right fun z => by
        rw [hr.base b 0 z] at q2
        simp only [Option.getD_some] at q2
        omega
      have hub : u ≠ b := fun z => by
        subst z
        rw [hg] at q2
        simp only [Option.getD_some] at q2
        omega
      have keep : ∀ v, v ≠ b → gt (pt F b (y + 1)) v = gt F v := fun v hv => by rw [gt_pt, if_neg hv]
      have hn : gt (pt F b (y + 1)) b = some (y + 1) := by rw [gt_pt, if_pos rfl]
      have lt : mass n (pt F b (y + 1)) < mass n F := by
        refine sum_lt (fun v _ => ?_) ⟨b, mem_rngI.mpr (by omega), ?_⟩
        · by_cases z : v = b
          · rw [z, hn]
            simp only [Option.getD_some]
            omega
          · rw [keep v z]; exact Nat.le_refl _
        · rw [hn]
          simp only [Option.getD_some]
          omega
      refine ⟨⟨hr.kok.pt _ h0, fun v x hx => ?_, fun v z hz hv => ?_, fun v z hz => ?_⟩, fun z => (nomatch z), fun _ => ?_⟩
      · rw [keep v fun z => by subst z; rw [hb] at hx; cases hx]
        exact hr.base v x hx
      · by_cases e : v = b
        · subst e
          rw [hn] at hz
          cases hz
          exact ⟨u, y, he, by rw [keep u hub]; exact hg, Int.le_refl _⟩
        · rw [keep v e] at hz
          obtain ⟨u', z', h1, h2, h3⟩ := hr.wsup v z hz hv
          by_cases e2 : u' = b
          · subst e2
            rw [h2] at q2
            simp only [Option.getD_some] at q2
            exact ⟨u', y + 1, h1, hn, by omega⟩
          · exact ⟨u', z', h1, by rw [keep u' e2]; exact h2, h3⟩
      · show 0 ≤ z ∧ z < ((pt F b (y + 1)).length : Int)
        have pl := pt_len2 (m := F) (k := b) (v := y + 1)
        by_cases e : v = b
        · subst e
          rw [hn] at hz
          cases hz
          cases e3 : gt F v with
          | none => rw [e3] at pl; simp at pl; omega
          | some w =>
            rw [e3] at pl q2
            have := hr.nn v w e3
            simp at pl q2
            omega
        · rw [keep v e] at hz
          have := hr.nn v z hz
          split at pl <;> omega
      · cases hc : ch with
        | true => exact Nat.lt_trans lt (h.less hc)
        | false =>
          have := (h.same hc).1
          dsimp only at this
          rw [← this]
          exact lt
    · rw [if_neg q]
      refine ⟨hr, fun z => ?_, h.less⟩
      obtain ⟨e1, e2⟩ := h.same z
      refine ⟨e1, fun e he y' hy hk => ?_⟩
      rcases List.mem_append.mp he with s | s
      · exact e2 e s y' hy hk
      · have := List.mem_singleton.mp s
        subst this
        dsimp only at e1 hy hk ⊢
        rw [← e1] at hy ⊢
        rw [hg] at hy
        cases hy
        exact fun z => q ⟨hk, z⟩
theorem RvM.fold (hK : ∀ v, gt K v = none → K1 v = none ∨ K1 v = some 0) : ∀ {post : List (Int × Int)} {dn : List (Int × Int)} {a : KM × Bool}, RvM n es K K1 F0 dn a → (∀ e ∈ post, e ∈ es ∧ 0 ≤ e.1 ∧ e.1 < n) → RvM n es K K1 F0 (dn ++ post) (post.foldl (rc K) a)
  | [], dn, a, h, _ => by rw [List.append_nil]; exact h
  | e :: post, dn, a, h, hp => by
    obtain ⟨q1, q2⟩ := hp e List.mem_cons_self
    have := RvM.fold hK (post := post) (h.step hK q1 q2) fun e z => hp e (List.mem_cons_of_mem _ z)
    rw [List.append_assoc] at this
    exact this
end
end DL
set_option Elab.async false
set_option linter.all false
set_option maxRecDepth 100000
set_option maxHeartbeats 4000000
namespace DL
open PySem PySem.Spec PyProof.Rows L2
open En (en)
/-! ### draws -/
structure DrOk (d : List Int) : Prop where
  two : 2 ≤ d.length
  few : d.length < 800000
theorem e_off {d : List Int} (hd : DrOk d) {m : Int} (h0 : 0 < m) (h1 : m < 1073741824) : Good (t__law_off d m) fun r => 0 ≤ r.1 ∧ r.1 < m ∧ DrOk r.2 := by
  have two : ∀ {s : List Int}, DrOk s → ∃ a b r, s = a :: b :: r := fun {s} h => by
    match s, h.two with
    | a :: b :: r, _ => exact ⟨a, b, r, rfl⟩
  have g1 : ∀ (a b : Int) (r : List Int), getI (a :: b :: r) 1 = .ok b := fun a b r => getI_ok (by decide) rfl
  have g0 : ∀ (a : Int) (r : List Int), getI (a :: r) 0 = .ok a := fun a r => getI_ok (by decide) rfl
  unfold t__law_off tb__law_off
  refine Good.endR ?_
  refine GoodE.bindE (P := DrOk) ?_ fun s hs => ?_
  · obtain ⟨a, b, r, rfl⟩ := two hd
    rw [g1]
    simp only [Res.bind_ok]
    by_cases hb : b = 0
    · rw [decide_eq_true hb, if_pos rfl]
      simp only [Res.bind_ok]
      by_cases hl : (2 : Int) < ((a :: b :: r).length : Nat)
      · rw [decide_eq_true hl, if_pos rfl]
        obtain ⟨x, e, _, _⟩ := popI_good (xs := a :: b :: r) (i := 2) (by decide) hl (by have := hd.few; omega)
        rw [e]
        simp only [Res.bind_ok]
        have l2 : ((a :: b :: r).eraseIdx (2 : Int).toNat).length = (a :: b :: r).length - 1 := List.length_eraseIdx_of_lt (by omega)
        rw [setI_ok (by decide) (by omega)]
        refine .nx ⟨by rw [List.length_set, l2]; omega, by rw [List.length_set, l2]; have := hd.few; omega⟩
      · rw [decide_eq_false hl, if_neg Bool.false_ne_true]
        exact .nx hd
    · rw [decide_eq_false hb, if_neg Bool.false_ne_true]
      exact .nx hd
  · obtain ⟨a, b, r, rfl⟩ := two hs
    have few := hs.few
    simp only [List.length_cons] at few
    have ok : ∀ x y, DrOk (x :: y :: r) := fun x y => ⟨by simp, by simp only [List.length_cons]; omega⟩
    rw [g1]
    simp only [Res.bind_ok]
    by_cases hb : 0 < b
    · rw [decide_eq_true hb, if_pos rfl, pMod_ok b h0]
      simp only [Res.bind_ok]
      rw [pDiv_ok b h0 h1]
      simp only [Res.bind_ok]
      rw [setI_ok (by decide) (by simp only [List.length_cons]; omega)]
      exact .rt ⟨Int.emod_nonneg _ (by omega), Int.emod_lt_of_pos _ h0, ok _ _⟩
    · rw [decide_eq_false hb, if_neg Bool.false_ne_true, g0]
      simp only [Res.bind_ok]
      rw [mulI_ok a (by decide)]
      simp only [Res.bind_ok]
      rw [pMod_ok _ (by decide)]
      simp only [Res.bind_ok]
      rw [setI_ok (by decide) (by simp only [List.length_cons]; omega)]
      simp only [Res.bind_ok]
      rw [show (a :: b :: r).set (0 : Int).toNat ((a * 48271 + 11) % 2147483647) = ((a * 48271 + 11) % 2147483647) :: b :: r from rfl, g0]
      simp only [Res.bind_ok]
      rw [pDiv_ok _ (by decide) (by decide)]
      simp only [Res.bind_ok]
      rw [pMod_ok _ h0]
      exact .rt ⟨Int.emod_nonneg _ (by omega), Int.emod_lt_of_pos _ h0, ok _ _⟩
theorem perm_erase {α : Type} {x : α} : ∀ {xs : List α} {j : Nat}, xs[j]? = some x → (x :: xs.eraseIdx j).Perm xs
  | [], _, h => by simp at h
  | y :: ys, 0, h => by cases h; exact .refl _
  | y :: ys, j + 1, h => by
    have ih := perm_erase (xs := ys) (j := j) (x := x) (by simpa using h)
    exact (List.Perm.swap y x _).trans (ih.cons y)
theorem e_mixed_i {d : List Int} (hd : DrOk d) {row : List Int} (hr : row.length < 900000) : Good (t__law_mixed_i d row) fun r => r.1.Perm row ∧ DrOk r.2 := by
  unfold t__law_mixed_i tb__law_mixed_i
  refine Good.endR ?_
  simp only [Res.bind_ok]
  refine GoodE.bindE (P := fun s => s.2.2.Perm row ∧ DrOk s.1) ?_ fun s hs => .rt hs
  refine GoodE.while (fun n s => n = s.2.1.length ∧ DrOk s.1 ∧ (s.2.2 ++ s.2.1).Perm row) (fun n s ⟨h1, h2, h3⟩ => ⟨_, rfl, fun hc => ?_, fun hc => ?_⟩) 1000000 (n := row.length) ⟨rfl, hd, by exact .refl _⟩ (by omega)
  · obtain ⟨sd, sl, sf⟩ := s
    have e : sl = [] := by simpa using hc
    subst e
    rw [List.append_nil] at h3
    exact ⟨h3, h2⟩
  · obtain ⟨sd, sl, sf⟩ := s
    dsimp only at h1 h2 h3 hc ⊢
    have ne : sl ≠ [] := by simpa using hc
    have lp := List.length_pos_iff.mpr ne
    have tot := h3.length_eq
    rw [List.length_append] at tot
    rw [Res.bind_assoc]
    refine (e_off h2 (m := (sl.length : Nat)) (by omega) (by omega)).bind fun r ⟨q0, q1, q2⟩ => ?_
    obtain ⟨x, e, e2, _⟩ := popI_good (xs := sl) q0 q1 (by omega)
    rw [e]
    simp only [Res.bind_ok]
    rw [appL_ok (by omega)]
    simp only [Res.bind_ok]
    refine GoodE.nx ⟨_, ?_, rfl, q2, ?_⟩
    · dsimp only
      rw [List.length_eraseIdx_of_lt (by omega)]
      omega
    · dsimp only
      rw [List.append_assoc]
      exact ((perm_erase e2).append_left sf).trans h3
theorem e_mixed_t {d : List Int} (hd : DrOk d) {row : List (Int × Int)} (hr : row.length < 900000) : Good (t__law_mixed_t d row) fun r => r.1.Perm row ∧ DrOk r.2 := by
  unfold t__law_mixed_t tb__law_mixed_t
  refine Good.endR ?_
  simp only [Res.bind_ok]
  refine GoodE.bindE (P := fun s => s.2.2.Perm row ∧ DrOk s.1) ?_ fun s hs => .rt hs
  refine GoodE.while (fun n s => n = s.2.1.length ∧ DrOk s.1 ∧ (s.2.2 ++ s.2.1).Perm row) (fun n s ⟨h1, h2, h3⟩ => ⟨_, rfl, fun hc => ?_, fun hc => ?_⟩) 1000000 (n := row.length) ⟨rfl, hd, by exact .refl _⟩ (by omega)
  · obtain ⟨sd, sl, sf⟩ := s
    have e : sl = [] := by simpa using hc
    subst e
    rw [List.append_nil] at h3
    exact ⟨h3, h2⟩
  · obtain ⟨sd, sl, sf⟩ := s
    dsimp only at h1 h2 h3 hc ⊢
    have ne : sl ≠ [] := by simpa using hc
    have lp := List.length_pos_iff.mpr ne
    have tot := h3.length_eq
    rw [List.length_append] at tot
    rw [Res.bind_assoc]
    refine (e_off h2 (m := (sl.length : Nat)) (by omega) (by omega)).bind fun r ⟨q0, q1, q2⟩ => ?_
    obtain ⟨x, e, e2, _⟩ := popI_good (xs := sl) q0 q1 (by omega)
    rw [e]
    simp only [Res.bind_ok]
    rw [appL_ok (by omega)]
    simp only [Res.bind_ok]
    refine GoodE.nx ⟨_, ?_, rfl, q2, ?_⟩
    · dsimp only
      rw [List.length_eraseIdx_of_lt (by omega)]
      omega
    · dsimp only
      rw [List.append_assoc]
      exact ((perm_erase e2).append_left sf).trans h3
theorem e_dice {ns : List Int} (h : ns.length ≤ 63) (k : Int) : Good (t__law_dice ns k) DrOk := by
  unfold t__law_dice tb__law_dice
  refine Good.endR ?_
  simp only [Res.bind_ok]
  refine GoodE.bindE (P := fun _ => True) ?_ fun s _ => ?_
  · refine GoodE.for (fun _ _ => True) (fun a as x _ => ?_) trivial
    rw [mulI_ok x (by decide)]
    simp only [Res.bind_ok]
    rw [pMod_ok _ (by decide)]
    exact .nx trivial
  · have p18 : Res.of (pPow (10 : Int) (18 : Int)) = .ok ((10 : Int) ^ 18) := by
      unfold pPow
      rw [if_pos (by decide)]
      rfl
    rw [Res.bind_assoc]
    refine Good.eq (compG_fil (p := fun x => decide ((10 : Int) ^ 18 ≤ x)) (by omega) (fun x _ => by rw [p18]; rfl) (fun x _ => rfl)) ?_
    have l := List.length_filter_le (fun x => decide ((10 : Int) ^ 18 ≤ x)) ns
    rw [addL_ok (by simp only [List.length_cons, List.length_nil]; omega)]
    simp only [Res.bind_ok]
    exact GoodE.rt ⟨by simp, by simp only [List.length_append, List.length_cons, List.length_nil]; omega⟩
end DL
set_option Elab.async false
set_option linter.all false
set_option maxRecDepth 100000
set_option maxHeartbeats 4000000
namespace DL
open PySem PySem.Spec PyProof.Rows L2
open En (en)
/-! ### nets -/
abbrev Net := Int × Tp (Int × Int)
def TOk (n : Int) (e : Int × Int) : Prop := 0 ≤ e.1 ∧ e.1 < n ∧ 0 ≤ e.2 ∧ e.2 < n ∧ e.1 ≠ e.2
structure NetOk (net : Net) : Prop where
  lo : 2 ≤ net.1
  hi : net.1 ≤ 8
  few : net.2.l.length ≤ 24
  tp : ∀ e ∈ net.2.l, TOk net.1 e
  nd : net.2.l.Nodup
theorem cut_take {α : Type} (xs : List α) {i : Int} (h0 : 0 ≤ i) : cutD xs none (some i) = xs.take i.toNat := by
  unfold cutD HT.sIx
  have : ¬ i < 0 := by omega
  simp only [this, if_false, List.drop_zero, Nat.sub_zero]
  rw [← List.take_eq_take_min]
theorem mod_neT {a n c : Int} (h0 : 0 ≤ a) (h1 : a < n) (h2 : 1 ≤ c) (h3 : c < n) : TOk n (a, (a + c) % n) := by
  refine ⟨h0, h1, Int.emod_nonneg _ (by omega), Int.emod_lt_of_pos _ (by omega), fun e => ?_⟩
  dsimp only at e
  by_cases h : a + c < n
  · rw [Int.emod_eq_of_lt (by omega) h] at e; omega
  · have : (a + c) % n = a + c - n := by
      rw [← Int.sub_emod_right, Int.emod_eq_of_lt (by omega) (by omega)]
    omega
theorem enum_at {α : Type} {xs : List α} {p : Int × α} (h : p ∈ enumI xs) : 0 ≤ p.1 ∧ p.1 < xs.length ∧ xs[p.1.toNat]? = some p.2 := by
  unfold enumI at h
  obtain ⟨q, hq, rfl⟩ := List.mem_map.mp h
  have := List.mem_zipIdx_iff_getElem?.mp hq
  have l := (List.getElem?_eq_some_iff.mp this).1
  exact ⟨by dsimp only; omega, by dsimp only; omega, by simpa using this⟩
theorem enum_len {α : Type} (xs : List α) : (enumI xs).length = xs.length := by unfold enumI; rw [List.length_map, List.length_zipIdx]
theorem enum_lt {α : Type} (xs : List α) : (enumI xs).Pairwise fun p q => p.1 < q.1 := by
  have : ((enumI xs).map (·.1)).Pairwise (· < ·) := by
    have e : (enumI xs).map (·.1) = (List.range xs.length).map fun (i : Nat) => (i : Int) := by
      unfold enumI
      rw [List.map_map, List.range_eq_range']
      have : (xs.zipIdx.map Prod.snd) = List.range' 0 xs.length := by simp
      rw [← this, List.map_map]
      rfl
    rw [e, List.pairwise_map]
    exact List.pairwise_lt_range.imp fun h => by omega
  exact List.pairwise_map.mp this
theorem nub_nodup {α : Type} [DecidableEq α] (xs : List α) : (((enumI xs).filter fun p => !memL p.2 (cutD xs none (some p.1))).map (·.2)).Nodup := by
  rw [List.nodup_iff_pairwise_ne, List.pairwise_map]
  refine ((enum_lt xs).filter _).imp_of_mem fun {p q} hp hq h e => ?_
  obtain ⟨hp1, _⟩ := List.mem_filter.mp hp
  obtain ⟨hq1, hq2⟩ := List.mem_filter.mp hq
  obtain ⟨p0, _, p2⟩ := enum_at hp1
  obtain ⟨q0, _, _⟩ := enum_at hq1
  rw [cut_take xs q0] at hq2
  have : q.2 ∉ xs.take q.1.toNat := by
    intro z
    unfold memL at hq2
    rw [decide_eq_true z] at hq2
    cases hq2
  refine this ?_
  rw [← e]
  refine List.mem_iff_getElem?.mpr ⟨p.1.toNat, ?_⟩
  rw [List.getElem?_take, if_pos (by omega)]
  exact p2
def Ties (n : Int) (b : Nat) (ts : List (Int × Int)) : Prop := (∀ e ∈ ts, TOk n e) ∧ ts.length ≤ b
theorem Ties.mono {n : Int} {b b' : Nat} {ts : List (Int × Int)} (h : Ties n b ts) (w : b ≤ b') : Ties n b' ts := ⟨h.1, Nat.le_trans h.2 w⟩
theorem Ties.app {n : Int} {b b' : Nat} {ts us : List (Int × Int)} (h : Ties n b ts) (h' : Ties n b' us) : Ties n (b + b') (ts ++ us) := ⟨fun e he => (List.mem_append.mp he).elim (h.1 e) (h'.1 e), by rw [List.length_append]; have := h.2; have := h'.2; omega⟩
theorem Ties.map {α : Type} {n : Int} {b : Nat} {xs : List α} {g : α → Int × Int} (h : ∀ x ∈ xs, TOk n (g x)) (hl : xs.length ≤ b) : Ties n b (xs.map g) := ⟨fun e he => by
  obtain ⟨x, hx, rfl⟩ := List.mem_map.mp he
  exact h x hx, by rw [List.length_map]; exact hl⟩
theorem e_net {d : List Int} (hd : DrOk d) : Good (t__law_net d 8) fun r => NetOk r.1 ∧ DrOk r.2 := by
  unfold t__law_net tb__law_net
  refine Good.endR ?_
  rw [Res.bind_assoc]
  refine (e_off hd (m := 8 - 1) (by decide) (by decide)).bind fun r0 ⟨a0, a1, a2⟩ => ?_
  simp only [Res.bind_ok]
  refine (e_off a2 (m := 5) (by decide) (by decide)).bind fun kd ⟨b0, b1, b2⟩ => ?_
  have hn : 2 ≤ 2 + r0.1 ∧ 2 + r0.1 ≤ 8 := by omega
  generalize 2 + r0.1 = n at hn ⊢
  obtain ⟨lo, hi⟩ := hn
  have hr : rngR n = .ok (rng 0 n.toNat) := rngR_ok (by omega) (by omega)
  have lr := rng_len 0 n.toNat
  have first : compG (rng 0 n.toNat) (fun _ => Res.ok true) (fun x => (Res.of (pMod (x + 1) n)).bind fun r => Res.ok (x, r)) = .ok ((rng 0 n.toNat).map fun x => (x, (x + 1) % n)) := compG_all (by omega) (fun _ _ => rfl) fun x _ => by rw [pMod_ok _ (by omega)]; rfl
  rw [hr]
  simp only [Res.bind_ok]
  rw [first]
  simp only [Res.bind_ok]
  have ok0 : Ties n 8 ((rng 0 n.toNat).map fun x => (x, (x + 1) % n)) := Ties.map (fun x hx => by
    have := mem_rng.mp hx
    exact mod_neT this.1 (by omega) (Int.le_refl _) (by omega)) (by omega)
  generalize (rng 0 n.toNat).map (fun x => (x, (x + 1) % n)) = ts0 at ok0 ⊢
  refine GoodE.bindE (P := Ties n 100) ?_ fun ts1 ok1 => ?_
  · by_cases hk : kd.1 = 1
    · rw [decide_eq_true hk, if_pos rfl, Res.bind_assoc]
      have l0 := ok0.2
      refine Good.eq (compG_all (g := fun (x : Int × Int) => (x.2, x.1)) (by omega) (fun _ _ => rfl) fun _ _ => rfl) ?_
      rw [addL_ok (by rw [List.length_map]; omega)]
      refine GoodE.nx ((ok0.app (Ties.map (b := 8) (fun x hx => ?_) l0)).mono (by decide))
      obtain ⟨h1, h2, h3, h4, h5⟩ := ok0.1 x hx
      exact ⟨h3, h4, h1, h2, fun z => h5 z.symm⟩
    · rw [decide_eq_false hk, if_neg Bool.false_ne_true]
      exact GoodE.nx (ok0.mono (by decide))
  refine GoodE.bindE (P := Ties n 100) ?_ fun ts2 ok2 => ?_
  · by_cases hk : kd.1 = 2
    · rw [decide_eq_true hk, if_pos rfl]
      have hr' : rngR (n - 1) = .ok (rng 0 (n - 1).toNat) := rngR_ok (by omega) (by omega)
      have lr' := rng_len 0 (n - 1).toNat
      rw [hr']
      simp only [Res.bind_ok]
      rw [Res.bind_assoc]
      refine Good.eq (compG_all (g := fun x => (x, x + 1)) (by omega) (fun _ _ => rfl) fun _ _ => rfl) ?_
      rw [Res.bind_assoc]
      refine Good.eq (compG_all (g := fun x => (x + 1, x)) (by omega) (fun _ _ => rfl) fun _ _ => rfl) ?_
      rw [addL_ok (by simp only [List.length_map]; omega)]
      refine GoodE.nx (((Ties.map (b := 8) (fun x hx => ?_) (by omega)).app (Ties.map (b := 8) (fun x hx => ?_) (by omega))).mono (by decide))
      · have := mem_rng.mp hx
        exact ⟨this.1, by dsimp only; omega, by dsimp only; omega, by dsimp only; omega, by dsimp only; omega⟩
      · have := mem_rng.mp hx
        exact ⟨by dsimp only; omega, by dsimp only; omega, this.1, by dsimp only; omega, by dsimp only; omega⟩
    · rw [decide_eq_false hk, if_neg Bool.false_ne_true]
      exact GoodE.nx ok1
  refine GoodE.bindE (P := Ties n 100) ?_ fun ts3 ok3 => ?_
  · by_cases hk : kd.1 = 3
    · rw [decide_eq_true hk, if_pos rfl]
      refine GoodE.bindE (P := Ties n 100) ?_ fun s hs => GoodE.nx hs
      have step := GoodE.forD (R := fun (_ : Net × List Int) => False) (xs := rng 0 n.toNat) (x := ([] : List (Int × Int))) (b := fun k_243 s244 => (((compG [((k_243 + (1 : Int)), (k_243 + (2 : Int))).1, ((k_243 + (1 : Int)), (k_243 + (2 : Int))).2] (fun (x245 : Int) => Res.ok ((decide (x245 < n)))) (fun (x245 : Int) => Res.ok ((k_243, x245))))).bind fun r247 => ((compG [((k_243 + (1 : Int)), (k_243 + (2 : Int))).1, ((k_243 + (1 : Int)), (k_243 + (2 : Int))).2] (fun (x246 : Int) => Res.ok ((decide (x246 < n)))) (fun (x246 : Int) => Res.ok ((x246, k_243))))).bind fun r248 => ((addL r247 r248)).bind fun r249 => (addL s244 r249)).bind fun b250 => Res.ok (Ex.nx b250)) (fun dn ts => Ties n (4 * dn.length) ts) ⟨fun _ z => (nomatch z), Nat.zero_le _⟩ (fun k dn as ts e h => by
        have hk : k ∈ rng 0 n.toNat := by rw [e]; exact List.mem_append_right _ List.mem_cons_self
        have hk := mem_rng.mp hk
        have hdn : dn.length < n.toNat := by
          have := congrArg List.length e
          rw [lr, List.length_append, List.length_cons] at this
          omega
        have lf := List.length_filter_le (fun x => decide (x < n)) [k + 1, k + 2]
        simp only [List.length_cons, List.length_nil] at lf
        have hm : ∀ x ∈ [k + 1, k + 2].filter (fun x => decide (x < n)), k < x ∧ x < n := fun x hx => by
          obtain ⟨h1, h2⟩ := List.mem_filter.mp hx
          have := of_decide_eq_true h2
          simp only [List.mem_cons, List.not_mem_nil, or_false] at h1
          omega
        rw [Res.bind_assoc]
        refine Good.eq (compG_ok (p := fun x => decide (x < n)) (g := fun x => (k, x)) (by simp) (fun _ _ => rfl) fun _ _ _ => rfl) ?_
        rw [Res.bind_assoc]
        refine Good.eq (compG_ok (p := fun x => decide (x < n)) (g := fun x => (x, k)) (by simp) (fun _ _ => rfl) fun _ _ _ => rfl) ?_
        rw [addL_ok (by simp only [List.length_map]; omega)]
        simp only [Res.bind_ok]
        have hl := h.2
        rw [addL_ok (by simp only [List.length_append, List.length_map]; omega)]
        simp only [Res.bind_ok]
        refine GoodE.nx ?_
        rw [List.length_append, Nat.mul_add]
        refine h.app ((Ties.map (b := 2) (fun x hx => ?_) lf).app (Ties.map (b := 2) (fun x hx => ?_) lf))
        · have := hm x hx
          exact ⟨hk.1, by dsimp only; omega, by dsimp only; omega, by dsimp only; omega, by dsimp only; omega⟩
        · have := hm x hx
          exact ⟨by dsimp only; omega, by dsimp only; omega, hk.1, by dsimp only; omega, by dsimp only; omega⟩)
      refine step.mono fun o ho => ?_
      cases o with
      | nx s => exact Ties.mono ho (by rw [lr]; omega)
      | rt _ => exact ho.elim
    · rw [decide_eq_false hk, if_neg Bool.false_ne_true]
      exact GoodE.nx ok2
  refine GoodE.bindE (P := fun s => DrOk s.1 ∧ Ties n 100 s.2) ?_ fun s4 ⟨d4, ok4⟩ => ?_
  · by_cases hk : kd.1 = 4
    · rw [decide_eq_true hk, if_pos rfl]
      refine Good.bind (P := fun r => DrOk r.2 ∧ Ties n 8 r.1) ?_ fun t1 ⟨c1, c2⟩ => ?_
      · refine (compS_good DrOk (TOk n) (by omega) b2 fun a ha x hx => ?_).mono fun r ⟨h1, h2, h3⟩ => ⟨h1, h2, by omega⟩
        have := mem_rng.mp ha
        simp only [noR_ok, Res.bind_ok, id_eq, if_true]
        refine Good.bind (P := fun e => TOk n e.1 ∧ DrOk e.2.2.2.2.2) ?_ fun e ⟨q1, q2⟩ => .ok ⟨q2, fun b hb => by cases hb; exact q1⟩
        refine Good.imp_noR ?_
        refine (e_off hx (m := n - 1) (by omega) (by omega)).bind fun r ⟨q0, q1, q2⟩ => ?_
        rw [pMod_ok _ (by omega)]
        refine .ok ⟨?_, q2⟩
        have := mod_neT (a := a) (n := n) (c := 1 + r.1) (by omega) (by omega) (by omega) (by omega)
        rw [← Int.add_assoc] at this
        exact this
      · rw [mulI_ok 2 (by omega)]
        simp only [Res.bind_ok]
        rw [Res.bind_assoc]
        refine (e_off c1 (m := 2 * n) (by omega) (by omega)).bind fun r ⟨q0, q1, q2⟩ => ?_
        rw [rngR_ok q0 (by omega)]
        simp only [Res.bind_ok]
        refine GoodE.bindE (P := fun s => DrOk s.1 ∧ Ties n 100 s.2) ?_ fun s hs => GoodE.nx hs
        have step := GoodE.for (fun (as : List Int) (s : List Int × List (Int × Int)) => DrOk s.1 ∧ Ties n (24 - as.length) s.2 ∧ as.length ≤ 16) (R := fun (_ : Net × List Int) => False) (b := fun turn_321 s322 => (((t__law_off s322.1 n) : Res (Int × (List Int))).bind fun begin'_323 => (((t__law_off begin'_323.2 (n - (1 : Int)))).bind fun r324 => ((Res.of (pMod (((begin'_323.1 + (1 : Int)) + r324.1), ((begin'_323.1 + (1 : Int)), r324)).1 n))).bind fun r327 => ((appL s322.2 ((begin'_323.1, (r327, (((begin'_323.1 + (1 : Int)) + r324.1), ((begin'_323.1 + (1 : Int)), r324))).1), (r327, (((begin'_323.1 + (1 : Int)) + r324.1), ((begin'_323.1 + (1 : Int)), r324)))).1)).bind fun r331 => Res.ok ((r331, ((begin'_323.1, (r327, (((begin'_323.1 + (1 : Int)) + r324.1), ((begin'_323.1 + (1 : Int)), r324))).1), (r327, (((begin'_323.1 + (1 : Int)) + r324.1), ((begin'_323.1 + (1 : Int)), r324)))))) : Res ((List (Int × Int)) × ((Int × Int) × (Int × (Int × (Int × (Int × (List Int)))))))).bind fun b333 => Res.ok (Ex.nx (b333.2.2.2.2.2.2, b333.1)))) (fun a as s ⟨h1, h2, h3⟩ => by
          simp only [List.length_cons] at h2 h3
          refine (e_off h1 (m := n) (by omega) (by omega)).bind fun bg ⟨g0, g1, g2⟩ => ?_
          rw [Res.bind_assoc]
          refine (e_off g2 (m := n - 1) (by omega) (by omega)).bind fun r ⟨q0, q1, q2⟩ => ?_
          rw [pMod_ok _ (by omega)]
          simp only [Res.bind_ok]
          have hl := h2.2
          rw [appL_ok (by omega)]
          refine GoodE.nx ⟨q2, ?_, by omega⟩
          have := mod_neT (a := bg.1) (n := n) (c := 1 + r.1) (by omega) (by omega) (by omega) (by omega)
          rw [← Int.add_assoc] at this
          refine (h2.app (b' := 1) (us := [(bg.1, (bg.1 + 1 + r.1) % n)]) ⟨fun e he => ?_, Nat.le_refl _⟩).mono (by omega)
          rw [List.mem_singleton.mp he]
          exact this) (xs := rng 0 r.1.toNat) (x := (r.2, t1.1)) ⟨q2, by rw [rng_len]; exact c2.mono (by omega), by rw [rng_len]; omega⟩
        refine step.mono fun o ho => ?_
        cases o with
        | nx s => exact ⟨ho.1, ho.2.1.mono (by decide)⟩
        | rt _ => exact ho.elim
    · rw [decide_eq_false hk, if_neg Bool.false_ne_true]
      exact GoodE.nx ⟨b2, ok3⟩
  have l4 := ok4.2
  refine Good.eq (compG_ok (p := fun (x : Int × Int × Int) => !memL x.2 (cutD s4.2 none (some x.1))) (g := fun (x : Int × Int × Int) => x.2) (by rw [enum_len]; omega) (fun _ _ => rfl) fun _ _ _ => rfl) ?_
  have nd := nub_nodup s4.2
  have sub : ∀ x ∈ ((enumI s4.2).filter fun p => !memL p.2 (cutD s4.2 none (some p.1))).map (·.2), x ∈ s4.2 := fun x hx => by
    obtain ⟨p, hp, rfl⟩ := List.mem_map.mp hx
    exact List.mem_iff_getElem?.mpr ⟨_, (enum_at (List.mem_filter.mp hp).1).2.2⟩
  have ln : (((enumI s4.2).filter fun p => !memL p.2 (cutD s4.2 none (some p.1))).map (·.2)).length ≤ 100 := by
    rw [List.length_map]
    have := List.length_filter_le (fun p => !memL p.2 (cutD s4.2 none (some p.1))) (enumI s4.2)
    rw [enum_len] at this
    omega
  generalize ((enumI s4.2).filter fun p => !memL p.2 (cutD s4.2 none (some p.1))).map (·.2) = ts5 at nd sub ln ⊢
  rw [Res.bind_assoc]
  refine (e_mixed_t d4 (by omega)).bind fun r ⟨pm, dr⟩ => GoodE.rt ⟨⟨lo, hi, ?_, fun e he => ?_, ?_⟩, dr⟩
  · show (cutD r.1 none (some 24)).length ≤ 24
    rw [cut_take _ (by decide), List.length_take]
    exact Nat.min_le_left _ _
  · have he : e ∈ cutD r.1 none (some 24) := he
    rw [cut_take _ (by decide)] at he
    exact ok4.1 e (sub e (pm.mem_iff.mp (List.mem_of_mem_take he)))
  · show (cutD r.1 none (some 24)).Nodup
    rw [cut_take _ (by decide)]
    exact (pm.nodup_iff.mpr nd).sublist (List.take_sublist _ _)
end DL
set_option Elab.async false
set_option linter.all false
set_option maxRecDepth 100000
set_option maxHeartbeats 4000000
namespace DL
open PySem PySem.Spec PyProof.Rows L2
open En (en)
theorem e_between (i lo hi : Int) : t_is_between i lo hi = .ok (decide (lo ≤ i ∧ i ≤ hi)) := by
  unfold t_is_between tb_is_between
  show Res.ok (true && (!false && (decide (lo ≤ i) && decide (i ≤ hi)))) = _
  rw [Bool.decide_and]
  rfl
theorem e_is_tie {e : Int × Int} {n : Int} (h : TOk n e) : t_is_tie e n = .ok true := by
  obtain ⟨h1, h2, h3, h4, h5⟩ := h
  unfold t_is_tie tb_is_tie
  rw [e_between, e_between, decide_eq_true (show 0 ≤ e.1 ∧ e.1 ≤ n - 1 by omega), decide_eq_true (show 0 ≤ e.2 ∧ e.2 ≤ n - 1 by omega)]
  show Res.ok (!decide (e.1 = e.2)) = _
  rw [decide_eq_false h5]
  rfl
theorem nubT_nodup {α : Type} [DecidableEq α] : ∀ {xs : List α}, xs.Nodup → nubT xs = xs
  | [], _ => rfl
  | x :: xs, h => by
    obtain ⟨h1, h2⟩ := List.nodup_cons.mp h
    unfold nubT
    rw [nubT_nodup h2, List.filter_eq_self.mpr fun y hy => ?_]
    have : ¬ x = y := fun z => h1 (z ▸ hy)
    rw [decide_eq_false this]
    rfl
theorem e_need_net {net : Net} (h : NetOk net) : t_need_net net = .ok () := by
  have few := h.few
  unfold t_need_net tb_need_net
  refine Good.endU (P := fun _ => True) ?_
  rw [e_between, decide_eq_true (show 2 ≤ net.1 ∧ net.1 ≤ 8 from ⟨h.lo, h.hi⟩)]
  show GoodE (((if decide ((24 : Int) < ((net.2.l.length : Nat) : Int)) = true then Res.ok true else (compG net.2.l (fun x => (t_is_tie x net.1).bind fun r => Res.ok (!r)) (fun x => Res.ok x)).bind fun r => Res.ok (!decide (r = []))) : Res Bool).bind fun d => if d = true then Res.stuck else ((lenSet net.2.l).bind fun r => Res.ok (decide (r < ((net.2.l.length : Nat) : Int)))).bind fun d => if d = true then Res.stuck else Res.ok (Ex.nx ())) _ _
  rw [decide_eq_false (show ¬ (24 : Int) < ((net.2.l.length : Nat) : Int) by omega), if_neg Bool.false_ne_true, compG_fil (p := fun _ => false) (by omega) (fun x hx => by rw [e_is_tie (h.tp x hx)]; rfl) (fun _ _ => rfl), List.filter_eq_nil_iff.mpr fun _ _ => Bool.false_ne_true]
  unfold lenSet
  rw [decide_eq_true (show net.2.l.length < 64 by omega), nubT_nodup h.nd]
  show GoodE (if decide (((net.2.l.length : Nat) : Int) < ((net.2.l.length : Nat) : Int)) = true then Res.stuck else Res.ok (Ex.nx ())) _ _
  rw [decide_eq_false (Int.lt_irrefl _), if_neg Bool.false_ne_true]
  exact GoodE.nx trivial
/-- numbers of ties -/
def Ids (net : Net) (is : List Int) : Prop := (∀ i ∈ is, 0 ≤ i ∧ i < net.2.l.length) ∧ is.length ≤ 100
theorem e_need_ties {net : Net} {fallen : List Int} {root : Int} (hf : Ids net fallen) (h0 : 0 ≤ root) (h1 : root < net.1) : t_need_ties net fallen root = .ok () := by
  have := hf.2
  unfold t_need_ties tb_need_ties
  refine Good.endU (P := fun _ => True) ?_
  rw [compG_fil (p := fun _ => false) (by omega) (fun x hx => by
    have := hf.1 x hx
    rw [e_between, decide_eq_true (by omega)]
    rfl) (fun _ _ => rfl), List.filter_eq_nil_iff.mpr fun _ _ => Bool.false_ne_true, e_between, decide_eq_true (show 0 ≤ root ∧ root ≤ net.1 - 1 by omega)]
  exact GoodE.nx trivial
def tie (net : Net) (i : Int) : Int × Int := (net.2.l[i.toNat]?).getD (0, 0)
theorem tie_at {net : Net} (h : NetOk net) {i : Int} (h0 : 0 ≤ i) (h1 : i < net.2.l.length) : getI net.2.l i = .ok (tie net i) ∧ TOk net.1 (tie net i) ∧ net.2.l[i.toNat]? = some (tie net i) := by
  obtain ⟨e, e1, e2, e3⟩ := getI_in h0 h1
  have : tie net i = e := by unfold tie; rw [e2]; rfl
  rw [this]
  exact ⟨e1, h.tp e e3, e2⟩
theorem tie_inj {net : Net} (h : NetOk net) {i j : Int} (hi : 0 ≤ i ∧ i < net.2.l.length) (hj : 0 ≤ j ∧ j < net.2.l.length) (e : tie net i = tie net j) : i = j := by
  have a := (tie_at h hi.1 hi.2).2.2
  have b := (tie_at h hj.1 hj.2).2.2
  rw [e, ← b] at a
  have := (List.getElem?_inj (by omega) h.nd).mp a
  omega
theorem enum_ties (net : Net) : enumI net.2.l = (rng 0 net.2.l.length).map fun i => (i, tie net i) := by
  refine List.ext_getElem? fun k => ?_
  unfold enumI rng tie
  rw [List.getElem?_map, List.getElem?_map, List.getElem?_map, List.getElem?_zipIdx]
  by_cases hk : k < net.2.l.length
  · rw [List.getElem?_eq_getElem hk, List.getElem?_range hk]
    simp
    rw [List.getElem?_eq_getElem hk]
    rfl
  · rw [List.getElem?_eq_none (by omega), List.getElem?_eq_none (by rw [List.length_range]; omega)]
    rfl
theorem memL_t {α : Type} [DecidableEq α] {a : α} {xs : List α} (h : a ∈ xs) : memL a xs = true := decide_eq_true h
theorem memL_f {α : Type} [DecidableEq α] {a : α} {xs : List α} (h : a ∉ xs) : memL a xs = false := decide_eq_false h
def useI (net : Net) (fallen : List Int) : List Int := ((rng 0 net.2.l.length).filter fun i => !memL i fallen).filter fun i => memL ((tie net i).2, (tie net i).1) (((rng 0 net.2.l.length).filter fun i => !memL i fallen).map (tie net))
theorem e_usable {net : Net} (h : NetOk net) (fallen : List Int) : t_usable net fallen = .ok (useI net fallen) := by
  have few := h.few
  have lr := rng_len 0 net.2.l.length
  have lf := List.length_filter_le (fun i => !memL i fallen) (rng 0 net.2.l.length)
  have mem : ∀ i ∈ (rng 0 net.2.l.length).filter (fun i => !memL i fallen), 0 ≤ i ∧ i < net.2.l.length := fun i hi => mem_rng.mp (List.mem_filter.mp hi).1
  unfold t_usable tb_usable
  simp only [Res.bind_ok]
  rw [rngR_ok (by omega) (by omega)]
  simp only [Res.bind_ok]
  rw [show ((net.2.l.length : Nat) : Int).toNat = net.2.l.length from Int.toNat_natCast _]
  rw [compG_fil (p := fun i => !memL i fallen) (by omega) (fun _ _ => rfl) (fun _ _ => rfl)]
  simp only [Res.bind_ok]
  rw [compG_all (g := tie net) (by omega) (fun _ _ => rfl) fun i hi => (tie_at h (mem i hi).1 (mem i hi).2).1]
  simp only [Res.bind_ok]
  rw [compG_fil (p := fun i => memL ((tie net i).2, (tie net i).1) (((rng 0 net.2.l.length).filter fun i => !memL i fallen).map (tie net))) (by omega) (fun i hi => by
    rw [(tie_at h (mem i hi).1 (mem i hi).2).1]
    rfl) (fun _ _ => rfl)]
  rfl
theorem e_of_use {net : Net} (h : NetOk net) (fallen : List Int) : t__law_of_use net fallen = .ok (useI net fallen) := by
  have few := h.few
  have lr := rng_len 0 net.2.l.length
  unfold t__law_of_use tb__law_of_use
  rw [enum_ties, compG_ok (p := fun (x : Int × Int × Int) => !memL x.1 fallen) (g := fun (x : Int × Int × Int) => x.2) (by rw [List.length_map]; omega) (fun _ _ => rfl) (fun _ _ _ => rfl)]
  simp only [Res.bind_ok]
  have st : (((rng 0 net.2.l.length).map fun i => (i, tie net i)).filter fun (x : Int × Int × Int) => !memL x.1 fallen).map (fun (x : Int × Int × Int) => x.2) = ((rng 0 net.2.l.length).filter fun i => !memL i fallen).map (tie net) := by
    rw [List.filter_map, List.map_map]
    rfl
  rw [st, compG_ok (p := fun (x : Int × Int × Int) => memL x.2 (((rng 0 net.2.l.length).filter fun i => !memL i fallen).map (tie net)) && memL (x.2.2, x.2.1) (((rng 0 net.2.l.length).filter fun i => !memL i fallen).map (tie net))) (g := fun (x : Int × Int × Int) => x.1) (by rw [List.length_map]; omega) (fun _ _ => rfl) (fun _ _ _ => rfl)]
  simp only [Res.bind_ok]
  show Res.ok _ = _
  congr 1
  rw [List.filter_map, List.map_map]
  unfold useI
  rw [List.filter_filter]
  show List.map (fun i => i) _ = _
  rw [List.map_id']
  refine List.filter_congr fun i hi => ?_
  have hi := mem_rng.mp hi
  show (memL (tie net i) _ && memL ((tie net i).2, (tie net i).1) _) = (memL ((tie net i).2, (tie net i).1) _ && !memL i fallen)
  have : memL (tie net i) (((rng 0 net.2.l.length).filter fun i => !memL i fallen).map (tie net)) = !memL i fallen := by
    by_cases q : memL i fallen = true
    · rw [q]
      refine memL_f fun z => ?_
      obtain ⟨j, hj, e⟩ := List.mem_map.mp z
      obtain ⟨j1, j2⟩ := List.mem_filter.mp hj
      have := tie_inj h (mem_rng.mp j1) hi e
      subst this
      rw [q] at j2
      cases j2
    · have q' : memL i fallen = false := by rw [Bool.not_eq_true] at q; exact q
      rw [q']
      refine memL_t (List.mem_map.mpr ⟨i, List.mem_filter.mpr ⟨mem_rng.mpr hi, by rw [q']; rfl⟩, rfl⟩)
  rw [this, Bool.and_comm]
theorem use_ids {net : Net} (h : NetOk net) (fallen : List Int) : Ids net (useI net fallen) ∧ (useI net fallen).Pairwise (· < ·) := by
  have few := h.few
  have lr := rng_len 0 net.2.l.length
  unfold useI
  refine ⟨⟨fun i hi => mem_rng.mp (List.mem_filter.mp (List.mem_filter.mp hi).1).1, ?_⟩, ?_⟩
  · have := List.length_filter_le (fun i => memL ((tie net i).2, (tie net i).1) (((rng 0 net.2.l.length).filter fun i => !memL i fallen).map (tie net))) ((rng 0 net.2.l.length).filter fun i => !memL i fallen)
    have := List.length_filter_le (fun i => !memL i fallen) (rng 0 net.2.l.length)
    omega
  · refine (List.Pairwise.filter _ ?_).filter _
    unfold rng
    rw [List.pairwise_map]
    exact List.pairwise_lt_range.imp fun h => by omega
theorem Ids.fil {net : Net} {is : List Int} (h : Ids net is) (p : Int → Bool) : Ids net (is.filter p) := ⟨fun i hi => h.1 i (List.mem_filter.mp hi).1, Nat.le_trans (List.length_filter_le _ _) h.2⟩
theorem dg_gt (m : Dc Int Int) (k : Int) : dg m k = gt m k := rfl
theorem dp_pt (m : Dc Int Int) (k v : Int) : dp m k v = pt m k v := rfl
theorem forR_fold {α σ ρ : Type} {b : α → σ → Res (Ex σ ρ)} (f : σ → α → σ) (I : σ → Prop) : ∀ {xs : List α} {x : σ}, (∀ a ∈ xs, ∀ y, I y → b a y = .ok (.nx (f y a)) ∧ I (f y a)) → I x → forR b xs x = .ok (.nx (xs.foldl f x)) ∧ I (xs.foldl f x)
  | [], x, _, h => ⟨rfl, h⟩
  | a :: as, x, hs, h => by
    obtain ⟨e, h2⟩ := hs a List.mem_cons_self x h
    obtain ⟨e3, h3⟩ := forR_fold f I (xs := as) (x := f x a) (fun c hc => hs c (List.mem_cons_of_mem _ hc)) h2
    refine ⟨?_, h3⟩
    show (b a x).bindE _ = _
    rw [e]
    exact e3
theorem ofd {o : Option Int} {y : Int} (h : o = some y) : Res.of o = .ok y := by rw [h]; rfl
theorem foldl_map' {α β γ : Type} (f : γ → β → γ) (g : α → β) : ∀ (xs : List α) (x : γ), xs.foldl (fun x a => f x (g a)) x = (xs.map g).foldl f x
  | [], _ => rfl
  | _ :: xs, _ => foldl_map' f g xs _
theorem rounds_for {ρ : Type} {n : Int} {P : Int → Bool} {es : List (Int × Int)} {b : Int → KM → Res (Ex KM ρ)} (hb : ∀ a L, KOk n L → b a L = .ok (.nx (es.foldl (rx P) L)) ∧ KOk n (es.foldl (rx P) L)) : ∀ (xs : List Int) {L : KM}, KOk n L → forR b xs L = .ok (.nx (rounds P es xs.length L)) ∧ KOk n (rounds P es xs.length L)
  | [], L, h => ⟨rfl, h⟩
  | a :: as, L, h => by
    obtain ⟨e, h2⟩ := hb a L h
    obtain ⟨e3, h3⟩ := rounds_for hb as h2
    refine ⟨?_, h3⟩
    show (b a L).bindE _ = _
    rw [e]
    exact e3
theorem kok_one {n r : Int} (h0 : 0 ≤ r) (h1 : r < n) (y : Int) : KOk n [(r, y)] := ⟨by simp, fun k hk => by simp at hk; subst hk; exact ⟨h0, h1⟩⟩
theorem e_near {net : Net} (h : NetOk net) {is : List Int} (hi : Ids net is) {r : Int} (h0 : 0 ≤ r) (h1 : r < net.1) : t__law_near net is r = .ok (rounds (fun _ => true) (is.map (tie net)) net.1.toNat [(r, 0)]) ∧ KOk net.1 (rounds (fun _ => true) (is.map (tie net)) net.1.toNat [(r, 0)]) := by
  have lo := h.lo
  have hi8 := h.hi
  obtain ⟨e, k⟩ := rounds_for (ρ := Dc Int Int) (n := net.1) (P := fun _ => true) (es := is.map (tie net)) (b := fun (turn_381 : Int) (s382 : Dc Int Int) => ((Res.ok is : Res (List Int)).bind fun xs397 => (forR (fun (k_383 : Int) (s384 : (Dc Int Int)) => (((getI net.2.l k_383) : Res (Int × Int)).bind fun p385 => ((Res.ok (((dg s384 p385.1).isSome)) : Res Bool).bind fun d386 => if d386 = true then ((((Res.of (dg s384 p385.1))).bind fun r392 => Res.ok ((if (r392 + (1 : Int)) < ((dg s384 p385.2).getD (99 : Int)) then (r392 + (1 : Int)) else ((dg s384 p385.2).getD (99 : Int)))) : Res Int).bind fun a394 => (Res.ok (p385.2) : Res Int).bind fun j395 => (putD s384 j395 a394).bind fun far_393 => Res.ok (Ex.nx far_393) : Res (Ex ((Dc Int Int)) (Dc Int Int))) else (Res.ok (Ex.nx s384) : Res (Ex ((Dc Int Int)) (Dc Int Int)))).bindE fun s391 => Res.ok (Ex.nx s391) : Res (Ex ((Dc Int Int)) (Dc Int Int)))) xs397 s382).bindE fun s396 => Res.ok (Ex.nx s396))) (fun a L hL => by
    obtain ⟨e, k⟩ := forR_fold (ρ := Dc Int Int) (b := fun (k_383 : Int) (s384 : (Dc Int Int)) => (((getI net.2.l k_383) : Res (Int × Int)).bind fun p385 => ((Res.ok (((dg s384 p385.1).isSome)) : Res Bool).bind fun d386 => if d386 = true then ((((Res.of (dg s384 p385.1))).bind fun r392 => Res.ok ((if (r392 + (1 : Int)) < ((dg s384 p385.2).getD (99 : Int)) then (r392 + (1 : Int)) else ((dg s384 p385.2).getD (99 : Int)))) : Res Int).bind fun a394 => (Res.ok (p385.2) : Res Int).bind fun j395 => (putD s384 j395 a394).bind fun far_393 => Res.ok (Ex.nx far_393) : Res (Ex ((Dc Int Int)) (Dc Int Int))) else (Res.ok (Ex.nx s384) : Res (Ex ((Dc Int Int)) (Dc Int Int)))).bindE fun s391 => Res.ok (Ex.nx s391) : Res (Ex ((Dc Int Int)) (Dc Int Int)))) (fun L i => rx (fun _ => true) L (tie net i)) (KOk net.1) (xs := is) (x := L) (fun i hii L hL => by
      obtain ⟨e1, tk, _⟩ := tie_at h (hi.1 i hii).1 (hi.1 i hii).2
      have ln := hL.len hi8
      refine ⟨?_, hL.rx ⟨tk.2.2.1, tk.2.2.2.1⟩⟩
      rw [e1]
      simp only [Res.bind_ok]
      unfold rx
      cases hg : gt L (tie net i).1 with
      | none =>
        rw [dg_gt, hg]
        rfl
      | some x =>
        rw [dg_gt, hg]
        show ((putD L (tie net i).2 _).bind _).bindE _ = _
        rw [putD_ok (by omega)]
        rfl) hL
    rw [foldl_map'] at e k
    refine ⟨?_, k⟩
    show (forR _ is L).bindE _ = _
    rw [e]
    rfl) (rng 0 net.1.toNat) (kok_one h0 h1 0)
  rw [rng_len] at e k
  refine ⟨?_, k⟩
  unfold t__law_near tb__law_near
  show endR ((rngR net.1).bind fun xs => (forR _ xs [(r, 0)]).bindE _) = _
  rw [rngR_ok (by omega) (by omega)]
  show endR ((forR _ _ _).bindE _) = _
  rw [e]
  rfl
end DL
set_option Elab.async false
set_option linter.all false
set_option maxRecDepth 100000
set_option maxHeartbeats 4000000
namespace DL
open PySem PySem.Spec PyProof.Rows L2
open En (en)
theorem GoodE.fold {α σ ρ : Type} {b : α → σ → Res (Ex σ ρ)} {P : σ → Prop} {R : ρ → Prop} (f : σ → α → σ) (I : σ → Prop) {xs : List α} {x : σ} (hs : ∀ a ∈ xs, ∀ y, I y → b a y = .ok (.nx (f y a)) ∧ I (f y a)) (h0 : I x) (hp : I (xs.foldl f x) → P (xs.foldl f x)) : GoodE (forR b xs x) P R := by
  obtain ⟨e, i⟩ := forR_fold f I hs h0
  rw [e]
  exact .nx (hp i)
theorem ofg {m : KM} {k y : Int} (h : gt m k = some y) : Res.of (dg m k) = .ok y := ofd h
theorem e_levels {net : Net} (h : NetOk net) {is : List Int} (hi : Ids net is) {r : Int} (h0 : 0 ≤ r) (h1 : r < net.1) : ∃ F, t_levels net is r = .ok F ∧ Bfs net.1 (is.map (tie net)) r F [] := by
  have hi8 := h.hi
  unfold t_levels tb_levels
  suffices q : Good (endR _) (fun F => Bfs net.1 (is.map (tie net)) r F []) from q.imp fun F z => z
  refine Good.endR ?_
  simp only [Res.bind_ok]
  refine GoodE.bindE (P := fun s => Bfs net.1 (is.map (tie net)) r s.1 []) ?_ fun s hs => GoodE.rt hs
  refine GoodE.while (fun m s => Bfs net.1 (is.map (tie net)) r s.1 s.2 ∧ m + s.1.length = 8 + s.2.length ∧ m ≤ 8) (fun m s ⟨hB, hm, hm8⟩ => ⟨_, rfl, fun hc => ?_, fun hc => ?_⟩) 1000000 (n := 8) ⟨Bfs.start h0 h1, rfl, Nat.le_refl _⟩ (by omega)
  · obtain ⟨F, w⟩ := s
    have e : w = [] := by simpa using hc
    subst e
    exact hB
  · obtain ⟨F, w⟩ := s
    dsimp only at hB hm hc ⊢
    cases w with
    | nil => simp at hc
    | cons c w =>
      have hF := hB.kok.len hi8
      simp only [List.length_cons] at hm
      rw [popI_head (by simp only [List.length_cons]; omega)]
      simp only [Res.bind_ok]
      obtain ⟨x, hx⟩ := hB.wq c List.mem_cons_self
      have hm0 := hB.pop hx
      refine GoodE.bindE (P := fun s => Bfs net.1 (is.map (tie net)) r s.1 s.2 ∧ s.1.length + w.length = F.length + s.2.length) ?_ fun s ⟨q1, q2⟩ => GoodE.nx ?_
      · refine GoodE.fold (fun a i => lv c x a (tie net i)) (fun a => (∃ dn, Mid net.1 (is.map (tie net)) r c x dn a.1 a.2) ∧ a.1.length + w.length = F.length + a.2.length) (fun i hii a ⟨⟨dn, hd⟩, ha⟩ => ?_) ⟨⟨[], hm0⟩, rfl⟩ fun ⟨_, hl⟩ => ?_
        · obtain ⟨F1, w1⟩ := a
          obtain ⟨e1, tk, _⟩ := tie_at h (hi.1 i hii).1 (hi.1 i hii).2
          have l1 := hd.kok.len hi8
          have st := hd.step (List.mem_map_of_mem hii) ⟨tk.2.2.1, tk.2.2.2.1⟩
          have ll := lv_len (c := c) (x := x) (F1, w1) (tie net i)
          dsimp only at ha hd l1 st ll ⊢
          refine ⟨?_, ⟨_, st⟩, by omega⟩
          rw [e1]
          simp only [Res.bind_ok]
          have hc := hd.here
          unfold lv
          dsimp only
          by_cases q : (tie net i).1 = c ∧ (gt F1 (tie net i).2).isSome = false
          · rw [if_pos q, dg_gt, decide_eq_true q.1, q.2]
            show ((((Res.of (dg F1 c)).bind _).bind _).bindE _) = _
            rw [ofg hc]
            show (((putD F1 (tie net i).2 (x + 1)).bind _).bindE _) = _
            rw [putD_ok (by omega)]
            show (((appL w1 (tie net i).2).bind _).bindE _) = _
            rw [appL_ok (by omega)]
            rfl
          · rw [if_neg q, dg_gt]
            have : (decide ((tie net i).1 = c) && !(gt F1 (tie net i).2).isSome) = false := by
              rw [Bool.and_eq_false_iff]
              by_cases z : (tie net i).1 = c
              · right
                cases e : (gt F1 (tie net i).2).isSome with
                | true => rfl
                | false => exact absurd ⟨z, e⟩ q
              · exact .inl (decide_eq_false z)
            rw [this]
            rfl
        · have hf := hm0.fold (post := is.map (tie net)) (a := (F, w)) (fun q hq => by
            refine ⟨hq, ?_⟩
            obtain ⟨i, hii, rfl⟩ := List.mem_map.mp hq
            obtain ⟨_, tk, _⟩ := tie_at h (hi.1 i hii).1 (hi.1 i hii).2
            exact ⟨tk.2.2.1, tk.2.2.2.1⟩)
          rw [foldl_map' (lv c x) (tie net)] at hl ⊢
          exact ⟨hf.bfs, hl⟩
      · have l2 := q1.kok.len hi8
        exact ⟨m - 1, by omega, q1, by dsimp only; omega, by omega⟩
theorem e_is_up {net : Net} (h : NetOk net) {far : KM} {i a b : Int} (hi : 0 ≤ i ∧ i < net.2.l.length) (ha : gt far (tie net i).2 = some a) (hb : gt far (tie net i).1 = some b) : t_is_up net far i = .ok (lt2 (a, (tie net i).2) (b, (tie net i).1)) := by
  unfold t_is_up tb_is_up
  rw [(tie_at h hi.1 hi.2).1]
  show endR ((((Res.of (dg far (tie net i).2)).bind _) : Res Bool).bind _) = _
  rw [ofg ha]
  show endR ((((Res.of (dg far (tie net i).1)).bind _) : Res Bool).bind _) = _
  rw [ofg hb]
  rfl
/-- a tie by which a house comes nearer -/
def nearer (net : Net) (D : Int → Option Int) (here z i : Int) : Bool := decide ((tie net i).1 = here) && (match D (tie net i).2 with
  | some y => decide (y + 1 = z)
  | none => false)
theorem e_step {net : Net} (h : NetOk net) {is : List Int} (hi : Ids net is) {far : KM} {here z : Int} (hz : gt far here = some z) : t_step net is far here = .ok ((is.find? (nearer net (gt far) here z)).getD (-1)) := by
  unfold t_step tb_step
  suffices q : Good (endR _) (fun c => c = (is.find? (nearer net (gt far) here z)).getD (-1)) by
    obtain ⟨c, e, rfl⟩ := q
    exact e
  refine Good.endR ?_
  simp only [Res.bind_ok]
  refine GoodE.bindE (P := fun _ => is.find? (nearer net (gt far) here z) = none) ?_ fun _ hs => GoodE.rt (by rw [hs]; rfl)
  refine (GoodE.for (fun as (_ : Unit) => (∀ i ∈ as, i ∈ is) ∧ is.find? (nearer net (gt far) here z) = as.find? (nearer net (gt far) here z)) (fun i as _ ⟨hm, hf⟩ => ?_) ⟨fun _ z => z, rfl⟩).mono fun o ho => by
    cases o with
    | nx _ => exact ho.2
    | rt c => exact ho
  have hii := hi.1 i (hm i List.mem_cons_self)
  rw [(tie_at h hii.1 hii.2).1]
  simp only [Res.bind_ok]
  have key : (if decide ((tie net i).1 = here) = true then (if (dg far (tie net i).2).isSome = true then ((Res.of (dg far (tie net i).2))).bind fun r93 => ((Res.of (dg far here))).bind fun r94 => Res.ok ((decide ((r93 + (1 : Int)) = r94))) else Res.ok false) else Res.ok false : Res Bool) = .ok (nearer net (gt far) here z i) := by
    unfold nearer
    rw [dg_gt, dg_gt]
    by_cases q : (tie net i).1 = here
    · rw [decide_eq_true q, if_pos rfl]
      cases e : gt far (tie net i).2 with
      | none => rfl
      | some y =>
        rw [ofd hz]
        rfl
    · rw [decide_eq_false q]
      rfl
  rw [key]
  simp only [Res.bind_ok]
  cases q : nearer net (gt far) here z i with
  | true =>
    refine GoodE.rt ?_
    rw [hf, List.find?_cons, q]
    rfl
  | false =>
    refine GoodE.nx ⟨fun j hj => hm j (List.mem_cons_of_mem _ hj), ?_⟩
    rw [hf, List.find?_cons, q]
theorem e_reached {net : Net} (h : NetOk net) {is : List Int} (hi : Ids net is) {g : Int} (g0 : 0 ≤ g) (g1 : g < net.1) {K : KM} (kK : KOk net.1 K) (nnK : ∀ v y, gt K v = some y → 0 ≤ y ∧ y < K.length) : ∃ F, t_reached net is g K = .ok F ∧ KOk net.1 F ∧ (∀ v y, gt F v = some y → 0 ≤ y ∧ y < F.length) ∧ Dist (is.map fun i => ((tie net i).2, (tie net i).1)) (fun v => if v = g then some 0 else gt K v) (gt F) := by
  have hi8 := h.hi
  have lo := h.lo
  have lK := kK.len hi8
  let K1 : Int → Option Int := fun v => if v = g then some 0 else gt K v
  have hK : ∀ v, gt K v = none → K1 v = none ∨ K1 v = some 0 := fun v e => by
    show (if v = g then some 0 else gt K v) = none ∨ (if v = g then some 0 else gt K v) = some 0
    by_cases q : v = g
    · right; rw [if_pos q]
    · left; rw [if_neg q]; exact e
  let clo : KM → Prop := fun F => ∀ e ∈ is.map (tie net), ∀ y, gt F e.2 = some y → (gt K e.1).isSome = false → ¬ y + 1 < (gt F e.1).getD 99
  have start : Rv net.1 (is.map (tie net)) K1 (pt K g 0) := by
    refine ⟨kK.pt 0 ⟨g0, g1⟩, fun v x e => by rw [gt_pt]; exact e, fun v y e e2 => ?_, fun v y e => ?_⟩
    · rw [gt_pt] at e
      have e2 : (if v = g then some 0 else gt K v) = none := e2
      rw [e2] at e
      cases e
    · rw [gt_pt] at e
      have pl := pt_len2 (m := K) (k := g) (v := 0)
      by_cases q : v = g
      · rw [if_pos q] at e
        cases e
        cases e3 : gt K g with
        | none => rw [e3] at pl; simp at pl; omega
        | some y =>
          have := nnK g y e3
          rw [e3] at pl
          simp at pl
          omega
      · rw [if_neg q] at e
        have := nnK v y e
        split at pl <;> omega
  have fin : ∀ {F : KM}, Rv net.1 (is.map (tie net)) K1 F → clo F → KOk net.1 F ∧ (∀ v y, gt F v = some y → 0 ≤ y ∧ y < F.length) ∧ Dist (is.map fun i => ((tie net i).2, (tie net i).1)) K1 (gt F) := fun {F} hR hc => by
    have lF := hR.kok.len hi8
    have cl : ∀ u v x, (v, u) ∈ is.map (tie net) → K1 v = none → gt F u = some x → ∃ y, gt F v = some y ∧ y ≤ x + 1 := fun u v x he hv hx => by
      have hKv : gt K v = none := by
        have hv : (if v = g then some 0 else gt K v) = none := hv
        by_cases q : v = g
        · rw [if_pos q] at hv; cases hv
        · rw [if_neg q] at hv; exact hv
      have := hc (v, u) he x hx (by rw [hKv]; rfl)
      have nx := hR.nn u x hx
      cases e : gt F v with
      | none => rw [e] at this; simp only [Option.getD_none] at this; omega
      | some y => rw [e] at this; simp only [Option.getD_some] at this; exact ⟨y, rfl, by omega⟩
    have sw : ∀ {u v : Int}, (u, v) ∈ is.map (fun i => ((tie net i).2, (tie net i).1)) ↔ (v, u) ∈ is.map (tie net) := fun {u v} => by
      simp only [List.mem_map, Prod.ext_iff]
      exact exists_congr fun i => and_congr_right fun _ => and_comm
    refine ⟨hR.kok, hR.nn, hR.base, fun u v x he hv hx => cl u v x (sw.mp he) hv hx, fun v y e hv => ?_, fun v y e => (hR.nn v y e).1⟩
    obtain ⟨u, z, h1, h2, h3⟩ := hR.wsup v y e hv
    obtain ⟨y', e2, h4⟩ := cl u v z h1 hv h2
    rw [e] at e2
    cases e2
    exact ⟨u, sw.mpr h1, by rw [h2, show y - 1 = z by omega]⟩
  unfold t_reached tb_reached
  suffices q : Good (endR _) (fun F => KOk net.1 F ∧ (∀ v y, gt F v = some y → 0 ≤ y ∧ y < F.length) ∧ Dist (is.map fun i => ((tie net i).2, (tie net i).1)) (fun v => if v = g then some 0 else gt K v) (gt F)) from q.imp fun F z => z
  refine Good.endR ?_
  simp only [Res.bind_ok]
  rw [putD_ok (by omega)]
  simp only [Res.bind_ok]
  refine GoodE.bindE (P := fun s => Rv net.1 (is.map (tie net)) K1 s.1 ∧ clo s.1) ?_ fun s hs => GoodE.rt (fin hs.1 hs.2)
  have bd : ∀ F : KM, Rv net.1 (is.map (tie net)) K1 F → mass net.1 F ≤ 99 * 8 := fun F hR => by
    have := sum_bd (f := fun v => ((gt F v).getD 99).toNat) (b := 99) (l := rngI net.1.toNat) fun v _ => by
      cases e : gt F v with
      | none => simp
      | some y =>
        have := hR.nn v y e
        have := hR.kok.len hi8
        simp only [Option.getD_some]
        omega
    rw [rngI_len] at this
    unfold mass
    have h8 : net.1.toNat ≤ 8 := by omega
    exact Nat.le_trans this (Nat.mul_le_mul_left 99 h8)
  refine GoodE.while (fun m s => Rv net.1 (is.map (tie net)) K1 s.1 ∧ (s.2 = true → m = mass net.1 s.1 + 1) ∧ (s.2 = false → m = 0 ∧ clo s.1)) (fun m s ⟨hR, m1, m2⟩ => ⟨_, rfl, fun hc => ⟨hR, (m2 hc).2⟩, fun hc => ?_⟩) 1000000 (n := mass net.1 (pt K g 0) + 1) ⟨start, fun _ => rfl, fun z => (nomatch z)⟩ (by have := bd _ start; omega)
  obtain ⟨F, ch⟩ := s
  dsimp only at hR m1 m2 hc ⊢
  have mm := m1 hc
  have r0 : RvM net.1 (is.map (tie net)) K K1 F [] (F, false) := ⟨hR, fun _ => ⟨rfl, fun _ z => (nomatch z)⟩, fun z => (nomatch z)⟩
  have rf := r0.fold hK (post := is.map (tie net)) (fun q hq => by
    refine ⟨hq, ?_⟩
    obtain ⟨i, hii, rfl⟩ := List.mem_map.mp hq
    obtain ⟨_, tk, _⟩ := tie_at h (hi.1 i hii).1 (hi.1 i hii).2
    exact ⟨tk.1, tk.2.1⟩)
  rw [List.nil_append] at rf
  refine GoodE.bindE (P := fun s => RvM net.1 (is.map (tie net)) K K1 F (is.map (tie net)) s) ?_ fun s hs => GoodE.nx ?_
  · refine GoodE.fold (fun a i => rc K a (tie net i)) (fun a => ∃ dn, RvM net.1 (is.map (tie net)) K K1 F dn a) (fun i hii a ⟨dn, ha⟩ => ?_) ⟨[], r0⟩ fun _ => ?_
    · obtain ⟨F1, c1⟩ := a
      obtain ⟨e1, tk, _⟩ := tie_at h (hi.1 i hii).1 (hi.1 i hii).2
      have l1 := ha.rv.kok.len hi8
      have st := ha.step hK (List.mem_map_of_mem hii) ⟨tk.1, tk.2.1⟩
      refine ⟨?_, _, st⟩
      dsimp only at l1 ⊢
      rw [e1]
      simp only [Res.bind_ok]
      unfold rc
      dsimp only
      rw [dg_gt, dg_gt, dg_gt]
      cases e : gt F1 (tie net i).2 with
      | none => rfl
      | some y =>
        dsimp only
        rw [Option.isSome_some, if_pos rfl]
        by_cases q1 : (gt K (tie net i).1).isSome = false
        · rw [q1]
          show ((((Res.of (some y)).bind fun r => Res.ok (decide (r + 1 < (gt F1 (tie net i).1).getD 99))).bind _).bindE _) = _
          by_cases q2 : y + 1 < (gt F1 (tie net i).1).getD 99
          · rw [if_pos ⟨rfl, q2⟩]
            show (((Res.ok (decide (y + 1 < (gt F1 (tie net i).1).getD 99))).bind _).bindE _) = _
            rw [decide_eq_true q2]
            show (((putD F1 (tie net i).1 (y + 1)).bind _).bindE _) = _
            rw [putD_ok (by omega)]
            rfl
          · rw [if_neg fun z => q2 z.2]
            show (((Res.ok (decide (y + 1 < (gt F1 (tie net i).1).getD 99))).bind _).bindE _) = _
            rw [decide_eq_false q2]
            rfl
        · rw [Bool.not_eq_false] at q1
          rw [q1, if_neg (show ¬ (true = false ∧ y + 1 < (gt F1 (tie net i).1).getD 99) from fun z => nomatch z.1)]
          rfl
    · rw [foldl_map' (rc K) (tie net)]
      exact rf
  · obtain ⟨F', c'⟩ := s
    cases c' with
    | true => exact ⟨mass net.1 F' + 1, by have := hs.less rfl; dsimp only at this; omega, hs.rv, fun _ => rfl, fun z => (nomatch z)⟩
    | false =>
      obtain ⟨e, hcl⟩ := hs.same rfl
      dsimp only at e
      exact ⟨0, by omega, hs.rv, fun z => (nomatch z), fun _ => ⟨rfl, by dsimp only; rw [e]; exact hcl⟩⟩
end DL
set_option Elab.async false
set_option linter.all false
set_option maxRecDepth 100000
set_option maxHeartbeats 4000000
namespace DL
open PySem PySem.Spec PyProof.Rows L2
open En (en)
/-! ### tables, cell by cell -/
def tab (n : Int) (f : Int → Int → Int) : List (List Int) := (rng 0 n.toNat).map fun h => (rng 0 n.toNat).map fun g => f h g
theorem rng_get {n : Nat} {i : Int} (h0 : 0 ≤ i) (h1 : i < n) : (rng 0 n)[i.toNat]? = some i := by
  unfold rng
  rw [List.getElem?_map, List.getElem?_range (by omega)]
  show some (0 + ((i.toNat : Nat) : Int)) = _
  congr 1
  omega
theorem rng_set {α : Type} {n : Nat} {i : Int} (h0 : 0 ≤ i) (h1 : i < n) (f : Int → α) (v : α) : ((rng 0 n).map f).set i.toNat v = (rng 0 n).map fun j => if j = i then v else f j := by
  refine List.ext_getElem? fun k => ?_
  rw [set_get, List.length_map, rng_len]
  by_cases e : k = i.toNat
  · subst e
    rw [if_pos rfl, if_pos (by omega), List.getElem?_map, rng_get h0 h1]
    show _ = some (if i = i then v else f i)
    rw [if_pos rfl]
  · rw [if_neg e, List.getElem?_map, List.getElem?_map]
    by_cases hk : k < n
    · have : (rng 0 n)[k]? = some (k : Int) := by
        have := rng_get (n := n) (i := (k : Int)) (by omega) (by omega)
        rwa [Int.toNat_natCast] at this
      rw [this]
      show some (f k) = some (if (k : Int) = i then v else f k)
      rw [if_neg (by omega)]
    · rw [List.getElem?_eq_none (by rw [rng_len]; omega)]
      rfl
theorem setII_tab {n h g : Int} (h0 : 0 ≤ h ∧ h < n) (g0 : 0 ≤ g ∧ g < n) (f : Int → Int → Int) (v : Int) : setII (tab n f) h g v = .ok (tab n fun a b => if a = h ∧ b = g then v else f a b) := by
  have e : (tab n f)[h.toNat]? = some ((rng 0 n.toNat).map fun g => f h g) := by
    unfold tab
    rw [List.getElem?_map, rng_get h0.1 (by omega)]
    rfl
  rw [setII_ok h0.1 e g0.1 (by rw [List.length_map, rng_len]; omega), rng_set g0.1 (by omega)]
  unfold tab
  rw [rng_set h0.1 (by omega)]
  congr 1
  refine List.map_congr_left fun a _ => ?_
  by_cases q : a = h
  · rw [if_pos q]
    refine List.map_congr_left fun b _ => ?_
    dsimp only
    by_cases q2 : b = g
    · rw [if_pos q2, if_pos ⟨q, q2⟩]
    · rw [if_neg q2, if_neg fun z => q2 z.2, q]
  · rw [if_neg q]
    refine List.map_congr_left fun b _ => ?_
    dsimp only
    rw [if_neg fun z => q z.1]
theorem tab_congr {n : Int} {f f' : Int → Int → Int} (h : ∀ a b, 0 ≤ a → a < n → 0 ≤ b → b < n → f a b = f' a b) : tab n f = tab n f' := List.map_congr_left fun a ha => List.map_congr_left fun b hb => by
  have := mem_rng.mp ha
  have := mem_rng.mp hb
  exact h a b (by omega) (by omega) (by omega) (by omega)
theorem rep_rng {α : Type} (n : Nat) (x : α) : (List.replicate n [x]).flatten = (rng 0 n).map fun _ => x := by
  unfold rng
  rw [List.map_map]
  have : ((List.range n).map ((fun _ => x) ∘ fun (i : Nat) => (0 : Int) + (i : Int))) = List.replicate n x := by
    rw [List.eq_replicate_iff]
    exact ⟨by simp, fun b hb => by
      obtain ⟨_, _, rfl⟩ := List.mem_map.mp hb
      rfl⟩
  rw [this]
  induction n with
  | zero => rfl
  | succ n ih =>
    rw [List.replicate_succ, List.flatten_cons, List.replicate_succ, List.singleton_append]
    congr 1
    exact ih (by rw [List.eq_replicate_iff]; exact ⟨by simp, fun b hb => by
      obtain ⟨_, _, rfl⟩ := List.mem_map.mp hb
      rfl⟩)
theorem mem_sortI {xs : List Int} {x : Int} : x ∈ sortI xs ↔ x ∈ xs := (List.mergeSort_perm xs _).mem_iff
def resF (r : Res KM) : KM := match r with
  | .ok F => F
  | _ => []
/-! what a table by bending tells -/
noncomputable def F1 (net : Net) (downs : List Int) (g : Int) : KM := resF (t_reached net downs g [])
noncomputable def F2 (net : Net) (ups downs : List Int) (g : Int) : KM := resF (t_reached net ups g (F1 net downs g))
def swp (net : Net) (is : List Int) : List (Int × Int) := is.map fun i => ((tie net i).2, (tie net i).1)
structure Geo (net : Net) (ups downs : List Int) (g : Int) : Prop where
  e1 : t_reached net downs g [] = .ok (F1 net downs g)
  e2 : t_reached net ups g (F1 net downs g) = .ok (F2 net ups downs g)
  k1 : KOk net.1 (F1 net downs g)
  k2 : KOk net.1 (F2 net ups downs g)
  n1 : ∀ v y, gt (F1 net downs g) v = some y → 0 ≤ y ∧ y < net.1
  n2 : ∀ v y, gt (F2 net ups downs g) v = some y → 0 ≤ y ∧ y < net.1
  d1 : Dist (swp net downs) (fun v => if v = g then some 0 else none) (gt (F1 net downs g))
  d2 : Dist (swp net ups) (gt (F1 net downs g)) (gt (F2 net ups downs g))
theorem geo {net : Net} (h : NetOk net) {ups downs : List Int} (hu : Ids net ups) (hd : Ids net downs) {g : Int} (g0 : 0 ≤ g) (g1 : g < net.1) : Geo net ups downs g := by
  obtain ⟨A, a1, a2, a3, a4⟩ := e_reached h hd g0 g1 (K := []) ⟨by simp, fun k hk => (nomatch hk)⟩ fun v y e => by cases e
  have eA : F1 net downs g = A := by unfold F1; rw [a1]; rfl
  have gA : gt A g = some 0 := a4.base g 0 (if_pos rfl)
  obtain ⟨B, b1, b2, b3, b4⟩ := e_reached h hu g0 g1 a2 a3
  have eB : F2 net ups downs g = B := by unfold F2; rw [eA, b1]; rfl
  have l1 := a2.lenN
  have l2 := b2.lenN
  have eK : (fun v => if v = g then some 0 else gt A v) = gt A := by
    funext v
    by_cases q : v = g
    · rw [if_pos q, q, gA]
    · rw [if_neg q]
  rw [eK] at b4
  refine ⟨by rw [eA, a1], by rw [eA, eB, b1], by rw [eA]; exact a2, by rw [eB]; exact b2, fun v y e => ?_, fun v y e => ?_, ?_, by rw [eA, eB]; exact b4⟩
  · rw [eA] at e
    have := a3 v y e
    omega
  · rw [eB] at e
    have := b3 v y e
    omega
  · rw [eA]
    have : (fun v => if v = g then some 0 else gt [] v) = (fun v => if v = g then some 0 else none) := by
      funext v
      rfl
    rw [← this]
    exact a4
/-- the tie told for a goal and a house, by the ways A of downs, B of all -/
def cellV (net : Net) (ups downs : List Int) (A B : Int → Option Int) (g h : Int) : Int := if h = g then -1 else match B h with
  | none => -1
  | some z => ((if (A h).isSome = true then downs else ups).find? (nearer net (if (A h).isSome = true then A else B) h z)).getD (-1)
noncomputable def cellT (net : Net) (ups downs : List Int) (g h : Int) : Int := cellV net ups downs (gt (F1 net downs g)) (gt (F2 net ups downs g)) g h
def upB (net : Net) (D : Int → Option Int) (i : Int) : Bool := match D (tie net i).2, D (tie net i).1 with
  | some a, some b => lt2 (a, (tie net i).2) (b, (tie net i).1)
  | _, _ => false
def oneI (net : Net) (is : List Int) (D : Int → Option Int) : List Int := is.filter fun i => (D (tie net i).1).isSome
def upsI (net : Net) (is : List Int) (D : Int → Option Int) : List Int := (oneI net is D).filter (upB net D)
def downsI (net : Net) (is : List Int) (D : Int → Option Int) : List Int := (oneI net is D).filter fun i => !memL i (upsI net is D)
noncomputable def bentT (net : Net) (is : List Int) (D : Int → Option Int) (h g : Int) : Int := if (D g).isSome = true then cellT net (upsI net is D) (downsI net is D) g h else -1
/-- what a search by levels gave -/
structure NearOk (net : Net) (is : List Int) (N : KM) : Prop where
  kok : KOk net.1 N
  clos : ∀ i ∈ is, ∀ x, gt N (tie net i).1 = some x → (gt N (tie net i).2).isSome = true
theorem far_near {net : Net} {is : List Int} {N : KM} (hi : Ids net is) (hN : NearOk net is N) {g : Int} (G : Geo net (upsI net is (gt N)) (downsI net is (gt N)) g) (hg : (gt N g).isSome = true) {h : Int} (hh : (gt (F2 net (upsI net is (gt N)) (downsI net is (gt N)) g) h).isSome = true) : (gt N h).isSome = true := by
  have beg : ∀ (p : Int → Bool), ∀ {u v : Int}, (u, v) ∈ swp net ((oneI net is (gt N)).filter p) → (gt N v).isSome = true := fun p u v huv => by
    obtain ⟨i, hi, e⟩ := List.mem_map.mp huv
    have := (List.mem_filter.mp (List.mem_filter.mp hi).1).2
    cases e
    exact this
  cases e2 : gt (F2 net (upsI net is (gt N)) (downsI net is (gt N)) g) h with
  | none => rw [e2] at hh; cases hh
  | some y =>
    cases e1 : gt (F1 net (downsI net is (gt N)) g) h with
    | none =>
      obtain ⟨u, hu, _⟩ := G.d2.supp h y e2 e1
      exact beg _ hu
    | some x =>
      by_cases q : h = g
      · rw [q]; exact hg
      · obtain ⟨u, hu, _⟩ := G.d1.supp h x e1 (if_neg q)
        exact beg _ hu
theorem one_ids {net : Net} {is : List Int} (hi : Ids net is) (D : Int → Option Int) : Ids net (oneI net is D) ∧ Ids net (upsI net is D) ∧ Ids net (downsI net is D) := ⟨hi.fil _, (hi.fil _).fil _, (hi.fil _).fil _⟩
theorem key_some {N : KM} {k : Int} : k ∈ keysD N ↔ (gt N k).isSome = true := gt_mem.symm
/-- the loop over houses, for one goal: c tells what is stored -/
theorem GoodE.cells {ρ : Type} {n g : Int} {keys : List Int} {b : Int → List (List Int) → Res (Ex (List (List Int)) ρ)} {R : ρ → Prop} (f : Int → Int → Int) (T : Int → Int) (hk : ∀ h ∈ keys, 0 ≤ h ∧ h < n) (g0 : 0 ≤ g ∧ g < n) (hT : ∀ h, f h g = T h ∨ f h g = -1) (hb : ∀ h ∈ keys, ∀ f', b h (tab n f') = .ok (.nx (tab n fun a c => if a = h ∧ c = g then T h else f' a c)) ∨ (T h = -1 ∧ b h (tab n f') = .ok (.nx (tab n f')))) : GoodE (forR b keys (tab n f)) (fun rows => rows = tab n fun a c => if c = g ∧ a ∈ keys then T a else f a c) R := by
  refine GoodE.forD (fun dn rows => rows = tab n fun a c => if c = g ∧ a ∈ dn then T a else f a c) ?_ fun h dn as rows e hr => ?_
  · refine tab_congr fun a c _ _ _ _ => ?_
    rw [if_neg fun z => nomatch z.2]
  · subst hr
    have hm : h ∈ keys := by rw [e]; exact List.mem_append_right _ List.mem_cons_self
    rcases hb h hm (fun a c => if c = g ∧ a ∈ dn then T a else f a c) with q | ⟨t, q⟩
    · rw [q]
      refine GoodE.nx (tab_congr fun a c _ _ _ _ => ?_)
      by_cases z : a = h ∧ c = g
      · rw [if_pos z, if_pos ⟨z.2, List.mem_append_right _ (List.mem_singleton.mpr z.1)⟩, z.1]
      · rw [if_neg z]
        by_cases z2 : c = g ∧ a ∈ dn
        · rw [if_pos z2, if_pos ⟨z2.1, List.mem_append_left _ z2.2⟩]
        · rw [if_neg z2, if_neg fun w => (List.mem_append.mp w.2).elim (fun v => z2 ⟨w.1, v⟩) fun v => z ⟨List.mem_singleton.mp v, w.1⟩]
    · rw [q]
      refine GoodE.nx (tab_congr fun a c _ _ _ _ => ?_)
      by_cases z2 : c = g ∧ a ∈ dn
      · rw [if_pos z2, if_pos ⟨z2.1, List.mem_append_left _ z2.2⟩]
      · rw [if_neg z2]
        by_cases z : c = g ∧ a = h
        · rw [if_pos ⟨z.1, List.mem_append_right _ (List.mem_singleton.mpr z.2)⟩, z.1, z.2, t]
          rcases hT h with w | w
          · rw [w, t]
          · exact w
        · rw [if_neg fun w => (List.mem_append.mp w.2).elim (fun v => z2 ⟨w.1, v⟩) fun v => z ⟨w.1, List.mem_singleton.mp v⟩]
/-- the loop over goals -/
theorem GoodE.goals {ρ : Type} {n : Int} {gs : List Int} {b : Int → List (List Int) → Res (Ex (List (List Int)) ρ)} {R : ρ → Prop} (T : Int → Int → Int) (hk : ∀ g ∈ gs, 0 ≤ g ∧ g < n) (hb : ∀ g ∈ gs, ∀ f, (∀ h, f h g = T h g ∨ f h g = -1) → GoodE (b g (tab n f)) (fun rows => rows = tab n fun a c => if c = g then T a g else f a c) R) : GoodE (forR b gs (tab n fun _ _ => -1)) (fun rows => rows = tab n fun a c => if c ∈ gs then T a c else -1) R := by
  refine GoodE.forD (fun dn rows => rows = tab n fun a c => if c ∈ dn then T a c else -1) ?_ fun g dn as rows e hr => ?_
  · refine tab_congr fun a c _ _ _ _ => ?_
    rw [if_neg fun z => nomatch z]
  · subst hr
    refine (hb g (by rw [e]; exact List.mem_append_right _ List.mem_cons_self) _ fun h => ?_).mono fun o ho => ?_
    · by_cases z : g ∈ dn
      · exact .inl (if_pos z)
      · exact .inr (if_neg z)
    · cases o with
      | rt c => exact ho
      | nx rows =>
        refine Eq.trans ho (tab_congr fun a c _ _ _ _ => ?_)
        by_cases z : c = g
        · rw [if_pos z, if_pos (List.mem_append_right _ (List.mem_singleton.mpr z)), z]
        · rw [if_neg z]
          by_cases z2 : c ∈ dn
          · rw [if_pos z2, if_pos (List.mem_append_left _ z2)]
          · rw [if_neg z2, if_neg fun w => (List.mem_append.mp w).elim z2 fun v => z (List.mem_singleton.mp v)]
noncomputable def tabT (net : Net) (is : List Int) (D : Int → Option Int) : Tp (Tp Int) := Tp.mk ((tab net.1 (bentT net is D)).map Tp.mk)
theorem tab_len (n : Int) (f : Int → Int → Int) : (tab n f).length = n.toNat := by unfold tab; rw [List.length_map, rng_len]
theorem e_bent {net : Net} (h : NetOk net) {fallen : List Int} (hf : Ids net fallen) {root : Int} (h0 : 0 ≤ root) (h1 : root < net.1) : ∃ N, Bfs net.1 ((useI net fallen).map (tie net)) root N [] ∧ t_bent net fallen root = .ok (tabT net (useI net fallen) (gt N)) := by
  have lo := h.lo
  have hi8 := h.hi
  obtain ⟨ids, asc⟩ := use_ids h fallen
  obtain ⟨N, eN, hB⟩ := e_levels h ids h0 h1
  have lN := hB.kok.len hi8
  refine ⟨N, hB, ?_⟩
  have nk : NearOk net (useI net fallen) N := ⟨hB.kok, fun i hi x hx => by
    obtain ⟨y, e, _⟩ := hB.clos (tie net i).1 (tie net i).2 x (List.mem_map_of_mem hi) hx (fun z => nomatch z)
    rw [e]; rfl⟩
  obtain ⟨i1, i2, i3⟩ := one_ids ids (gt N)
  have l0 := ids.2
  have l1 := i1.2
  unfold t_bent tb_bent
  suffices q : Good (endR _) (fun F => F = tabT net (useI net fallen) (gt N)) by
    obtain ⟨F, e, rfl⟩ := q
    exact e
  refine Good.endR ?_
  rw [e_need_net h]
  simp only [Res.bind_ok]
  rw [e_need_ties hf h0 h1]
  simp only [Res.bind_ok]
  rw [e_usable h]
  simp only [Res.bind_ok]
  rw [eN]
  simp only [Res.bind_ok]
  refine Good.eq (a := oneI net (useI net fallen) (gt N)) (compG_fil (p := fun i => (gt N (tie net i).1).isSome) (xs := useI net fallen) (by omega) (fun i hi => by
    rw [(tie_at h (ids.1 i hi).1 (ids.1 i hi).2).1]
    rfl) (fun _ _ => rfl)) ?_
  refine Good.eq (a := upsI net (useI net fallen) (gt N)) (compG_fil (p := upB net (gt N)) (xs := oneI net (useI net fallen) (gt N)) (by omega) (fun i hi => by
    obtain ⟨m1, m2⟩ := List.mem_filter.mp hi
    cases e1 : gt N (tie net i).1 with
    | none => rw [e1] at m2; cases m2
    | some b =>
      have := nk.clos i m1 b e1
      cases e2 : gt N (tie net i).2 with
      | none => rw [e2] at this; cases this
      | some a =>
        rw [e_is_up h (i1.1 i hi) e2 e1]
        unfold upB
        rw [e1, e2]) (fun _ _ => rfl)) ?_
  refine Good.eq (a := downsI net (useI net fallen) (gt N)) (compG_fil (p := fun i => !memL i (upsI net (useI net fallen) (gt N))) (xs := oneI net (useI net fallen) (gt N)) (by omega) (fun _ _ => rfl) (fun _ _ => rfl)) ?_
  rw [rngR_ok (show 0 ≤ net.1 by omega) (by omega)]
  simp only [Res.bind_ok]
  refine Good.eq (a := tab net.1 fun _ _ => -1) (compG_all (xs := rng 0 net.1.toNat) (g := fun _ => (rng 0 net.1.toNat).map fun _ => (-1 : Int)) (by rw [rng_len]; omega) (fun _ _ => rfl) fun _ _ => by
    rw [mulL_ok (by omega) (by omega) (by simp), rep_rng]) ?_
  have sk : sortKeys N = .ok (sortI (keysD N)) := by
    unfold sortKeys
    rw [decide_eq_true (show N.length < 64 by omega)]
    rfl
  rw [sk]
  simp only [Res.bind_ok]
  have kin : ∀ g ∈ sortI (keysD N), (0 ≤ g ∧ g < net.1) ∧ (gt N g).isSome = true := fun g hg => by
    have := mem_sortI.mp hg
    exact ⟨hB.kok.rg g this, key_some.mp this⟩
  refine GoodE.bindE (P := fun rows => rows = tab net.1 fun a c => if c ∈ sortI (keysD N) then bentT net (useI net fallen) (gt N) a c else -1) ?_ fun rows hr => ?_
  · refine GoodE.goals (bentT net (useI net fallen) (gt N)) (fun g hg => (kin g hg).1) fun g hg f hT => ?_
    obtain ⟨⟨g0, g1⟩, gN⟩ := kin g hg
    have G := geo h i2 i3 g0 g1
    rw [G.e1]
    simp only [Res.bind_ok]
    rw [G.e2]
    simp only [Res.bind_ok]
    refine GoodE.bindE (P := fun rows => rows = tab net.1 fun a c => if c = g ∧ a ∈ sortI (keysD N) then bentT net (useI net fallen) (gt N) a g else f a c) ?_ fun rows hr => GoodE.nx ?_
    · refine GoodE.cells f (fun a => bentT net (useI net fallen) (gt N) a g) (fun a ha => (kin a ha).1) ⟨g0, g1⟩ hT fun a ha f' => ?_
      obtain ⟨ha0, _⟩ := kin a ha
      have val : bentT net (useI net fallen) (gt N) a g = cellT net (upsI net (useI net fallen) (gt N)) (downsI net (useI net fallen) (gt N)) g a := if_pos gN
      by_cases q : a = g
      · right
        refine ⟨?_, ?_⟩
        · rw [val]
          unfold cellT cellV
          rw [if_pos q]
        · rw [decide_eq_true q]
          rfl
      · cases e2 : gt (F2 net (upsI net (useI net fallen) (gt N)) (downsI net (useI net fallen) (gt N)) g) a with
        | none =>
          right
          refine ⟨?_, ?_⟩
          · rw [val]
            unfold cellT cellV
            rw [if_neg q, e2]
          · rw [decide_eq_false q, dg_gt, e2]
            rfl
        | some z =>
          left
          rw [decide_eq_false q, dg_gt, e2]
          have st : (((if (gt (F1 net (downsI net (useI net fallen) (gt N)) g) a).isSome = true then Res.ok (downsI net (useI net fallen) (gt N)) else Res.ok (upsI net (useI net fallen) (gt N)) : Res (List Int))).bind fun r125 => ((if (gt (F1 net (downsI net (useI net fallen) (gt N)) g) a).isSome = true then Res.ok (F1 net (downsI net (useI net fallen) (gt N)) g) else Res.ok (F2 net (upsI net (useI net fallen) (gt N)) (downsI net (useI net fallen) (gt N)) g) : Res KM)).bind fun r126 => (t_step net r125 r126 a)) = .ok (bentT net (useI net fallen) (gt N) a g) := by
            rw [val]
            unfold cellT cellV
            rw [if_neg q, e2]
            dsimp only
            cases e1 : gt (F1 net (downsI net (useI net fallen) (gt N)) g) a with
            | none =>
              rw [Option.isSome_none, if_neg Bool.false_ne_true, if_neg Bool.false_ne_true, if_neg Bool.false_ne_true, if_neg Bool.false_ne_true]
              exact e_step h i2 e2
            | some x =>
              have := G.d2.base a x e1
              rw [e2] at this
              cases this
              rw [Option.isSome_some, if_pos rfl, if_pos rfl, if_pos rfl, if_pos rfl]
              exact e_step h i3 e1
          show (((((if (gt (F1 net (downsI net (useI net fallen) (gt N)) g) a).isSome = true then Res.ok (downsI net (useI net fallen) (gt N)) else Res.ok (upsI net (useI net fallen) (gt N)) : Res (List Int))).bind fun r125 => ((if (gt (F1 net (downsI net (useI net fallen) (gt N)) g) a).isSome = true then Res.ok (F1 net (downsI net (useI net fallen) (gt N)) g) else Res.ok (F2 net (upsI net (useI net fallen) (gt N)) (downsI net (useI net fallen) (gt N)) g) : Res KM)).bind fun r126 => (t_step net r125 r126 a)).bind _).bindE _) = _
          rw [st]
          show (((setII (tab net.1 f') a g _).bind _).bindE _) = _
          rw [setII_tab ha0 ⟨g0, g1⟩]
          rfl
    · rw [hr]
      refine tab_congr fun a c a0 a1 c0 c1 => ?_
      by_cases z : c = g
      · subst z
        rw [if_pos rfl]
        by_cases z2 : a ∈ sortI (keysD N)
        · rw [if_pos ⟨rfl, z2⟩]
        · rw [if_neg fun w => z2 w.2]
          have : bentT net (useI net fallen) (gt N) a c = -1 := by
            unfold bentT cellT cellV
            rw [if_pos gN]
            by_cases q : a = c
            · rw [if_pos q]
            · rw [if_neg q]
              cases e2 : gt (F2 net (upsI net (useI net fallen) (gt N)) (downsI net (useI net fallen) (gt N)) c) a with
              | none => rfl
              | some y => exact absurd (mem_sortI.mpr (key_some.mpr (far_near ids nk G gN (by rw [e2]; rfl)))) z2
          rcases hT a with w | w
          · exact w
          · rw [w, this]
      · rw [if_neg z, if_neg fun w => z w.1]
  · have e3 : rows = tab net.1 (bentT net (useI net fallen) (gt N)) := hr.trans (tab_congr fun a c _ _ _ _ => by
      by_cases z : c ∈ sortI (keysD N)
      · rw [if_pos z]
      · rw [if_neg z]
        unfold bentT
        rw [if_neg fun w => z (mem_sortI.mpr (key_some.mpr w))])
    subst e3
    rw [Res.bind_assoc]
    refine Good.eq (compG_all (xs := tab net.1 (bentT net (useI net fallen) (gt N))) (g := Tp.mk) (by rw [tab_len]; omega) (fun _ _ => rfl) (fun _ _ => rfl)) ?_
    exact GoodE.rt rfl
end DL
set_option Elab.async false
set_option linter.all false
set_option maxRecDepth 100000
set_option maxHeartbeats 4000000
namespace DL
open PySem PySem.Spec PyProof.Rows L2
open En (en)
theorem foldl_min : ∀ {xs : List Int} {x : Int}, (∀ y ∈ xs, x ≤ y) → xs.foldl min x = x
  | [], _, _ => rfl
  | y :: xs, x, h => by
    rw [List.foldl_cons, Int.min_eq_left (h y List.mem_cons_self)]
    exact foldl_min fun z hz => h z (List.mem_cons_of_mem _ hz)
theorem minI_find {ws : List Int} {q : Int → Bool} (asc : ws.Pairwise (· < ·)) {i : Int} (hi : i ∈ ws) (hq : q i = true) : minI (ws.filter q) = .ok ((ws.find? q).getD (-1)) := by
  rw [← List.head?_filter]
  have asc' := asc.filter q
  have hm : i ∈ ws.filter q := List.mem_filter.mpr ⟨hi, hq⟩
  cases e : ws.filter q with
  | nil => rw [e] at hm; cases hm
  | cons x xs =>
    rw [e] at asc'
    show Res.ok (xs.foldl min x) = _
    rw [foldl_min fun y hy => Int.le_of_lt ((List.pairwise_cons.mp asc').1 y hy)]
    rfl
/-- the law's rounds, walked back -/
theorem e_back {net : Net} (h : NetOk net) {is : List Int} (hi : Ids net is) {ρ : Type} {P : Int → Bool} {b : Int → KM → Res (Ex KM ρ)} {L : KM} (hL : KOk net.1 L) (hb : ∀ i ∈ is, ∀ s, KOk net.1 s → getI net.2.l i = .ok (tie net i) → b i s = .ok (.nx (rx P s ((tie net i).2, (tie net i).1)))) {t : Int → KM → Res (Ex KM ρ)} (ht : ∀ a s, t a s = (forR b is s).bindE fun s => .ok (.nx s)) : forR t (rng 0 net.1.toNat) L = .ok (.nx (rounds P (swp net is) net.1.toNat L)) ∧ KOk net.1 (rounds P (swp net is) net.1.toNat L) := by
  have := rounds_for (n := net.1) (P := P) (es := swp net is) (b := t) (fun a s hs => by
    obtain ⟨e, k⟩ := forR_fold (b := b) (fun s i => rx P s ((tie net i).2, (tie net i).1)) (KOk net.1) (xs := is) (x := s) (fun i hii s hs => by
      obtain ⟨e1, tk, _⟩ := tie_at h (hi.1 i hii).1 (hi.1 i hii).2
      exact ⟨hb i hii s hs e1, hs.rx ⟨tk.1, tk.2.1⟩⟩) hs
    rw [foldl_map' (rx P) (fun i => ((tie net i).2, (tie net i).1))] at e k
    refine ⟨?_, k⟩
    rw [ht, e]
    rfl) (rng 0 net.1.toNat) hL
  rw [rng_len] at this
  exact this
theorem lookup_far {net : Net} {ups downs : List Int} {g : Int} (hi8 : net.1 ≤ 8) (G : Geo net ups downs g) : (∀ v, gt (rounds (fun _ => true) (swp net downs) net.1.toNat [(g, 0)]) v = gt (F1 net downs g) v) ∧ ∀ L1 : KM, (∀ v, gt L1 v = gt (F1 net downs g) v) → ∀ v, gt (rounds (fun v => !(gt L1 v).isSome) (swp net ups) net.1.toNat L1) v = gt (F2 net ups downs g) v := by
  refine ⟨rounds_all (K := fun v => if v = g then some 0 else none) ⟨G.d1, fun v y e => by have := G.n1 v y e; omega, fun u v x hu _ hx => ?_, fun _ _ => rfl⟩ (fun v y e => by have := G.n1 v y e; omega) (fun v => ?_), fun L1 hL => rounds_all (K := gt (F1 net downs g)) ⟨G.d2, fun v y e => by have := G.n2 v y e; omega, fun u v x hu hp hx => ?_, fun v hv => ?_⟩ (fun v y e => by have := G.n2 v y e; omega) hL⟩
  · by_cases q : v = g
    · rw [q]
      have := G.n1 u x hx
      exact ⟨0, G.d1.base g 0 (if_pos rfl), by omega⟩
    · exact G.d1.clos u v x hu (if_neg q) hx
  · unfold gt
    by_cases q : v = g
    · simp [q]
    · have : ¬ g = v := fun z => q z.symm
      simp [q, this]
  · refine G.d2.clos u v x hu ?_ hx
    rw [← hL]
    cases e : gt L1 v with
    | none => rfl
    | some _ => rw [e] at hp; cases hp
  · show (!(gt L1 v).isSome) = true
    rw [hL, hv]
    rfl
theorem swp_mem {net : Net} {is : List Int} {u v : Int} (h : (u, v) ∈ swp net is) : ∃ i ∈ is, (tie net i).1 = v ∧ (tie net i).2 = u := by
  obtain ⟨i, hi, e⟩ := List.mem_map.mp h
  cases e
  exact ⟨i, hi, rfl, rfl⟩
theorem near_hit {net : Net} {D : Int → Option Int} {h z i y : Int} (e1 : (tie net i).1 = h) (e2 : D (tie net i).2 = some y) (e3 : y + 1 = z) : nearer net D h z i = true := by
  unfold nearer
  rw [decide_eq_true e1, e2]
  show decide (y + 1 = z) = true
  exact decide_eq_true e3
theorem e_due {net : Net} (h : NetOk net) {fallen : List Int} {root : Int} (h0 : 0 ≤ root) (h1 : root < net.1) {N : KM} (hB : Bfs net.1 ((useI net fallen).map (tie net)) root N []) : t__law_due net fallen root = .ok (tabT net (useI net fallen) (gt N)) := by
  have lo := h.lo
  have hi8 := h.hi
  obtain ⟨ids, asc⟩ := use_ids h fallen
  obtain ⟨eL, kL⟩ := e_near h ids h0 h1
  have gL := near_eq hi8 hB
  obtain ⟨L0, hL0⟩ : ∃ L, L = rounds (fun _ => true) ((useI net fallen).map (tie net)) net.1.toNat [(root, 0)] := ⟨_, rfl⟩
  rw [← hL0] at eL kL gL
  have nk : NearOk net (useI net fallen) N := ⟨hB.kok, fun i hi x hx => by
    obtain ⟨y, e, _⟩ := hB.clos (tie net i).1 (tie net i).2 x (List.mem_map_of_mem hi) hx (fun z => nomatch z)
    rw [e]; rfl⟩
  obtain ⟨i1, i2, i3⟩ := one_ids ids (gt N)
  have l0 := ids.2
  have l1 := i1.2
  have l3 := i3.2
  have l2 := i2.2
  have asc1 : (oneI net (useI net fallen) (gt N)).Pairwise (· < ·) := asc.filter _
  unfold t__law_due tb__law_due
  suffices q : Good (endR _) (fun F => F = tabT net (useI net fallen) (gt N)) by
    obtain ⟨F, e, rfl⟩ := q
    exact e
  refine Good.endR ?_
  rw [e_of_use h]
  simp only [Res.bind_ok]
  rw [eL]
  simp only [Res.bind_ok]
  refine Good.eq (a := oneI net (useI net fallen) (gt N)) (compG_fil (p := fun i => (gt N (tie net i).1).isSome) (xs := useI net fallen) (by omega) (fun i hi => by
    rw [(tie_at h (ids.1 i hi).1 (ids.1 i hi).2).1]
    show Res.ok (gt L0 (tie net i).1).isSome = _
    rw [gL]) (fun _ _ => rfl)) ?_
  refine GoodE.bindE (P := fun u => u = upsI net (useI net fallen) (gt N)) ?_ fun u hu => ?_
  · have step := GoodE.forD (ρ := Tp (Tp Int)) (R := fun F => F = tabT net (useI net fallen) (gt N)) (xs := oneI net (useI net fallen) (gt N)) (x := ([] : List Int)) (b := fun (k_406 : Int) (s407 : (List Int)) => (((getI net.2.l k_406) : Res (Int × Int)).bind fun p408 => (((Res.of (dg L0 p408.2))).bind fun r409 => ((Res.of (dg L0 p408.1))).bind fun r410 => ((mulL [k_406] (if (lt2 (r409, p408.2) (r410, p408.1)) = true then (1 : Int) else 0))).bind fun r411 => (addL s407 r411) : Res (List Int)).bind fun ups_412 => Res.ok (Ex.nx ups_412) : Res (Ex ((List Int)) (Tp (Tp Int))))) (fun dn u => u = dn.filter (upB net (gt N))) rfl (fun i dn as u e hu => by
      subst hu
      have hm : i ∈ oneI net (useI net fallen) (gt N) := by rw [e]; exact List.mem_append_right _ List.mem_cons_self
      have ll : dn.length < 100 := by
        have := congrArg List.length e
        rw [List.length_append, List.length_cons] at this
        omega
      obtain ⟨m1, m2⟩ := List.mem_filter.mp hm
      cases e1 : gt N (tie net i).1 with
      | none => rw [e1] at m2; cases m2
      | some b =>
        have := nk.clos i m1 b e1
        cases e2 : gt N (tie net i).2 with
        | none => rw [e2] at this; cases this
        | some a =>
          rw [(tie_at h (i1.1 i hm).1 (i1.1 i hm).2).1]
          simp only [Res.bind_ok]
          rw [ofg ((gL _).trans e2)]
          simp only [Res.bind_ok]
          rw [ofg ((gL _).trans e1)]
          simp only [Res.bind_ok]
          have ub : upB net (gt N) i = lt2 (a, (tie net i).2) (b, (tie net i).1) := by
            unfold upB
            rw [e1, e2]
          rw [← ub, mulL_ok (by split <;> decide) (by split <;> decide) (by simp)]
          simp only [Res.bind_ok]
          have lf := List.length_filter_le (upB net (gt N)) dn
          cases q : upB net (gt N) i with
          | true =>
            rw [if_pos rfl, addL_ok (by simp; omega)]
            refine GoodE.nx ?_
            rw [List.filter_append, List.filter_cons_of_pos q]
            rfl
          | false =>
            rw [if_neg Bool.false_ne_true, addL_ok (by simp; omega)]
            refine GoodE.nx ?_
            rw [List.filter_append, List.filter_cons_of_neg (by rw [q]; exact Bool.false_ne_true)]
            rfl)
    exact step
  subst hu
  refine Good.eq (a := downsI net (useI net fallen) (gt N)) (compG_fil (p := fun i => !memL i (upsI net (useI net fallen) (gt N))) (xs := oneI net (useI net fallen) (gt N)) (by omega) (fun _ _ => rfl) (fun _ _ => rfl)) ?_
  rw [rngR_ok (show 0 ≤ net.1 by omega) (by omega)]
  simp only [Res.bind_ok]
  refine Good.eq (a := tab net.1 fun _ _ => -1) (compG_all (xs := rng 0 net.1.toNat) (g := fun _ => (rng 0 net.1.toNat).map fun _ => (-1 : Int)) (by rw [rng_len]; omega) (fun _ _ => rfl) fun _ _ => by
    rw [show (-(1 : Int)) = -1 from rfl, mulL_ok (by omega) (by omega) (by simp), rep_rng]) ?_
  have kin : ∀ g ∈ keysD L0, (0 ≤ g ∧ g < net.1) ∧ (gt N g).isSome = true := fun g hg => ⟨kL.rg g hg, by rw [← gL]; exact key_some.mp hg⟩
  refine GoodE.bindE (P := fun rows => rows = tab net.1 fun a c => if c ∈ keysD L0 then bentT net (useI net fallen) (gt N) a c else -1) ?_ fun rows hr => ?_
  · refine GoodE.goals (bentT net (useI net fallen) (gt N)) (fun g hg => (kin g hg).1) fun g hg f hT => ?_
    obtain ⟨⟨g0, g1⟩, gN⟩ := kin g hg
    have G := geo h i2 i3 g0 g1
    obtain ⟨fA, fB⟩ := lookup_far hi8 G
    have e1 := e_back h i3 (ρ := Tp (Tp Int)) (P := fun _ => true) (b := fun (k_424 : Int) (s425 : (Dc Int Int)) => ((((getI net.2.l k_424).bind fun r428 => Res.ok (dg s425 r428.2).isSome).bind fun d427 => if d427 = true then (((getI net.2.l k_424).bind fun r437 => (getI net.2.l k_424).bind fun r438 => (Res.of (dg s425 r438.2)).bind fun r439 => Res.ok (if r439 + (1 : Int) < (dg s425 r437.1).getD (99 : Int) then r439 + (1 : Int) else (dg s425 r437.1).getD (99 : Int))).bind fun a442 => ((getI net.2.l k_424).bind fun r440 => Res.ok r440.1).bind fun j443 => (putD s425 j443 a442).bind fun down_441 => Res.ok (Ex.nx down_441)) else (Res.ok (Ex.nx s425))).bindE fun s436 => Res.ok (Ex.nx s436))) (L := [(g, 0)]) (kok_one g0 g1 0) (fun i hii s hs e => by
      have ls := hs.len hi8
      rw [e]
      simp only [Res.bind_ok]
      unfold rx
      dsimp only
      cases q : gt s (tie net i).2 with
      | none =>
        rw [dg_gt, q]
        rfl
      | some x =>
        rw [dg_gt, q]
        rw [Option.isSome_some, if_pos rfl]
        show ((putD s (tie net i).1 _).bind _).bindE _ = _
        rw [putD_ok (by omega)]
        rfl) (t := fun turn_422 s423 => (forR (fun (k_424 : Int) (s425 : (Dc Int Int)) => ((((getI net.2.l k_424).bind fun r428 => Res.ok (dg s425 r428.2).isSome).bind fun d427 => if d427 = true then (((getI net.2.l k_424).bind fun r437 => (getI net.2.l k_424).bind fun r438 => (Res.of (dg s425 r438.2)).bind fun r439 => Res.ok (if r439 + (1 : Int) < (dg s425 r437.1).getD (99 : Int) then r439 + (1 : Int) else (dg s425 r437.1).getD (99 : Int))).bind fun a442 => ((getI net.2.l k_424).bind fun r440 => Res.ok r440.1).bind fun j443 => (putD s425 j443 a442).bind fun down_441 => Res.ok (Ex.nx down_441)) else (Res.ok (Ex.nx s425))).bindE fun s436 => Res.ok (Ex.nx s436))) (downsI net (useI net fallen) (gt N)) s423).bindE fun s444 => Res.ok (Ex.nx s444)) (fun _ _ => rfl)
    obtain ⟨e1, k1⟩ := e1
    refine GoodE.bindE (P := fun s => s = rounds (fun _ => true) (swp net (downsI net (useI net fallen) (gt N))) net.1.toNat [(g, 0)]) ⟨_, e1, rfl⟩ fun L1 hL1 => ?_
    rw [← hL1] at k1 fA
    have e2 := e_back h i2 (ρ := Tp (Tp Int)) (P := fun v => !(gt L1 v).isSome) (b := fun (k_450 : Int) (s451 : (Dc Int Int)) => ((((getI net.2.l k_450).bind fun r453 => (if (dg s451 r453.2).isSome = true then (getI net.2.l k_450).bind fun r454 => Res.ok (!(dg L1 r454.1).isSome) else Res.ok false)).bind fun d452 => if d452 = true then (((getI net.2.l k_450).bind fun r463 => (getI net.2.l k_450).bind fun r464 => (Res.of (dg s451 r464.2)).bind fun r465 => Res.ok (if r465 + (1 : Int) < (dg s451 r463.1).getD (99 : Int) then r465 + (1 : Int) else (dg s451 r463.1).getD (99 : Int))).bind fun a468 => ((getI net.2.l k_450).bind fun r466 => Res.ok r466.1).bind fun j469 => (putD s451 j469 a468).bind fun far_467 => Res.ok (Ex.nx far_467)) else (Res.ok (Ex.nx s451))).bindE fun s462 => Res.ok (Ex.nx s462))) (L := L1) k1 (fun i hii s hs e => by
      have ls := hs.len hi8
      rw [e]
      simp only [Res.bind_ok]
      unfold rx
      dsimp only
      cases q : gt s (tie net i).2 with
      | none =>
        rw [dg_gt, q]
        rfl
      | some x =>
        rw [dg_gt, q, dg_gt]
        rw [Option.isSome_some, if_pos rfl]
        show (if (!(gt L1 (tie net i).1).isSome) = true then _ else _ : Res (Ex KM (Tp (Tp Int)))).bindE _ = Res.ok (Ex.nx (if (!(gt L1 (tie net i).1).isSome) = true then pt s (tie net i).1 (if x + 1 < (gt s (tie net i).1).getD 99 then x + 1 else (gt s (tie net i).1).getD 99) else s))
        by_cases q2 : (!(gt L1 (tie net i).1).isSome) = true
        · rw [if_pos q2, if_pos q2]
          show ((putD s (tie net i).1 _).bind _).bindE _ = _
          rw [putD_ok (by omega)]
          rfl
        · rw [if_neg q2, if_neg q2]
          rfl) (t := fun turn_448 s449 => (forR (fun (k_450 : Int) (s451 : (Dc Int Int)) => ((((getI net.2.l k_450).bind fun r453 => (if (dg s451 r453.2).isSome = true then (getI net.2.l k_450).bind fun r454 => Res.ok (!(dg L1 r454.1).isSome) else Res.ok false)).bind fun d452 => if d452 = true then (((getI net.2.l k_450).bind fun r463 => (getI net.2.l k_450).bind fun r464 => (Res.of (dg s451 r464.2)).bind fun r465 => Res.ok (if r465 + (1 : Int) < (dg s451 r463.1).getD (99 : Int) then r465 + (1 : Int) else (dg s451 r463.1).getD (99 : Int))).bind fun a468 => ((getI net.2.l k_450).bind fun r466 => Res.ok r466.1).bind fun j469 => (putD s451 j469 a468).bind fun far_467 => Res.ok (Ex.nx far_467)) else (Res.ok (Ex.nx s451))).bindE fun s462 => Res.ok (Ex.nx s462))) (upsI net (useI net fallen) (gt N)) s449).bindE fun s470 => Res.ok (Ex.nx s470)) (fun _ _ => rfl)
    obtain ⟨e2, k2⟩ := e2
    have fB := fB L1 fA
    refine GoodE.bindE (P := fun s => s = rounds (fun v => !(gt L1 v).isSome) (swp net (upsI net (useI net fallen) (gt N))) net.1.toNat L1) ⟨_, e2, rfl⟩ fun L2 hL2 => ?_
    rw [← hL2] at k2 fB
    clear e1 e2 hL1 hL2
    refine GoodE.bindE (P := fun rows => rows = tab net.1 fun a c => if c = g ∧ a ∈ keysD L2 then bentT net (useI net fallen) (gt N) a g else f a c) ?_ fun rows hr => GoodE.nx ?_
    · refine GoodE.cells f (fun a => bentT net (useI net fallen) (gt N) a g) (fun a ha => k2.rg a ha) ⟨g0, g1⟩ hT fun a ha f' => ?_
      have ha0 := k2.rg a ha
      left
      have val : bentT net (useI net fallen) (gt N) a g = cellT net (upsI net (useI net fallen) (gt N)) (downsI net (useI net fallen) (gt N)) g a := if_pos gN
      have hz := key_some.mp ha
      cases ez : gt L2 a with
      | none => rw [ez] at hz; cases hz
      | some z =>
        have ez2 := (fB a).symm.trans ez
        have zb := G.n2 a z ez2
        cases e1 : gt L1 a with
        | none =>
          have e1' := (fA a).symm.trans e1
          have vt : bentT net (useI net fallen) (gt N) a g = if a = g then -1 else ((upsI net (useI net fallen) (gt N)).find? (nearer net (gt L2) a z)).getD (-1) := by
            rw [val]
            unfold cellT cellV
            rw [ez2, e1']
            have : gt L2 = gt (F2 net (upsI net (useI net fallen) (gt N)) (downsI net (useI net fallen) (gt N)) g) := funext fB
            rw [this]
            rfl
          rw [dg_gt, e1]
          show (((compG (upsI net (useI net fallen) (gt N)) _ _).bind _)) = _
          rw [compG_fil (p := nearer net (gt L2) a z) (by omega) (fun i hii => by
            rw [(tie_at h (i2.1 i hii).1 (i2.1 i hii).2).1]
            simp only [Res.bind_ok]
            unfold nearer
            by_cases q : (tie net i).1 = a
            · rw [decide_eq_true q, if_pos rfl, ofg ez]
              simp only [Res.bind_ok]
              rw [dg_gt]
              cases q2 : gt L2 (tie net i).2 with
              | none =>
                show Res.ok (decide ((99 : Int) + 1 = z)) = .ok false
                rw [decide_eq_false (by omega)]
              | some y => rfl
            · rw [decide_eq_false q]
              rfl) (fun _ _ => rfl)]
          simp only [Res.bind_ok]
          show ((if (!decide (a = g)) = true then _ else _ : Res Int).bind _) = _
          by_cases q : a = g
          · rw [decide_eq_true q]
            show (setII (tab net.1 f') a g (-(1 : Int))).bind _ = _
            rw [vt, if_pos q, setII_tab ha0 ⟨g0, g1⟩]
            rfl
          · rw [decide_eq_false q]
            show ((minI _).bind _) = _
            obtain ⟨u, hu, hy⟩ := G.d2.supp a z ez2 e1'
            obtain ⟨i, hii, t1, t2⟩ := swp_mem hu
            rw [minI_find (ws := upsI net (useI net fallen) (gt N)) (asc1.filter _) hii (near_hit (D := gt L2) (z := z) (y := z - 1) t1 (by rw [t2, fB, hy]) (by omega))]
            show (setII (tab net.1 f') a g _).bind _ = _
            rw [vt, if_neg q, setII_tab ha0 ⟨g0, g1⟩]
            rfl
        | some x =>
          have e1' := (fA a).symm.trans e1
          have exz := G.d2.base a x e1'
          rw [ez2] at exz
          cases exz
          have vt : bentT net (useI net fallen) (gt N) a g = if a = g then -1 else ((downsI net (useI net fallen) (gt N)).find? (nearer net (gt L1) a z)).getD (-1) := by
            rw [val]
            unfold cellT cellV
            rw [ez2, e1']
            have : gt L1 = gt (F1 net (downsI net (useI net fallen) (gt N)) g) := funext fA
            rw [this]
            rfl
          have up : ∀ v y, gt L1 v = some y → gt L2 v = some y := fun v y e => by
            rw [fB]
            rw [fA] at e
            exact G.d2.base v y e
          rw [dg_gt, e1]
          show (((compG (downsI net (useI net fallen) (gt N)) _ _).bind _)) = _
          rw [compG_fil (p := fun i => decide ((tie net i).1 = a) && decide (((gt L2 (tie net i).2).getD 99) + 1 = z)) (by omega) (fun i hii => by
            rw [(tie_at h (i3.1 i hii).1 (i3.1 i hii).2).1]
            simp only [Res.bind_ok]
            by_cases q : (tie net i).1 = a
            · rw [decide_eq_true q, if_pos rfl, ofg ez]
              rfl
            · rw [decide_eq_false q]
              rfl) (fun _ _ => rfl)]
          simp only [Res.bind_ok]
          have lf := List.length_filter_le (fun i => decide ((tie net i).1 = a) && decide (((gt L2 (tie net i).2).getD 99) + 1 = z)) (downsI net (useI net fallen) (gt N))
          show ((((compG _ _ _).bind _)).bindE _) = _
          rw [compG_fil (p := fun i => (gt L1 (tie net i).2).isSome) (by omega) (fun i hii => by
            have hm := (List.mem_filter.mp hii).1
            rw [(tie_at h (i3.1 i hm).1 (i3.1 i hm).2).1]
            rfl) (fun _ _ => rfl), List.filter_filter]
          have fe : (downsI net (useI net fallen) (gt N)).filter (fun i => (gt L1 (tie net i).2).isSome && (decide ((tie net i).1 = a) && decide (((gt L2 (tie net i).2).getD 99) + 1 = z))) = (downsI net (useI net fallen) (gt N)).filter (nearer net (gt L1) a z) := List.filter_congr fun i _ => by
            unfold nearer
            cases q : gt L1 (tie net i).2 with
            | none => rw [Option.isSome_none, Bool.false_and, Bool.and_false]
            | some y =>
              rw [up _ _ q, Option.isSome_some, Bool.true_and]
              rfl
          rw [fe]
          show ((if (!decide (a = g)) = true then _ else _ : Res Int).bind _) = _
          by_cases q : a = g
          · rw [decide_eq_true q]
            show (setII (tab net.1 f') a g (-(1 : Int))).bind _ = _
            rw [vt, if_pos q, setII_tab ha0 ⟨g0, g1⟩]
            rfl
          · rw [decide_eq_false q]
            show ((minI _).bind _) = _
            obtain ⟨u, hu, hy⟩ := G.d1.supp a z e1' (if_neg q)
            obtain ⟨i, hii, t1, t2⟩ := swp_mem hu
            rw [minI_find (ws := downsI net (useI net fallen) (gt N)) (asc1.filter _) hii (near_hit (D := gt L1) (z := z) (y := z - 1) t1 (by rw [t2, fA, hy]) (by omega))]
            show (setII (tab net.1 f') a g _).bind _ = _
            rw [vt, if_neg q, setII_tab ha0 ⟨g0, g1⟩]
            rfl
    · rw [hr]
      refine tab_congr fun a c a0 a1 c0 c1 => ?_
      by_cases z : c = g
      · subst z
        rw [if_pos rfl]
        by_cases z2 : a ∈ keysD L2
        · rw [if_pos ⟨rfl, z2⟩]
        · rw [if_neg fun w => z2 w.2]
          have : bentT net (useI net fallen) (gt N) a c = -1 := by
            unfold bentT cellT cellV
            rw [if_pos gN]
            by_cases q : a = c
            · rw [if_pos q]
            · rw [if_neg q, ← fB]
              cases e2 : gt L2 a with
              | none => rfl
              | some y => exact absurd (key_some.mpr (by rw [e2]; rfl)) z2
          rcases hT a with w | w
          · exact w
          · rw [w, this]
      · rw [if_neg z, if_neg fun w => z w.1]
  · have e3 : rows = tab net.1 (bentT net (useI net fallen) (gt N)) := hr.trans (tab_congr fun a c _ _ _ _ => by
      by_cases z : c ∈ keysD L0
      · rw [if_pos z]
      · rw [if_neg z]
        unfold bentT
        rw [if_neg fun w => z (key_some.mpr (by rw [gL]; exact w))])
    subst e3
    rw [Res.bind_assoc]
    refine Good.eq (compG_all (xs := tab net.1 (bentT net (useI net fallen) (gt N))) (g := Tp.mk) (by rw [tab_len]; omega) (fun _ _ => rfl) (fun _ _ => rfl)) ?_
    exact GoodE.rt rfl
end DL
set_option Elab.async false
set_option linter.all false
set_option maxRecDepth 100000
set_option maxHeartbeats 4000000
namespace DL
open PySem PySem.Spec PyProof.Rows L2
open En (en)
theorem e_alike_int (x : Int) : t_alike_int x x = .ok true := by
  unfold t_alike_int tb_alike_int
  show Res.ok (true && (!false && decide (x = x))) = _
  rw [decide_eq_true rfl]
  rfl
theorem all_true {α : Type} (xs : List α) : (xs.map fun _ => true).all id = true := by
  rw [List.all_eq_true]
  intro b hb
  obtain ⟨_, _, rfl⟩ := List.mem_map.mp hb
  rfl
theorem e_alike_row {x : Tp Int} (h : x.l.length ≤ 1000) : t_alike_row x x = .ok true := by
  unfold t_alike_row tb_alike_row
  show endR (if (!decide (((x.l.length : Nat) : Int) = ((x.l.length : Nat) : Int))) = true then _ else _) = _
  rw [decide_eq_true rfl]
  show endR (((rngR ((x.l.length : Nat) : Int)).bind _).bind _) = _
  rw [rngR_ok (by omega) (by omega), Int.toNat_natCast]
  show endR (((compG (rng 0 x.l.length) _ _).bind _).bind _) = _
  rw [compG_all (g := fun _ => true) (by rw [rng_len]; omega) (fun _ _ => rfl) fun i hi => by
    have := mem_rng.mp hi
    obtain ⟨a, e, _, _⟩ := getI_in (xs := x.l) this.1 this.2
    rw [e]
    exact e_alike_int a]
  show Res.ok (((rng 0 x.l.length).map fun _ => true).all id) = _
  rw [all_true]
theorem e_alike {x : Tp (Tp Int)} (h : x.l.length ≤ 1000) (hr : ∀ r ∈ x.l, r.l.length ≤ 1000) : t__law_alike x x = .ok true := by
  unfold t__law_alike tb__law_alike
  show endR (if (!decide (((x.l.length : Nat) : Int) = ((x.l.length : Nat) : Int))) = true then _ else _) = _
  rw [decide_eq_true rfl]
  show endR (((rngR ((x.l.length : Nat) : Int)).bind _).bind _) = _
  rw [rngR_ok (by omega) (by omega), Int.toNat_natCast]
  show endR (((compG (rng 0 x.l.length) _ _).bind _).bind _) = _
  rw [compG_all (g := fun _ => true) (by rw [rng_len]; omega) (fun _ _ => rfl) fun i hi => by
    have := mem_rng.mp hi
    obtain ⟨a, e, _, m⟩ := getI_in (xs := x.l) this.1 this.2
    rw [e]
    exact e_alike_row (hr a m)]
  show Res.ok (((rng 0 x.l.length).map fun _ => true).all id) = _
  rw [all_true]
theorem e_alike_tab {net : Net} (h : NetOk net) (is : List Int) (D : Int → Option Int) : t__law_alike (tabT net is D) (tabT net is D) = .ok true := by
  have := h.hi
  have := h.lo
  refine e_alike ?_ fun r hr => ?_
  · show ((tab net.1 _).map Tp.mk).length ≤ 1000
    rw [List.length_map, tab_len]
    omega
  · obtain ⟨y, hy, rfl⟩ := List.mem_map.mp hr
    obtain ⟨_, _, rfl⟩ := List.mem_map.mp hy
    show ((rng 0 net.1.toNat).map _).length ≤ 1000
    rw [List.length_map, rng_len]
    omega
theorem t_law_true {ns : List Int} (h : ns.length ≤ 63) : t_law ns = .ok true := by
  unfold t_law tb_law
  suffices q : Good (endR _) (fun b => b = true) by
    obtain ⟨b, e, rfl⟩ := q
    exact e
  refine Good.endR ?_
  refine (e_dice h 0).bind fun d hd => ?_
  rw [rngR_ok (by decide) (by decide)]
  simp only [Res.bind_ok]
  refine GoodE.bindE (P := fun _ => True) ?_ fun _ _ => GoodE.rt rfl
  refine (GoodE.for (fun _ s => DrOk s) (fun turn as s hs => ?_) hd).mono fun o ho => by
    cases o with
    | nx _ => exact trivial
    | rt c => exact ho
  refine (e_net hs).bind fun nd ⟨hn, hd2⟩ => ?_
  have few := hn.few
  have lo := hn.lo
  have hi8 := hn.hi
  rw [rngR_ok (by omega) (by omega)]
  simp only [Res.bind_ok]
  refine Good.bind (P := fun r => DrOk r.2 ∧ Ids nd.1 r.1 ∧ r.1.length ≤ 24) ?_ fun f1 ⟨d1, i1, l1⟩ => ?_
  · refine Good.mono (compS_good (xs := rng 0 ((nd.1.2.l.length : Nat) : Int).toNat) DrOk (fun (i : Int) => 0 ≤ i ∧ i < nd.1.2.l.length) (by rw [rng_len]; omega) hd2 fun a ha x hx => ?_) fun r ⟨q1, q2, q3⟩ => ⟨q1, ⟨q2, by rw [rng_len] at q3; omega⟩, by rw [rng_len] at q3; omega⟩
    refine Good.bind (P := fun r => DrOk r.2.2) (Good.imp_noR ((e_off hx (m := 5) (by decide) (by decide)).bind fun r ⟨_, _, q2⟩ => .ok q2)) fun r hr => ?_
    have := mem_rng.mp ha
    cases hb : r.1 with
    | true => exact ⟨_, rfl, hr, fun b hb => by cases hb; omega⟩
    | false => exact ⟨_, rfl, hr, fun b hb => (nomatch hb)⟩
  refine GoodE.bindE (P := fun s => DrOk s.1 ∧ Ids nd.1 s.2 ∧ s.2.length ≤ 24) ?_ fun f2 ⟨d2, i2, l2⟩ => ?_
  · refine Good.bind (P := fun r => DrOk r.2.2) ((e_off d1 (m := 9) (by decide) (by decide)).bind fun r ⟨_, _, q2⟩ => .ok q2) fun r hr => ?_
    cases hb : r.1 with
    | false => exact GoodE.nx ⟨hr, i1, l1⟩
    | true =>
      rw [if_pos rfl, rngL_ok (by omega) (by omega)]
      refine GoodE.nx ⟨hr, ⟨fun i hi => ?_, ?_⟩, ?_⟩
      · have := mem_rng.mp hi
        omega
      · show (rng 0 _).length ≤ 100
        rw [rng_len]; omega
      · show (rng 0 _).length ≤ 24
        rw [rng_len]; omega
  refine GoodE.bindE (P := fun s => DrOk s.1 ∧ Ids nd.1 s.2) ?_ fun f3 ⟨d3, i3⟩ => ?_
  · refine Good.bind (P := fun r => DrOk r.2.2) ((e_off d2 (m := 3) (by decide) (by decide)).bind fun r ⟨_, _, q2⟩ => .ok q2) fun r hr => ?_
    cases hb : r.1 with
    | false => exact GoodE.nx ⟨hr, i2⟩
    | true =>
      rw [if_pos rfl]
      have lc : (cutD f2.2 none (some 1)).length ≤ 1 := by
        rw [cut_take _ (by decide), List.length_take]
        exact Nat.min_le_left _ _
      have mc : ∀ i ∈ cutD f2.2 none (some 1), i ∈ f2.2 := fun i hi => by
        rw [cut_take _ (by decide)] at hi
        exact List.mem_of_mem_take hi
      rw [addL_ok (by omega)]
      simp only [Res.bind_ok]
      refine (e_mixed_i hr (by rw [List.length_append]; omega)).bind fun m ⟨pm, dm⟩ => GoodE.nx ⟨dm, fun i hi => ?_, ?_⟩
      · exact i2.1 i ((List.mem_append.mp (pm.mem_iff.mp hi)).elim id (mc i))
      · have := pm.length_eq
        rw [List.length_append] at this
        dsimp only
        omega
  refine (e_off d3 (m := nd.1.1) (by omega) (by omega)).bind fun rt ⟨r0, r1, dr⟩ => ?_
  obtain ⟨N, hB, eb⟩ := e_bent hn i3 r0 r1
  rw [e_due hn r0 r1 hB]
  simp only [Res.bind_ok]
  rw [rngR_ok (by decide) (by decide)]
  simp only [Res.bind_ok]
  refine GoodE.bindE (P := fun _ => True) ?_ fun _ _ => GoodE.nx dr
  refine GoodE.for (fun _ _ => True) (fun a as x _ => ?_) trivial
  rw [eb]
  simp only [Res.bind_ok]
  rw [e_alike_tab hn]
  simp only [Res.bind_ok, Bool.not_true, Bool.false_eq_true, if_false, decide_true]
  exact GoodE.nx trivial
end DL
set_option Elab.async false
set_option linter.all false
set_option maxRecDepth 100000
set_option maxHeartbeats 0
namespace DL
open PySem PySem.Spec PyProof.Rows L2
theorem law_sem (ns : List Int) (h : ns.length ≤ 63) : m_law [.s (ns.map PyData.int)] = .ok (.f (.bool true)) := by
  have q : Ans (t_law ns) (m_law [.s (ns.map PyData.int)]) fun r od => (rd : Bool → Pd) r od := c_law (ns, ()) [.s (ns.map PyData.int)] ⟨rfl, trivial⟩
  rw [t_law_true h] at q
  obtain ⟨od, e, p⟩ := q
  rw [e, Rd.sc p]
  rfl
/-! ### the head -/
def dd_is_between : He.DefD := ⟨("is_between", none), "is_between", "is_between", defArgs s_is_between, defBody s_is_between, defScope s_is_between, [], []⟩
def dd_is_tie : He.DefD := ⟨("is_tie", none), "is_tie", "is_tie", defArgs s_is_tie, defBody s_is_tie, defScope s_is_tie, [], []⟩
def dd_need_net : He.DefD := ⟨("need_net", none), "need_net", "need_net", defArgs s_need_net, defBody s_need_net, defScope s_need_net, [], []⟩
def dd_usable : He.DefD := ⟨("usable", none), "usable", "usable", defArgs s_usable, defBody s_usable, defScope s_usable, [], []⟩
def dd_levels : He.DefD := ⟨("levels", none), "levels", "levels", defArgs s_levels, defBody s_levels, defScope s_levels, [], []⟩
def dd_is_up : He.DefD := ⟨("is_up", none), "is_up", "is_up", defArgs s_is_up, defBody s_is_up, defScope s_is_up, [], []⟩
def dd_reached : He.DefD := ⟨("reached", none), "reached", "reached", defArgs s_reached, defBody s_reached, defScope s_reached, [], []⟩
def dd_step : He.DefD := ⟨("step", none), "step", "step", defArgs s_step, defBody s_step, defScope s_step, [], []⟩
def dd_need_ties : He.DefD := ⟨("need_ties", none), "need_ties", "need_ties", defArgs s_need_ties, defBody s_need_ties, defScope s_need_ties, [], []⟩
def dd_bent : He.DefD := ⟨("bent", none), "bent", "bent", defArgs s_bent, defBody s_bent, defScope s_bent, [], []⟩
def dd__law_dice : He.DefD := ⟨("_law_dice", none), "_law_dice", "_law_dice", defArgs s__law_dice, defBody s__law_dice, defScope s__law_dice, [], []⟩
def dd__law_off : He.DefD := ⟨("_law_off", none), "_law_off", "_law_off", defArgs s__law_off, defBody s__law_off, defScope s__law_off, [], []⟩
def dd__law_alike : He.DefD := ⟨("_law_alike", none), "_law_alike", "_law_alike", defArgs s__law_alike, defBody s__law_alike, defScope s__law_alike, [], []⟩
def dd__law_mixed : He.DefD := ⟨("_law_mixed", none), "_law_mixed", "_law_mixed", defArgs s__law_mixed, defBody s__law_mixed, defScope s__law_mixed, [], []⟩
def dd__law_net : He.DefD := ⟨("_law_net", none), "_law_net", "_law_net", defArgs s__law_net, defBody s__law_net, defScope s__law_net, [], []⟩
def dd__law_of_use : He.DefD := ⟨("_law_of_use", none), "_law_of_use", "_law_of_use", defArgs s__law_of_use, defBody s__law_of_use, defScope s__law_of_use, [], []⟩
def dd__law_near : He.DefD := ⟨("_law_near", none), "_law_near", "_law_near", defArgs s__law_near, defBody s__law_near, defScope s__law_near, [], []⟩
def dd__law_due : He.DefD := ⟨("_law_due", none), "_law_due", "_law_due", defArgs s__law_due, defBody s__law_due, defScope s__law_due, [], []⟩
def dd_law : He.DefD := ⟨("law", none), "law", "law", defArgs s_law, defBody s_law, defScope s_law, [], []⟩
def hFN : List He.DefD := [dd_is_between, dd_is_tie, dd_need_net, dd_usable, dd_levels, dd_is_up, dd_reached, dd_step, dd_need_ties, dd_bent, dd__law_dice, dd__law_off, dd__law_alike, dd__law_mixed, dd__law_net, dd__law_of_use, dd__law_near, dd__law_due, dd_law]
def hFA : List He.Fa := [.glo "is_between", .glo "is_tie", .glo "need_net", .glo "usable", .glo "levels", .glo "is_up", .glo "reached", .glo "step", .glo "need_ties", .glo "bent", .glo "_law_dice", .glo "_law_off", .glo "_law_alike", .glo "_law_mixed", .glo "_law_net", .glo "_law_of_use", .glo "_law_near", .glo "_law_due", .glo "law", .free "abs", .free "all", .free "bool", .free "dict", .free "enumerate", .free "int", .free "isinstance", .free "len", .free "list", .free "min", .free "range", .free "set", .free "sorted", .free "str", .free "tuple", .int "MOST_HOUSES" (8), .int "MOST_TIES" (24), .int "NONE" (-1)]
abbrev hR : PySem.W.OpenRow := PySem.W.OpenLaw.row PySem.Challenge.rw_wormways_k13_bent_round_fallen_ties
abbrev hk : PySem.W.Hook := He.hookD 4 hFA hFN
def hob (s : PySem.W.SharedT) : He.AlD := He.obsDG 4 hFA hFN (HandSHeadRun.getT s)
theorem hob_eq (s : PySem.W.SharedT) : hob s = hk.obs s.abs := He.obsDG_eq (HandSHeadRun.getT_eq s)
def hn0 : List Str := ["WormError", "BadNet", "BadTies", "MOST_HOUSES", "MOST_TIES", "NONE", "is_between", "is_tie", "need_net", "usable", "levels", "is_up", "reached", "step", "need_ties", "bent", "_law_dice", "_law_off", "_law_alike", "_law_mixed", "_law_net", "_law_of_use", "_law_near", "_law_due"]
def hnames : List Str := hn0
theorem hrun (w : World) : HandSHeadRun.RunEq hR (PySem.W.view hR.prog [28]) hk hob 4000 hnames w := by
  intro os
  kernel_rfl
theorem hfacts {P : Program} {w : World} {K : PySem.W.Frag} {h : Heap} {mg : Str → Option Value} {f : Addr} (X : K.In h) (G : h.Ns mainGlobals mg) (hfa : mg ("law" : Str) = some (.ref f)) (c : He.SaysD hFA hFN K) :
    ∃ fd : FuncData, (∀ (s : Shared) (v : Value), BindsTo s fd ⟨[v], []⟩ [("_law_script", v)]) ∧ ∀ base : Heap, K.In base → base.Ns mainGlobals mg → FnOk P w K mg base CX0 10 f fd ["_law_script"] (spL K) := by
  obtain ⟨fd_is_between, T_is_between⟩ := c.def_ 0 (d := dd_is_between) rfl
  obtain ⟨fd_is_tie, T_is_tie⟩ := c.def_ 1 (d := dd_is_tie) rfl
  obtain ⟨fd_need_net, T_need_net⟩ := c.def_ 2 (d := dd_need_net) rfl
  obtain ⟨fd_usable, T_usable⟩ := c.def_ 3 (d := dd_usable) rfl
  obtain ⟨fd_levels, T_levels⟩ := c.def_ 4 (d := dd_levels) rfl
  obtain ⟨fd_is_up, T_is_up⟩ := c.def_ 5 (d := dd_is_up) rfl
  obtain ⟨fd_reached, T_reached⟩ := c.def_ 6 (d := dd_reached) rfl
  obtain ⟨fd_step, T_step⟩ := c.def_ 7 (d := dd_step) rfl
  obtain ⟨fd_need_ties, T_need_ties⟩ := c.def_ 8 (d := dd_need_ties) rfl
  obtain ⟨fd_bent, T_bent⟩ := c.def_ 9 (d := dd_bent) rfl
  obtain ⟨fd__law_dice, T__law_dice⟩ := c.def_ 10 (d := dd__law_dice) rfl
  obtain ⟨fd__law_off, T__law_off⟩ := c.def_ 11 (d := dd__law_off) rfl
  obtain ⟨fd__law_alike, T__law_alike⟩ := c.def_ 12 (d := dd__law_alike) rfl
  obtain ⟨fd__law_mixed, T__law_mixed⟩ := c.def_ 13 (d := dd__law_mixed) rfl
  obtain ⟨fd__law_net, T__law_net⟩ := c.def_ 14 (d := dd__law_net) rfl
  obtain ⟨fd__law_of_use, T__law_of_use⟩ := c.def_ 15 (d := dd__law_of_use) rfl
  obtain ⟨fd__law_near, T__law_near⟩ := c.def_ 16 (d := dd__law_near) rfl
  obtain ⟨fd__law_due, T__law_due⟩ := c.def_ 17 (d := dd__law_due) rfl
  obtain ⟨fd_law, T_law⟩ := c.def_ 18 (d := dd_law) rfl
  have e := hfa.symm.trans (He.glo_ok X G (c.fact 18 (f := .glo "law") rfl))
  cases e
  have b := FunD.bindsA (ps := ["_law_script"]) T_law fun _ _ _ _ _ _ us hl => match us, hl with | [_], _ => rfl
  refine ⟨fd_law, fun s v => b s [v] rfl, fun base _ _ => ?_⟩
  let B : Bs := ⟨P, w, K, mg, base, fun _ => 0⟩
  have g : Gd B := ⟨He.free_ok X G (c.fact 19 (f := .free "abs") rfl), He.free_ok X G (c.fact 20 (f := .free "all") rfl), He.free_ok X G (c.fact 21 (f := .free "bool") rfl), He.free_ok X G (c.fact 22 (f := .free "dict") rfl), He.free_ok X G (c.fact 23 (f := .free "enumerate") rfl), He.free_ok X G (c.fact 24 (f := .free "int") rfl), He.free_ok X G (c.fact 25 (f := .free "isinstance") rfl), He.free_ok X G (c.fact 26 (f := .free "len") rfl), He.free_ok X G (c.fact 27 (f := .free "list") rfl), He.free_ok X G (c.fact 28 (f := .free "min") rfl), He.free_ok X G (c.fact 29 (f := .free "range") rfl), He.free_ok X G (c.fact 30 (f := .free "set") rfl), He.free_ok X G (c.fact 31 (f := .free "sorted") rfl), He.free_ok X G (c.fact 32 (f := .free "str") rfl), He.free_ok X G (c.fact 33 (f := .free "tuple") rfl), He.int_ok X G (c.fact 34 (f := .int "MOST_HOUSES" (8)) rfl), He.int_ok X G (c.fact 35 (f := .int "MOST_TIES" (24)) rfl), He.int_ok X G (c.fact 36 (f := .int "NONE" (-1)) rfl)⟩
  have F_is_between : FnP B 1 "is_between" 3 m_is_between := p_is_between g T_is_between (He.glo_ok X G (c.fact 0 (f := .glo "is_between") rfl)) 
  have F_is_tie : FnP B 2 "is_tie" 2 m_is_tie := p_is_tie g T_is_tie (He.glo_ok X G (c.fact 1 (f := .glo "is_tie") rfl)) F_is_between
  have F_need_net : FnP B 3 "need_net" 1 m_need_net := p_need_net g T_need_net (He.glo_ok X G (c.fact 2 (f := .glo "need_net") rfl)) F_is_between F_is_tie
  have F_usable : FnP B 1 "usable" 2 m_usable := p_usable g T_usable (He.glo_ok X G (c.fact 3 (f := .glo "usable") rfl)) 
  have F_levels : FnP B 1 "levels" 3 m_levels := p_levels g T_levels (He.glo_ok X G (c.fact 4 (f := .glo "levels") rfl)) 
  have F_is_up : FnP B 1 "is_up" 3 m_is_up := p_is_up g T_is_up (He.glo_ok X G (c.fact 5 (f := .glo "is_up") rfl)) 
  have F_reached : FnP B 1 "reached" 4 m_reached := p_reached g T_reached (He.glo_ok X G (c.fact 6 (f := .glo "reached") rfl)) 
  have F_step : FnP B 1 "step" 4 m_step := p_step g T_step (He.glo_ok X G (c.fact 7 (f := .glo "step") rfl)) 
  have F_need_ties : FnP B 2 "need_ties" 3 m_need_ties := p_need_ties g T_need_ties (He.glo_ok X G (c.fact 8 (f := .glo "need_ties") rfl)) F_is_between
  have F_bent : FnP B 4 "bent" 3 m_bent := p_bent g T_bent (He.glo_ok X G (c.fact 9 (f := .glo "bent") rfl)) F_need_net F_need_ties F_usable F_levels F_reached F_is_up F_step
  have F__law_dice : FnP B 1 "_law_dice" 2 m__law_dice := p__law_dice g T__law_dice (He.glo_ok X G (c.fact 10 (f := .glo "_law_dice") rfl)) 
  have F__law_off : FnD B 1 "_law_off" 2 m__law_off := p__law_off g T__law_off (He.glo_ok X G (c.fact 11 (f := .glo "_law_off") rfl)) 
  have F__law_alike : FnP B 9 "_law_alike" 2 m__law_alike := p__law_alike g T__law_alike (He.glo_ok X G (c.fact 12 (f := .glo "_law_alike") rfl)) 
  have F__law_mixed : FnD B 2 "_law_mixed" 2 m__law_mixed := p__law_mixed g T__law_mixed (He.glo_ok X G (c.fact 13 (f := .glo "_law_mixed") rfl)) F__law_off
  have F__law_net : FnD B 3 "_law_net" 2 m__law_net := p__law_net g T__law_net (He.glo_ok X G (c.fact 14 (f := .glo "_law_net") rfl)) F__law_off F__law_mixed
  have F__law_of_use : FnP B 1 "_law_of_use" 2 m__law_of_use := p__law_of_use g T__law_of_use (He.glo_ok X G (c.fact 15 (f := .glo "_law_of_use") rfl)) 
  have F__law_near : FnP B 1 "_law_near" 3 m__law_near := p__law_near g T__law_near (He.glo_ok X G (c.fact 16 (f := .glo "_law_near") rfl)) 
  have F__law_due : FnP B 2 "_law_due" 3 m__law_due := p__law_due g T__law_due (He.glo_ok X G (c.fact 17 (f := .glo "_law_due") rfl)) F__law_of_use F__law_near
  exact law_ok (fnok_of (B := B) T_law sc_law rfl (d_law g F__law_dice F__law_net F__law_off F__law_due F__law_mixed F_bent F__law_alike)) law_sem
end DL
open PySem PySem.W PySem.Calls PyProof.Rows
theorem PySem.Challenge.cw_wormways_k13_bent_round_fallen_ties_holds : PySem.Challenge.rw_wormways_k13_bent_round_fallen_ties.Holds := by
  w_on; o_law
  refine HandSHeadRun.head_any (r := OpenLaw.row PySem.Challenge.rw_wormways_k13_bent_round_fallen_ties) (q := view (OpenLaw.row PySem.Challenge.rw_wormways_k13_bent_round_fallen_ties).prog [28]) (H := DL.hk) (ob := DL.hob) (M := 4000) (loose := DL.hnames) (d := HandSHeadRun.topDef (OpenLaw.row PySem.Challenge.rw_wormways_k13_bent_round_fallen_ties).prog 28) (kwd := []) DL.hob_eq
    (by kernel_rfl) (fun s => by kernel_rfl) DL.hrun (by kernel_rfl) (by kernel_rfl) (by kernel_rfl) (by rfl) (by first | assumption | decide +kernel) (by decide +kernel) ⟨rfl, rfl, rfl, rfl, rfl, by decide +kernel⟩ ?hw ?hc
  case hw => w_witness2
  case hc =>
    refine L2.walk_ofE (l := PySem.Challenge.rw_wormways_k13_bent_round_fallen_ties) (n := 63) (k := 10) (x := "_law_script") (CX := L2.CX0) rfl (by decide) (by kernel_rfl) ⟨rfl, by decide, by decide⟩ ?F (fun _ _ _ _ z => z)
    intro w mg fa h Y G hmg0
    obtain ⟨K, KX, c⟩ := Y
    have hmg : mg ("law" : PySem.Str) = some (.ref fa) := by
      have e : (HandSHeadRun.topDef (OpenLaw.row PySem.Challenge.rw_wormways_k13_bent_round_fallen_ties).prog 28).name = ("law" : PySem.Str) := by kernel_rfl
      rw [← e]
      exact hmg0
    obtain ⟨fd, hb, hF⟩ := DL.hfacts (P := (PySem.Challenge.rw_wormways_k13_bent_round_fallen_ties).prog) (w := w) KX G hmg c
    exact ⟨K, fd, DL.spL K, KX, hb, fun H a ns hl _ hS => ⟨a, ns, rfl, hS, hl, fun _ => rfl⟩, hF⟩
