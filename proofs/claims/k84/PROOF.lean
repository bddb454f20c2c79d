import PyProof.Rows.All
import Wide.All
import OpenK.AllK
import Wide.FinOn
import HandS.ForMost
import HandS.ForExc
import HandS.Wide
import HandS.WideMore
import HandS.Style
import HandS.SortOrd
import HandS.IsInst
import HandS.SetFor
import HandS.Rev
import HandS.Lambda
import HandS.HeadHook1
import HandS.ExcOwn
import HandS.ExcIs
import PyProof.Rows.ReprR
import HandS.SortRule
import HandS.Deep
import HandS.SortKw
import KE.SortKeyHeap
import KE.SortLaws
import KE.SortData
import KE.KExcIs
import HandS.ExcField
import KE.KStateDown
import Lean
import HandS.Defaults
import HandS.Head0
import HandS.Head1
import HandS.Head2
import HandS.HeadEnd
import HandS.HeadHook2
import HandS.EndBits
import PySem.Challenge.RW_pacefold_k84_work_refused
set_option Elab.async false
set_option linter.all false
set_option maxRecDepth 100000
set_option maxHeartbeats 4000000
set_option exponentiation.threshold 9000
/-! DV: a plain evaluator over data, and what ties it to the hand layer's judgements. -/
namespace DV
open PySem PySem.Spec PyProof.Rows L2

/-! ### data -/
/-- a lambda handed on: its function, its code object and name, the view of the heap it was made in -/
structure Th where
  f : Addr
  c : Addr
  q : Str
  F0 : Hp
  as0 : List Addr
inductive D where
  | non | bl (b : Bool) | int (i : Int) | str (s : Str) | lst (xs : List D) | tup (xs : List D) | obj (n : Nat) | scr (ns : List Int)
  | exc (c : Str) (ns : List Str) (ds : List D) | fnv (t : Th) | dic (ks ds : List D)
inductive Cell where
  | lst (xs : List D)
  | dead
abbrev Sto := List Cell
abbrev Env := List (Option D)
structure Ex where
  cls : Str
  ns : List Str
  ds : List D
/-- a caught exception, as the heap tracks it -/
def ExcO (a : Addr) (cls : Value) (d : Option Addr) : HO := .ext fun h => ∃ (oe : Obj) (vs : Array Value), h.get? a = some oe ∧ Zc cls d oe ∧ oe.data = .fields vs

def Pre (as as' : List Addr) : Prop := ∀ (n : Nat) (a : Addr), as[n]? = some a → as'[n]? = some a
mutual
inductive Rep (K : PySem.W.Frag) (F : Hp) (as : List Addr) : V → D → Prop
  | non : Rep K F as .non .non
  | bl (b : Bool) : Rep K F as (.bl b) (.bl b)
  | int (i : Int) : Rep K F as (.int i) (.int i)
  | str (x : Str) : Rep K F as (.str x) (.str x)
  | lst {a : Addr} {xs : List V} {ds : List D} : F a = some (.lst xs) → RepAll K F as xs ds → Rep K F as (.ref a) (.lst ds)
  | tup {a : Addr} {xs : List V} {ds : List D} : F a = some (.tup xs) → RepAll K F as xs ds → Rep K F as (.ref a) (.tup ds)
  | obj {a : Addr} {n : Nat} : as[n]? = some a → Rep K F as (.ref a) (.obj n)
  | scr {a : Addr} {ns : List Int} : SqL K F a (ns.map V.int) → Rep K F as (.ref a) (.scr ns)
  | exc0 {a : Addr} {c : Str} : F a = some (ExcO a (.ref (He.ga K c)) none) → Rep K F as (.ref a) (.exc c [] [])
  | exc {a dd : Addr} {c : Str} {fv : List (Str × V)} {vs : List V} {ns : List Str} {ds : List D} : F a = some (ExcO a (.ref (He.ga K c)) (some dd)) → F dd = some (.xd fv) → fv.map (·.1) = ns → fv.map (·.2) = vs → RepAll K F as vs ds → Rep K F as (.ref a) (.exc c ns ds)
  | fnv {t : Th} : F t.c = some (LamX.CodeO t.c t.q) → Same t.F0 F → Pre t.as0 as → Rep K F as (.ref t.f) (.fnv t)
  | dic {a : Addr} {kvs : List (Key × V)} {us vs : List V} {ks ds : List D} : F a = some (.dK kvs) → kvs.map (fun p => kV p.1) = us → RepAll K F as us ks → kvs.map (·.2) = vs → RepAll K F as vs ds → Rep K F as (.ref a) (.dic ks ds)
inductive RepAll (K : PySem.W.Frag) (F : Hp) (as : List Addr) : List V → List D → Prop
  | nil : RepAll K F as [] []
  | cons {v : V} {vs : List V} {d : D} {ds : List D} : Rep K F as v d → RepAll K F as vs ds → RepAll K F as (v :: vs) (d :: ds)
end

theorem same_seqT {K : PySem.W.Frag} {H H' : Hp} {a : Addr} {xs : List V} (e : Same H H') (h : SqT K H a xs) : SqT K H' a xs := by
  rcases h with (h | ⟨o, h⟩) | h
  · exact .inl (.inl (e _ _ h))
  · exact .inl (.inr ⟨o, e _ _ h⟩)
  · exact .inr h
theorem Pre.refl (as : List Addr) : Pre as as := fun _ _ h => h
theorem Pre.trans {a b c : List Addr} (h : Pre a b) (g : Pre b c) : Pre a c := fun n x e => g n x (h n x e)
theorem Pre.app (as : List Addr) (p : List Addr) : Pre as (as ++ p) := fun n a e => by
  rw [List.getElem?_append_left (List.getElem?_eq_some_iff.mp e).1]
  exact e

section
variable {K : PySem.W.Frag} {F F' H H' : Hp} {as as' : List Addr}
mutual
theorem Rep.mono (s : Same F F') (p : Pre as as') : ∀ (d : D) (v : V), Rep K F as v d → Rep K F' as' v d
  | .non, _, h => by cases h; exact .non
  | .bl _, _, h => by cases h; exact .bl _
  | .int _, _, h => by cases h; exact .int _
  | .str _, _, h => by cases h; exact .str _
  | .lst ds, _, h => by
    cases h with
    | lst a b => exact .lst (s _ _ a) (RepAll.mono s p ds _ b)
  | .tup ds, _, h => by
    cases h with
    | tup a b => exact .tup (s _ _ a) (RepAll.mono s p ds _ b)
  | .obj n, _, h => by
    cases h with
    | obj e => exact .obj (p _ _ e)
  | .scr ns, _, h => by
    cases h with
    | scr e => exact .scr (s.seq e)
  | .exc c ns ds, _, h => by
    cases h with
    | exc0 a => exact .exc0 (s _ _ a)
    | exc a b e1 e2 r => exact .exc (s _ _ a) (s _ _ b) e1 e2 (RepAll.mono s p ds _ r)
  | .fnv t, _, h => by
    cases h with
    | fnv e e2 e3 => exact .fnv (s _ _ e) (e2.trans s) fun n a z => p n a (e3 n a z)
  | .dic ks ds, _, h => by
    cases h with
    | dic a e1 r1 e2 r2 => exact .dic (s _ _ a) e1 (RepAll.mono s p ks _ r1) e2 (RepAll.mono s p ds _ r2)
theorem RepAll.mono (s : Same F F') (p : Pre as as') : ∀ (ds : List D) (vs : List V), RepAll K F as vs ds → RepAll K F' as' vs ds
  | [], _, h => by cases h; exact .nil
  | d :: ds, _, h => by
    cases h with
    | cons a b => exact .cons (Rep.mono s p d _ a) (RepAll.mono s p ds _ b)
end
theorem RepAll.len : ∀ {vs : List V} {ds : List D}, RepAll K F as vs ds → vs.length = ds.length
  | _, _, .nil => rfl
  | _, _, .cons _ t => by rw [List.length_cons, List.length_cons, RepAll.len t]
theorem RepAll.get : ∀ {vs : List V} {ds : List D} {i : Nat} {d : D}, RepAll K F as vs ds → ds[i]? = some d → ∃ v, vs[i]? = some v ∧ Rep K F as v d
  | _, _, _, _, .nil, e => by simp at e
  | _, _, 0, _, .cons r _, e => by simp at e; subst e; exact ⟨_, rfl, r⟩
  | _, _, i + 1, d, .cons _ t, e => by
    obtain ⟨v, h1, h2⟩ := RepAll.get (i := i) (d := d) t (by simpa using e)
    exact ⟨v, by simpa using h1, h2⟩
theorem RepAll.append : ∀ {vs : List V} {ds : List D} {ws : List V} {es : List D}, RepAll K F as vs ds → RepAll K F as ws es → RepAll K F as (vs ++ ws) (ds ++ es)
  | _, _, _, _, .nil, s => s
  | _, _, _, _, .cons r t, s => .cons r (RepAll.append t s)
theorem RepAll.set {v : V} {d : D} (r : Rep K F as v d) : ∀ {vs : List V} {ds : List D} (i : Nat), RepAll K F as vs ds → RepAll K F as (vs.set i v) (ds.set i d)
  | _, _, _, .nil => .nil
  | _, _, 0, .cons _ t => .cons r t
  | _, _, i + 1, .cons q t => .cons q (RepAll.set r i t)
theorem RepAll.take : ∀ {vs : List V} {ds : List D} (n : Nat), RepAll K F as vs ds → RepAll K F as (vs.take n) (ds.take n)
  | _, _, 0, _ => .nil
  | _, _, _ + 1, .nil => .nil
  | _, _, n + 1, .cons r t => .cons r (RepAll.take n t)
theorem RepAll.drop : ∀ {vs : List V} {ds : List D} (n : Nat), RepAll K F as vs ds → RepAll K F as (vs.drop n) (ds.drop n)
  | _, _, 0, r => r
  | _, _, _ + 1, .nil => .nil
  | _, _, n + 1, .cons _ t => RepAll.drop n t
theorem RepAll.eraseIdx : ∀ {vs : List V} {ds : List D} (i : Nat), RepAll K F as vs ds → RepAll K F as (vs.eraseIdx i) (ds.eraseIdx i)
  | _, _, _, .nil => .nil
  | _, _, 0, .cons _ t => t
  | _, _, i + 1, .cons r t => .cons r (RepAll.eraseIdx i t)
theorem RepAll.reverse : ∀ {vs : List V} {ds : List D}, RepAll K F as vs ds → RepAll K F as vs.reverse ds.reverse
  | _, _, .nil => .nil
  | _, _, .cons r t => by
    rw [List.reverse_cons, List.reverse_cons]
    exact RepAll.append (RepAll.reverse t) (.cons r .nil)

/-! ### tables of code objects -/
/-- the code object of a function, its table, what its lambdas are named -/
def codeO (K : PySem.W.Frag) (o : Obj) : Option (Addr × Addr × Str) := match o.data with
  | .func fd => (match fd.code with
    | .ref c => (match K.lookup c with
      | some oc => (match oc.data with
        | .fields vs => (match (vs[11]? : Option Value) with
          | some (Value.ref P) => some (c, P, fd.qualname ++ ".<locals>." ++ "<lambda>")
          | _ => none)
        | _ => none)
      | none => none)
    | _ => none)
  | _ => none
def codesOf (K : PySem.W.Frag) : List (Addr × Addr × Str) := K.filterMap fun p => codeO K p.2
def tabsOf (K : PySem.W.Frag) : List (Addr × Str) := (codesOf K).map fun p => p.2
/-- each table belongs to lambdas of one name -/
def UniqT (K : PySem.W.Frag) : Prop := ∀ p ∈ tabsOf K, ∀ r ∈ tabsOf K, p.1 = r.1 → p.2 = r.2
def TabsB (K : PySem.W.Frag) (base : Heap) (mg : Str → Option Value) : Prop := UniqT K ∧ (∀ p ∈ codesOf K, LamX.TabB base mg p.1 p.2.1) ∧ ∃ o, base.get? sysModules = some o
theorem lookup_mem : ∀ {K : PySem.W.Frag} {a : Addr} {o : Obj}, K.lookup a = some o → (a, o) ∈ K
  | [], a, o, h => by cases h
  | (b, u) :: r, a, o, h => by
    rw [List.lookup_cons] at h
    split at h
    · rename_i q
      cases h
      rw [beq_iff_eq.mp q]
      exact List.mem_cons_self ..
    · exact List.mem_cons_of_mem _ (lookup_mem h)
theorem codes_mem {K : PySem.W.Frag} {f : Addr} {o : Obj} {c P : Addr} {q : Str} (h : K.lookup f = some o) (e : codeO K o = some (c, P, q)) : (c, P, q) ∈ codesOf K :=
  List.mem_filterMap.mpr ⟨(f, o), lookup_mem h, e⟩
theorem tabs_of_codes {K : PySem.W.Frag} {c P : Addr} {q : Str} (h : (c, P, q) ∈ codesOf K) : (P, q) ∈ tabsOf K := List.mem_map.mpr ⟨_, h, rfl⟩
theorem tabs_upd {T : List (Addr × Str)} {H : Hp} {p : Addr} {o : HO} (t : LamX.Tabs T H) (h : H p = none ∨ ∃ xs, H p = some (.lst xs)) : LamX.Tabs T (upd H p o) := fun q hq => by
  obtain ⟨ps, h1, h2, h3⟩ := t q hq
  have ne : ∀ b u, H b = some u → (∀ xs, u ≠ .lst xs) → b ≠ p := fun b u e n z => by
    rw [z] at e
    rcases h with h | ⟨xs, h⟩
    · rw [h] at e; cases e
    · rw [h] at e; cases e; exact n xs rfl
  refine ⟨ps, by rw [upd_ne (ne _ _ h1 fun xs z => by cases z)]; exact h1, h2, fun pos cv hc => ?_⟩
  obtain ⟨c, e1, e2⟩ := h3 pos cv hc
  exact ⟨c, e1, by rw [upd_ne (ne _ _ e2 fun xs z => by unfold LamX.CodeO at z; cases z)]; exact e2⟩
def NoTbl (F : Hp) : Prop := ∀ b ps, F b ≠ some (.tbl ps)
theorem NoTbl.upd {F : Hp} {p : Addr} {o : HO} (n : NoTbl F) (h : ∀ ps, o ≠ .tbl ps) : NoTbl (upd F p o) := fun b ps e => by
  by_cases hb : b = p
  · rw [hb, upd_same] at e
    exact h ps (Option.some.inj e)
  · rw [upd_ne hb] at e
    exact n b ps e
/-! ### the state -/
def CellR (K : PySem.W.Frag) (F H : Hp) (as : List Addr) (a : Addr) : Cell → Prop
  | .lst ds => F a = none ∧ ∃ xs, H a = some (.lst xs) ∧ RepAll K F as xs ds
  | .dead => ∃ xs, H a = some (.lst xs)
structure St5 (K : PySem.W.Frag) (F H : Hp) (as : List Addr) (sto : Sto) : Prop where
  sub : Same F H
  len : as.length = sto.length
  nd : as.Nodup
  tab : LamX.Tabs (tabsOf K) H
  nof : NoTbl F
  cell : ∀ (n : Nat) (a : Addr) (c : Cell), as[n]? = some a → sto[n]? = some c → CellR K F H as a c
structure Ext (F H : Hp) (as : List Addr) (F' H' : Hp) (as' : List Addr) : Prop where
  fz : Same F F'
  oth : ∀ b xs, H b = some (.lst xs) → F b = none → b ∉ as → H' b = some (.lst xs) ∧ F' b = none ∧ b ∉ as'
  pre : Pre as as'
theorem Ext.refl (F H : Hp) (as : List Addr) : Ext F H as F H as := ⟨Same.refl F, fun _ _ h1 h2 h3 => ⟨h1, h2, h3⟩, Pre.refl as⟩
theorem Ext.trans {F1 H1 F2 H2 : Hp} {as1 as2 : List Addr} (a : Ext F H as F1 H1 as1) (b : Ext F1 H1 as1 F2 H2 as2) : Ext F H as F2 H2 as2 :=
  ⟨a.fz.trans b.fz, fun x o h1 h2 h3 => let ⟨q1, q2, q3⟩ := a.oth x o h1 h2 h3; b.oth x o q1 q2 q3, a.pre.trans b.pre⟩
theorem St5.alive {sto : Sto} (s : St5 K F H as sto) {a : Addr} (h : a ∈ as) : ∃ o, H a = some o := by
  obtain ⟨n, hn, rfl⟩ := List.mem_iff_getElem.mp h
  have e : as[n]? = some as[n] := List.getElem?_eq_getElem hn
  have hs : n < sto.length := by rw [← s.len]; exact hn
  have c := s.cell n _ _ e (List.getElem?_eq_getElem hs)
  revert c
  cases sto[n] with
  | lst ds => exact fun ⟨_, xs, q, _⟩ => ⟨_, q⟩
  | dead => exact fun ⟨xs, q⟩ => ⟨_, q⟩
theorem St5.nin {sto : Sto} (s : St5 K F H as sto) {p : Addr} (h : H p = none) : p ∉ as := fun m => by
  obtain ⟨o, e⟩ := s.alive m
  rw [h] at e
  cases e
theorem St5.fn {sto : Sto} (s : St5 K F H as sto) {p : Addr} (h : H p = none) : F p = none := s.sub.free h
theorem upd_same_of {p : Addr} {o : HO} (s : Same F H) (h : H p = none) : Same (upd F p o) (upd H p o) := fun b u e => by
  by_cases hb : b = p
  · subst hb
    rw [upd_same] at e ⊢
    exact e
  · rw [upd_ne hb] at e ⊢
    exact s b u e
theorem same_upd {p : Addr} {o : HO} (h : H p = none) : Same H (upd H p o) := fun b u e => by
  rw [upd_ne (ne_of_none e h)]
  exact e
theorem CellR.mono {a : Addr} {c : Cell} (s : Same F F') (p : Pre as as') (hf : ∀ ds, c = .lst ds → F' a = none) (hH : ∀ o, H a = some o → H' a = some o) (h : CellR K F H as a c) : CellR K F' H' as' a c := by
  cases c with
  | lst ds =>
    obtain ⟨h1, xs, h2, h3⟩ := h
    exact ⟨hf ds rfl, xs, hH _ h2, RepAll.mono s p _ _ h3⟩
  | dead =>
    obtain ⟨xs, h2⟩ := h
    exact ⟨xs, hH _ h2⟩
/-- a new frozen object -/
theorem St5.newF {sto : Sto} {p : Addr} {o : HO} (s : St5 K F H as sto) (h : H p = none) (ho : ∀ ps, o ≠ .tbl ps := by intro ps z; cases z) : St5 K (upd F p o) (upd H p o) as sto ∧ Ext F H as (upd F p o) (upd H p o) as := by
  have hF := s.fn h
  have hn := s.nin h
  refine ⟨⟨upd_same_of s.sub h, s.len, s.nd, tabs_upd s.tab (.inl h), s.nof.upd ho, fun n a c e1 e2 => ?_⟩, ⟨same_upd hF, fun b u e f m => ?_, Pre.refl _⟩⟩
  · have ha : a ≠ p := fun z => hn (z ▸ List.mem_of_getElem? e1)
    refine (s.cell n a c e1 e2).mono (same_upd hF) (Pre.refl _) (fun ds hc => ?_) fun u hu => ?_
    · subst hc
      rw [upd_ne ha]
      exact (s.cell n a _ e1 e2).1
    · rw [upd_ne ha]
      exact hu
  · have hb : b ≠ p := ne_of_none e h
    exact ⟨by rw [upd_ne hb]; exact e, by rw [upd_ne hb]; exact f, m⟩
/-- a new list of the store -/
theorem St5.newC {sto : Sto} {p : Addr} {xs : List V} {ds : List D} (s : St5 K F H as sto) (h : H p = none) (r : RepAll K F as xs ds) :
    St5 K F (upd H p (.lst xs)) (as ++ [p]) (sto ++ [.lst ds]) ∧ Ext F H as F (upd H p (.lst xs)) (as ++ [p]) ∧ (as ++ [p])[sto.length]? = some p := by
  have hF := s.fn h
  have hn := s.nin h
  have hp := Pre.app as [p]
  refine ⟨⟨s.sub.trans (same_upd h), by rw [List.length_append, List.length_append, s.len]; rfl, ?_, tabs_upd s.tab (.inl h), s.nof, fun n a c e1 e2 => ?_⟩, ⟨Same.refl F, fun b u e f m => ?_, hp⟩, ?_⟩
  · refine List.nodup_append.mpr ⟨s.nd, by simp, fun a ha b hb e => ?_⟩
    rw [List.mem_singleton] at hb
    exact hn (by rw [← hb, ← e]; exact ha)
  · by_cases hlt : n < as.length
    · rw [List.getElem?_append_left hlt] at e1
      rw [List.getElem?_append_left (by rw [← s.len]; exact hlt)] at e2
      have ha : a ≠ p := fun z => hn (z ▸ List.mem_of_getElem? e1)
      refine (s.cell n a c e1 e2).mono (Same.refl F) hp (fun ds hc => ?_) fun u hu => by rw [upd_ne ha]; exact hu
      subst hc
      exact (s.cell n a _ e1 e2).1
    · have hn2 : n = as.length := by
        have := (List.getElem?_eq_some_iff.mp e1).1
        rw [List.length_append, List.length_singleton] at this
        omega
      subst hn2
      rw [List.getElem?_append_right (Nat.le_refl _), Nat.sub_self] at e1
      rw [s.len, List.getElem?_append_right (Nat.le_refl _), Nat.sub_self] at e2
      cases e1
      cases e2
      exact ⟨hF, xs, upd_same, RepAll.mono (Same.refl F) hp _ _ r⟩
  · have hb : b ≠ p := ne_of_none e h
    refine ⟨by rw [upd_ne hb]; exact e, f, fun z => ?_⟩
    rcases List.mem_append.mp z with z | z
    · exact m z
    · exact hb (List.mem_singleton.mp z)
  · rw [← s.len, List.getElem?_append_right (Nat.le_refl _), Nat.sub_self]
    rfl
/-- a list of the store is changed -/
theorem St5.putC {sto : Sto} {n : Nat} {p : Addr} {xs : List V} {ds ds0 : List D} (s : St5 K F H as sto) (e : as[n]? = some p) (c0 : sto[n]? = some (.lst ds0)) (r : RepAll K F as xs ds) :
    St5 K F (upd H p (.lst xs)) as (sto.set n (.lst ds)) ∧ Ext F H as F (upd H p (.lst xs)) as := by
  have hF : F p = none := (s.cell n p _ e c0).1
  have hL : ∃ xs, H p = some (.lst xs) := by
    obtain ⟨_, xs, q, _⟩ := s.cell n p _ e c0
    exact ⟨xs, q⟩
  refine ⟨⟨fun b u hb => ?_, by rw [List.length_set]; exact s.len, s.nd, tabs_upd s.tab (.inr hL), s.nof, fun m a c e1 e2 => ?_⟩, ⟨Same.refl F, fun b u hb f m => ?_, Pre.refl _⟩⟩
  · have : b ≠ p := ne_of_none hb hF
    rw [upd_ne this]
    exact s.sub b u hb
  · by_cases hm : m = n
    · subst hm
      have : a = p := Option.some.inj (e1.symm.trans e)
      subst this
      rw [List.getElem?_set_self (by rw [← s.len]; exact (List.getElem?_eq_some_iff.mp e1).1)] at e2
      cases e2
      exact ⟨hF, xs, upd_same, r⟩
    · rw [List.getElem?_set_ne (fun z => hm z.symm)] at e2
      have ha : a ≠ p := fun z => hm (nd_ix s.nd e1 (by rw [z]; exact e))
      refine (s.cell m a c e1 e2).mono (Same.refl F) (Pre.refl _) (fun ds hc => ?_) fun u hu => by rw [upd_ne ha]; exact hu
      subst hc
      exact (s.cell m a _ e1 e2).1
  · have hb2 : b ≠ p := fun z => m (z ▸ List.mem_of_getElem? e)
    exact ⟨by rw [upd_ne hb2]; exact hb, f, m⟩
/-- a list of the store is frozen: it is data from then on -/
theorem St5.freeze {sto : Sto} {n : Nat} {p : Addr} {ds : List D} (s : St5 K F H as sto) (e : as[n]? = some p) (c0 : sto[n]? = some (.lst ds)) :
    ∃ xs, H p = some (.lst xs) ∧ St5 K (upd F p (.lst xs)) H as (sto.set n .dead) ∧ Ext F H as (upd F p (.lst xs)) H as ∧ Rep K (upd F p (.lst xs)) as (.ref p) (.lst ds) := by
  obtain ⟨hF, xs, hH, r⟩ := s.cell n p _ e c0
  have sF : Same F (upd F p (.lst xs)) := same_upd hF
  refine ⟨xs, hH, ⟨fun b u hb => ?_, by rw [List.length_set]; exact s.len, s.nd, s.tab, s.nof.upd (fun ps z => by cases z), fun m a c e1 e2 => ?_⟩, ⟨sF, fun b u hb f m => ?_, Pre.refl _⟩, .lst upd_same (RepAll.mono sF (Pre.refl _) _ _ r)⟩
  · by_cases hbp : b = p
    · subst hbp
      rw [upd_same] at hb
      rw [hH]
      exact hb
    · rw [upd_ne hbp] at hb
      exact s.sub b u hb
  · by_cases hm : m = n
    · subst hm
      have : a = p := Option.some.inj (e1.symm.trans e)
      subst this
      rw [List.getElem?_set_self (by rw [← s.len]; exact (List.getElem?_eq_some_iff.mp e1).1)] at e2
      cases e2
      exact ⟨_, hH⟩
    · rw [List.getElem?_set_ne (fun z => hm z.symm)] at e2
      have ha : a ≠ p := fun z => hm (nd_ix s.nd e1 (by rw [z]; exact e))
      refine (s.cell m a c e1 e2).mono sF (Pre.refl _) (fun ds hc => ?_) fun u hu => hu
      subst hc
      rw [upd_ne ha]
      exact (s.cell m a _ e1 e2).1
  · have hb2 : b ≠ p := fun z => m (z ▸ List.mem_of_getElem? e)
    exact ⟨hb, by rw [upd_ne hb2]; exact f, m⟩
end
end DV

namespace DV
open PySem PySem.Spec PyProof.Rows L2

/-! ### results -/
inductive R (α : Type) where
  | ok (a : α) (s : Sto) | ex (x : Ex) (s : Sto) | bad
def R.bind {α β : Type} (r : R α) (k : α → Sto → R β) : R β := match r with
  | .ok a s => k a s
  | .ex x s => .ex x s
  | .bad => .bad
@[simp] theorem R.bind_ok {α β : Type} (a : α) (s : Sto) (k : α → Sto → R β) : (R.ok a s).bind k = k a s := rfl
@[simp] theorem R.bind_ex {α β : Type} (x : Ex) (s : Sto) (k : α → Sto → R β) : (R.ex x s : R α).bind k = .ex x s := rfl
@[simp] theorem R.bind_bad {α β : Type} (k : α → Sto → R β) : (R.bad : R α).bind k = .bad := rfl

def EnvR (K : PySem.W.Frag) (F : Hp) (as : List Addr) (σ : L2.St) (ρ : Env) : Prop :=
  σ.length = ρ.length ∧ ∀ (i : Nat) (d : D), ρ[i]? = some (some d) → ∃ v, σ[i]? = some (some v) ∧ Rep K F as v d
def ExR (K : PySem.W.Frag) (mg : Str → Option Value) (F H : Hp) (as : List Addr) (x : Ex) (cls : Value) (dd : Option Addr) : Prop :=
  cls = .ref (He.ga K x.cls) ∧ ((dd = none ∧ x.ns = [] ∧ x.ds = []) ∨ ∃ (a : Addr) (fv : List (Str × V)), dd = some a ∧ F a = some (.xd fv) ∧ fv.map (·.1) = x.ns ∧ RepAll K F as (fv.map (·.2)) x.ds)
def Fin {α : Type} (K : PySem.W.Frag) (mg : Str → Option Value) (W : WX) (σ : L2.St) (F H : Hp) (as : List Addr) (r : R α) (P : α → Sto → Hp → Hp → List Addr → Prop) : Prop :=
  match r with
  | .ok a s => ∀ F' H' as', Ext F H as F' H' as' → St5 K F' H' as' s → P a s F' H' as'
  | .ex x s => ∀ F' H' as' cls dd, Ext F H as F' H' as' → St5 K F' H' as' s → ExR K mg F' H' as' x cls dd → W cls dd σ H'
  | .bad => False

section
variable {K : PySem.W.Frag} {mg : Str → Option Value} {W : WX} {σ : L2.St} {F H F' H' : Hp} {as as' : List Addr} {ρ : Env} {sto : Sto} {α β : Type}
theorem EnvR.mono (s : Same F F') (p : Pre as as') (h : EnvR K F as σ ρ) : EnvR K F' as' σ ρ :=
  ⟨h.1, fun i d e => let ⟨v, h1, h2⟩ := h.2 i d e; ⟨v, h1, Rep.mono s p _ _ h2⟩⟩
theorem EnvR.ext (x : Ext F H as F' H' as') (h : EnvR K F as σ ρ) : EnvR K F' as' σ ρ := h.mono x.fz x.pre
theorem EnvR.set {i : Nat} {v : V} {d : D} (h : EnvR K F as σ ρ) (r : Rep K F as v d) : EnvR K F as (σ.set i (some v)) (ρ.set i (some d)) := by
  refine ⟨by rw [List.length_set, List.length_set]; exact h.1, fun j e hj => ?_⟩
  by_cases hij : i = j
  · subst hij
    have hl : i < ρ.length := by
      have := (List.getElem?_eq_some_iff.mp hj).1
      rw [List.length_set] at this
      exact this
    rw [List.getElem?_set_self hl] at hj
    cases hj
    exact ⟨v, by rw [List.getElem?_set_self (by rw [h.1]; exact hl)], r⟩
  · rw [List.getElem?_set_ne hij] at hj ⊢
    exact h.2 j e hj
theorem EnvR.del {i : Nat} (h : EnvR K F as σ ρ) : EnvR K F as (σ.set i none) (ρ.set i none) := by
  refine ⟨by rw [List.length_set, List.length_set]; exact h.1, fun j e hj => ?_⟩
  by_cases hij : i = j
  · subst hij
    have hl : i < ρ.length := by
      have := (List.getElem?_eq_some_iff.mp hj).1
      rw [List.length_set] at this
      exact this
    rw [List.getElem?_set_self hl] at hj
    cases hj
  · rw [List.getElem?_set_ne hij] at hj ⊢
    exact h.2 j e hj
theorem Rep.ext {v : V} {d : D} (x : Ext F H as F' H' as') (h : Rep K F as v d) : Rep K F' as' v d := Rep.mono x.fz x.pre _ _ h
theorem RepAll.ext {v : List V} {d : List D} (x : Ext F H as F' H' as') (h : RepAll K F as v d) : RepAll K F' as' v d := RepAll.mono x.fz x.pre _ _ h
theorem Fin.imp {r : R α} {P P' : α → Sto → Hp → Hp → List Addr → Prop} (h : Fin K mg W σ F H as r P)
    (q : ∀ a s F' H' as', Ext F H as F' H' as' → St5 K F' H' as' s → P a s F' H' as' → P' a s F' H' as') : Fin K mg W σ F H as r P' := by
  cases r with
  | ok a s => exact fun F' H' as' x y => q a s F' H' as' x y (h F' H' as' x y)
  | ex x s => exact h
  | bad => exact h
theorem Fin.mono {r : R α} {P : α → Sto → Hp → Hp → List Addr → Prop} {F0 H0 : Hp} {as0 : List Addr} (x : Ext F0 H0 as0 F H as) (h : Fin K mg W σ F0 H0 as0 r P) : Fin K mg W σ F H as r P := by
  cases r with
  | ok a s => exact fun F' H' as' x1 y => h F' H' as' (x.trans x1) y
  | ex e s => exact fun F' H' as' cls dd x1 y z => h F' H' as' cls dd (x.trans x1) y z
  | bad => exact h
theorem Fin.bind {r : R α} {k : α → Sto → R β} {P : β → Sto → Hp → Hp → List Addr → Prop} (h : Fin K mg W σ F H as (r.bind k) P) :
    Fin K mg W σ F H as r (fun a s F1 H1 as1 => Fin K mg W σ F1 H1 as1 (k a s) P) := by
  cases r with
  | ok a s => exact fun F' H' as' x y => Fin.mono x h
  | ex x s => exact h
  | bad => exact h
theorem Fin.ok {a : α} {s : Sto} {P : α → Sto → Hp → Hp → List Addr → Prop} (h : Fin K mg W σ F H as (.ok a s) P) (x : Ext F H as F' H' as') (y : St5 K F' H' as' s) : P a s F' H' as' := h _ _ _ x y
theorem Fin.ok0 {a : α} {s : Sto} {P : α → Sto → Hp → Hp → List Addr → Prop} (h : Fin K mg W σ F H as (.ok a s) P) (y : St5 K F H as s) : P a s F H as := h _ _ _ (Ext.refl _ _ _) y
end

/-! ### judgements -/
/-- what a block changes of a context -/
structure Md where
  s_0 : Shared
  H_0 : Hp
  env : PySem.Env
  outer : List PySem.Env
  ex : List Addr
  fn : Str → Bool
  pn : List (Addr × Obj)
  xe : Value → Shared → Prop
  A : Around
  stack : List PySem.Env
abbrev _root_.L2.Cx.wth (X : Cx) (m : Md) : Cx := { X with s_0 := m.s_0, H_0 := m.H_0, env := m.env, outer := m.outer, ex := m.ex, fn := m.fn, pn := m.pn, xe := m.xe, A := m.A, stack := m.stack }
def DE (X : Cx) (M : Md → Prop) (W : WX) (e : Expr) (f : Env → Sto → R D) : Prop := ∃ t, (∀ m, M m → PE (X.wth m) e t) ∧ ∀ (ρ : Env) (sto : Sto) (σ : L2.St) (F H : Hp) (as : List Addr) (Q : VK), St5 X.K F H as sto → EnvR X.K F as σ ρ →
  Fin X.K X.mg W σ F H as (f ρ sto) (fun d _ F' H' as' => ∀ v, Rep X.K F' as' v d → Q v H') → t σ H Q
def DT (X : Cx) (M : Md → Prop) (W : WX) (e : Expr) (f : Env → Sto → R Bool) : Prop := ∃ t, (∀ m, M m → PT (X.wth m) e t) ∧ ∀ (ρ : Env) (sto : Sto) (σ : L2.St) (F H : Hp) (as : List Addr) (Q : Bool → Hp → Prop), St5 X.K F H as sto → EnvR X.K F as σ ρ →
  Fin X.K X.mg W σ F H as (f ρ sto) (fun b _ _ H' _ => Q b H') → t σ H Q
def DA (X : Cx) (M : Md → Prop) (W : WX) (es : List Expr) (f : Env → Sto → R (List D)) : Prop := ∃ t, (∀ m, M m → PA (X.wth m) es t) ∧ ∀ (ρ : Env) (sto : Sto) (σ : L2.St) (F H : Hp) (as : List Addr) (Q : List V → Hp → Prop), St5 X.K F H as sto → EnvR X.K F as σ ρ →
  Fin X.K X.mg W σ F H as (f ρ sto) (fun ds _ F' H' as' => ∀ vs, RepAll X.K F' as' vs ds → Q vs H') → t σ H Q

inductive Out where
  | nx (ρ : Env) (s : Sto) | ret (d : D) (s : Sto) | brk (ρ : Env) (s : Sto) | ct (ρ : Env) (s : Sto) | ex (x : Ex) (ρ : Env) (s : Sto) | bad
def FinS (K : PySem.W.Frag) (mg : Str → Option Value) (W : WX) (F H : Hp) (as : List Addr) (E : Ends) : Out → Prop
  | .nx ρ s => ∀ σ F' H' as', Ext F H as F' H' as' → St5 K F' H' as' s → EnvR K F' as' σ ρ → E.nx σ H'
  | .ret d s => ∀ v F' H' as', Ext F H as F' H' as' → St5 K F' H' as' s → Rep K F' as' v d → E.rt v H'
  | .brk ρ s => ∀ σ F' H' as', Ext F H as F' H' as' → St5 K F' H' as' s → EnvR K F' as' σ ρ → E.bk σ H'
  | .ct ρ s => ∀ σ F' H' as', Ext F H as F' H' as' → St5 K F' H' as' s → EnvR K F' as' σ ρ → E.ct σ H'
  | .ex x ρ s => ∀ σ F' H' as' cls dd, Ext F H as F' H' as' → St5 K F' H' as' s → EnvR K F' as' σ ρ → ExR K mg F' H' as' x cls dd → W cls dd σ H'
  | .bad => False
def DS (X : Cx) (M : Md → Prop) (W : WX) (st : Stmt) (f : Env → Sto → Out) : Prop := ∃ t, (∀ m, M m → PS (X.wth m) st t) ∧ ∀ (ρ : Env) (sto : Sto) (σ : L2.St) (F H : Hp) (as : List Addr) (E : Ends), St5 X.K F H as sto → EnvR X.K F as σ ρ →
  FinS X.K X.mg W F H as E (f ρ sto) → t E σ H
def DSs (X : Cx) (M : Md → Prop) (W : WX) (st : List Stmt) (f : Env → Sto → Out) : Prop := ∃ t, (∀ m, M m → PSs (X.wth m) st t) ∧ ∀ (ρ : Env) (sto : Sto) (σ : L2.St) (F H : Hp) (as : List Addr) (E : Ends), St5 X.K F H as sto → EnvR X.K F as σ ρ →
  FinS X.K X.mg W F H as E (f ρ sto) → t E σ H
/-- a value's result as a statement's -/
def R.out {α : Type} (r : R α) (ρ : Env) (k : α → Sto → Out) : Out := match r with
  | .ok a s => k a s
  | .ex x s => .ex x ρ s
  | .bad => .bad
@[simp] theorem R.out_ok {α : Type} (a : α) (s : Sto) (ρ : Env) (k : α → Sto → Out) : (R.ok a s).out ρ k = k a s := rfl
@[simp] theorem R.out_ex {α : Type} (x : Ex) (s : Sto) (ρ : Env) (k : α → Sto → Out) : (R.ex x s : R α).out ρ k = .ex x ρ s := rfl
@[simp] theorem R.out_bad {α : Type} (ρ : Env) (k : α → Sto → Out) : (R.bad : R α).out ρ k = .bad := rfl
section
variable {K : PySem.W.Frag} {mg : Str → Option Value} {W : WX} {σ : L2.St} {F H F' H' : Hp} {as as' : List Addr} {ρ : Env} {sto : Sto} {α β : Type} {E : Ends}
theorem FinS.mono {o : Out} {F0 H0 : Hp} {as0 : List Addr} (x : Ext F0 H0 as0 F H as) (h : FinS K mg W F0 H0 as0 E o) : FinS K mg W F H as E o := by
  cases o with
  | nx ρ s => exact fun σ F' H' as' a b c => h σ F' H' as' (x.trans a) b c
  | ret d s => exact fun v F' H' as' a b c => h v F' H' as' (x.trans a) b c
  | brk ρ s => exact fun σ F' H' as' a b c => h σ F' H' as' (x.trans a) b c
  | ct ρ s => exact fun σ F' H' as' a b c => h σ F' H' as' (x.trans a) b c
  | ex e ρ s => exact fun σ F' H' as' cls dd a b c d => h σ F' H' as' cls dd (x.trans a) b c d
  | bad => exact h
theorem FinS.out {r : R α} {k : α → Sto → Out} (he : EnvR K F as σ ρ) (h : FinS K mg W F H as E (r.out ρ k)) :
    Fin K mg W σ F H as r (fun a s F1 H1 as1 => FinS K mg W F1 H1 as1 E (k a s)) := by
  cases r with
  | ok a s => exact fun F' H' as' x y => FinS.mono x h
  | ex x s => exact fun F' H' as' cls dd a b c => h σ F' H' as' cls dd a b (he.ext a) c
  | bad => exact h
end

/-! ### defs -/
/-- what a def does: from the store and the arguments' data -/
abbrev Fn := Sto → List D → R D
def spF (K : PySem.W.Frag) (mg : Str → Option Value) (n : Nat) (g : Fn) : Sp := fun vs H Q E => vs.length = n ∧ ∃ F as sto ds, St5 K F H as sto ∧ RepAll K F as vs ds ∧
  Fin K mg (fun cls dd _ H' => E cls dd H') [] F H as (g sto ds) (fun d _ F' H' as' => ∀ v, Rep K F' as' v d → Q v H')
/-- a def keeps its promise wherever nothing is being shown -/
structure FnG (P : Program) (w : World) (K : PySem.W.Frag) (mg : Str → Option Value) (base : Heap) (k : Nat) (f : Addr) (fd : FuncData) (ps : List Str) (sp : Sp) : Prop where
  len : ∀ vs H Q E, sp vs H Q E → vs.length = ps.length
  run : ∀ (A : Around) (outer : List PySem.Env) (s : Shared) (H : Hp) (args : Args) (us : List Value) (vs : List V) (Q : VK) (E : XK), Room k A → A.guards = some [] →
    Env0 P w K mg base A outer s H → BindsTo s fd args (ps.zip us) → Vals vs us → sp vs H Q E → codeAny (model P w) A (.call (.ref f) args) (CR (L2.CX P w) outer P w H s Q E) s
theorem FnG.mono {P : Program} {w : World} {K : PySem.W.Frag} {mg : Str → Option Value} {base : Heap} {j k : Nat} {f : Addr} {fd : FuncData} {ps : List Str} {sp : Sp} (G : FnG P w K mg base j f fd ps sp) (h : j ≤ k) :
    FnG P w K mg base k f fd ps sp := ⟨G.len, fun A o s H ar us vs Q E r => G.run A o s H ar us vs Q E (r.mono h)⟩
theorem FnG.imp {P : Program} {w : World} {K : PySem.W.Frag} {mg : Str → Option Value} {base : Heap} {k : Nat} {f : Addr} {fd : FuncData} {ps : List Str} {sp sp' : Sp} (G : FnG P w K mg base k f fd ps sp)
    (h : ∀ vs H Q E, sp' vs H Q E → sp vs H Q E) : FnG P w K mg base k f fd ps sp' :=
  ⟨fun vs H Q E q => G.len _ _ _ _ (h _ _ _ _ q), fun A o s H ar us vs Q E r g e b v q => G.run A o s H ar us vs Q E r g e b v (h _ _ _ _ q)⟩
section
variable {P : Program} {w : World} {K : PySem.W.Frag} {mg : Str → Option Value} {base : Heap}
theorem guards_deeper {A : Around} {env : PySem.Env} (h : A.guards = some []) : (A.deeper env).guards = some [] := h
end

section
variable {X : Cx} {W : WX} {k : Nat} {f : Addr} {fd : FuncData} {ps : List Str} {sp : Sp} {x : Str} {p pos : Pos} {e : Expr} {es : List Expr} {t : TA}
theorem run_G {pins : List (Addr × Obj)} {σ : L2.St} {H : Hp} {s : Shared} {Q : VK} {us : List Value} {vs : List V} {args : Args} (G : FnG X.prog X.w X.K X.mg X.base k f fd ps sp) (room : Room k X.A) (gd : X.A.guards = some []) (tk : Takes X W)
    (I : Inv X pins σ H s) (rv : Vals vs us) (bnd : BindsTo s fd args (ps.zip us)) (q : sp vs H Q (WE W σ)) : codeAny (model X.prog X.w) X.A (.call (.ref f) args) (fun r s' => match r with
      | .ok (.ret u) => EP X pins σ Q u s'
      | .ok _ => False
      | .error ev => X.xe ev s') s := by
  refine codeAny_mono (G.run X.A X.stack s H args us vs Q (WE W σ) room gd I.env0 bnd rv q) (fun r s' z => ?_)
  cases r with
  | error ev => exact passAt tk σ pins H s ev s' I z
  | ok fl =>
    cases fl with
    | ret u => exact I.after z
    | next => exact (show False from z).elim
    | brk => exact (show False from z).elim
    | cont => exact (show False from z).elim
theorem pe_callG (G : FnG X.prog X.w X.K X.mg X.base k f fd ps sp) (room : Room k X.A) (gd : X.A.guards = some []) (hg : Gl X x) (hm : X.mg x = some (.ref f)) (hk : PySem.W.keepIn X.K (.ref f) = true) (hb : Binds X.K fd ps []) (tk : Takes X W)
    (ha : PA X (e :: es) t) (hdb : (x == ("__debug__" : Str)) = false) (he : starEach (e :: es) X.env = (false, eval e X.env) :: starEach es X.env) (hpl : (backTo pos (starEach es X.env)).any (·.1) = false) :
    PE X (.Call (.Name x p) (e :: es) [] pos) (tCallS sp (WE W) t) := by
  constructor
  intro pins s σ H Q I h
  refine wpAny_Call_Name_kw (ld_glob I hg hm ?_ hdb)
  refine PySem.W.callWith_K (h₀ := X.base) I.ok.mod.kin hk (thn (ha.run pos pins s σ H _ I h) ?_) he hpl
  rintro us s1 ⟨vs, H1, I1, rv, q⟩
  refine ⟨I1.kIn, wpAny_call (codeAny_mono (run_G (args := ⟨us, []⟩) G room gd tk I1 rv ?_ q) (fun r s' z => ?_))⟩
  · have z := hb s1 us I1.kIn (by rw [List.append_nil, ← rv.length]; exact G.len _ _ _ _ q)
    rw [List.append_nil] at z
    exact z
  · cases r with
    | error ev => exact z
    | ok fl =>
      cases fl with
      | ret u => exact z
      | next => exact z.elim
      | brk => exact z.elim
      | cont => exact z.elim
end

/-! ### calls by names -/
/-- in the parameters' order -/
def permL {α : Type} : List Nat → List α → List α
  | [], _ => []
  | i :: r, l => match l[i]? with
    | some a => a :: permL r l
    | none => permL r l
def KBind (K : PySem.W.Frag) (fd : FuncData) (ps ks : List Str) (pm : List Nat) : Prop := ∀ (s : Shared) (us : List Value), K.In s.heap → us.length = ks.length → BindsTo s fd ⟨[], ks.zip us⟩ (ps.zip (permL pm us))
theorem vals_perm {vs : List V} {us : List Value} (r : Vals vs us) : ∀ pm : List Nat, Vals (permL pm vs) (permL pm us)
  | [] => .nil
  | i :: q => by
    have ih := vals_perm r q
    unfold permL
    cases h : vs[i]? with
    | none =>
      have : us[i]? = none := by
        rw [List.getElem?_eq_none_iff] at h ⊢
        rw [← r.length]
        exact h
      rw [this]
      exact ih
    | some v =>
      obtain ⟨u, hu, ru⟩ := r.get h
      rw [hu]
      exact .cons ru ih
theorem rep_perm {K : PySem.W.Frag} {F : Hp} {as : List Addr} {vs : List V} {ds : List D} (r : RepAll K F as vs ds) : ∀ pm : List Nat, RepAll K F as (permL pm vs) (permL pm ds)
  | [] => .nil
  | i :: q => by
    have ih := rep_perm r q
    unfold permL
    cases h : ds[i]? with
    | none =>
      have : vs[i]? = none := by
        rw [List.getElem?_eq_none_iff] at h ⊢
        rw [r.len]
        exact h
      rw [this]
      exact ih
    | some d =>
      obtain ⟨v, hv, rv⟩ := r.get h
      rw [hv]
      exact .cons rv ih
def tCallGK (n : Nat) (pm : List Nat) (sp : Sp) (EW : L2.St → XK) (tk : TA) : TE := fun σ H Q => tk σ H fun zs H2 => zs.length = n ∧ sp (permL pm zs) H2 Q (EW σ)
section
variable {X : Cx} {W : WX} {k : Nat} {f : Addr} {fd : FuncData} {ps ks : List Str} {pm : List Nat} {sp : Sp} {x : Str} {p pos : Pos} {kws : List Keyword} {t : TA}
theorem pe_callGK (G : FnG X.prog X.w X.K X.mg X.base k f fd ps sp) (room : Room k X.A) (gd : X.A.guards = some []) (hg : Gl X x) (hm : X.mg x = some (.ref f)) (hk : PySem.W.keepIn X.K (.ref f) = true) (hb : KBind X.K fd ps ks pm) (tk : Takes X W)
    (ha : PK X kws t) (hall : (backToKw pos (keywordEach kws X.env)).all (·.1.isSome) = true) (hks : (backToKw pos (keywordEach kws X.env)).filterMap (·.1) = ks)
    (hpl : ((backTo pos (starEach [] X.env)).any (·.1) || (backToKw pos (keywordEach kws X.env)).any (·.1.isNone)) = false) (hdb : (x == ("__debug__" : Str)) = false) :
    PE X (.Call (.Name x p) [] kws pos) (tCallGK ks.length pm sp (WE W) t) := by
  constructor
  intro pins s σ H Q I h
  refine wpAny_Call_Name_kw (ld_glob I hg hm ?_ hdb)
  refine PySem.W.callWith_KW0 (h₀ := X.base) I.ok.mod.kin hk hall ?_ hpl
  refine thn (ha.run pos pins s σ H _ I h) ?_
  rintro us s1 ⟨zs, H1, I1, rv, hl, q⟩
  refine ⟨I1.kIn, ?_⟩
  rw [hks]
  show wpAny _ _ (call (.ref f) [] (ks.zip us)) _ _ _
  refine wpAny_call (codeAny_mono (run_G (args := ⟨[], ks.zip us⟩) G room gd tk I1 (vals_perm rv pm) (hb s1 us I1.kIn (by rw [← rv.length]; exact hl)) q) (fun r s' z => ?_))
  cases r with
  | error e => exact z
  | ok fl =>
    cases fl with
    | ret u => exact z
    | next => exact z.elim
    | brk => exact z.elim
    | cont => exact z.elim
end
end DV

namespace DV
open PySem PySem.Spec PyProof.Rows L2

/-! ### the evaluator's terms -/
inductive Bi where
  | len | int | list | tuple | min2 | max2 | minl | maxl | abs | sum | all | any | sorted | repr
inductive Me where
  | append | extend | popAt | count | countD | index
mutual
inductive Tg where
  | name (i : Nat) | tup (ts : Tgs)
inductive Tgs where
  | nil | cons (t : Tg) (ts : Tgs)
end
mutual
inductive IE where
  | var (i : Nat)
  | int (i : Int) | bl (b : Bool) | non | str (s : Str)
  | glob (x : Str) (i : Int)
  | bin (o : Operator) (m : Bool) (a b : IE)
  | neg (a : IE)
  | tst (t : IT)
  | ife (t : IT) (a b : IE)
  | tup (es : IEs)
  | lst (m : Bool) (es : IEs)
  | ix (a i : IE)
  | slc (m : Bool) (a : IE) (lo hi : IO)
  | rev (m : Bool) (a : IE)
  | call (f : Str) (n : Nat) (g : Fn) (es : IEs)
  | callK (f : Str) (ks : List Str) (pm : List Nat) (n : Nat) (g : Fn) (es : IEs)
  | bi (b : Bi) (m : Bool) (es : IEs)
  | isi (a : IE) (ty : String)
  | meth (mt : Me) (o : IE) (es : IEs)
  | lc (m : Bool) (own : List (Str × Nat)) (tg : Tg) (it : II) (c : IC) (e : IE)
  | lc2 (m : Bool) (own : List (Str × Nat)) (vs1 : List Nat) (tg : Tg) (it : II) (tg1 : Tg) (it1 : II) (e : IE)
  | fz (e : IE)
  | fzl (e : IE)
  | sortK (m : Bool) (a : IE) (c : Nat)
  | isx (a : IE) (y : Str) (tbl : List (Str × Bool))
  | isb (a : IE) (y : String) (tbl : List (Str × Bool))
  | fld (a : IE) (f : Str) (cs : List Str)
  | callT (f : Str) (h : (Sto → R D) → Sto → R D) (b : IE)
  | emp
inductive IEs where
  | nil | cons (e : IE) (es : IEs)
inductive IT where
  | cmp (o : CmpOp) (a b : IE)
  | chain (o1 o2 : CmpOp) (a b c : IE)
  | val (e : IE)
  | and (ts : ITs) | or (ts : ITs) | not (t : IT)
inductive ITs where
  | one (t : IT) | cons (t : IT) (ts : ITs)
inductive IO where
  | none | some (e : IE)
inductive IC where
  | none | some (t : IT)
inductive II where
  | seq (e : IE) | range1 (e : IE) | range2 (a b : IE) | range3 (a b : IE) (c : IE) | enum (e : IE)
end
inductive IS where
  | set (tg : Tg) (e : IE)
  | setLc (i : Nat) (m : Bool) (own : List (Str × Nat)) (tg : Tg) (it : II) (c : IC) (e : IE)
  | setLc2 (i : Nat) (m : Bool) (own : List (Str × Nat)) (vs1 : List Nat) (tg : Tg) (it : II) (tg1 : Tg) (it1 : II) (e : IE)
  | par2 (i j : Nat) (a b : IE)
  | par3 (i j l : Nat) (a b c : IE)
  | setIx (o i e : IE)
  | aug (i : Nat) (o : Operator) (e : IE)
  | ex (e : IE)
  | ret (e : IE) | retN
  | pass | brk | ct
  | never
  | raise (c : Str)
mutual
inductive IB where
  | nil | cons (s : IS) (b : IB)
  | ifs (t : IT) (a c : IB) (b : IB)
  | for_ (tg : Tg) (it : II) (a : IB) (b : IB)
  | while_ (n : Nat) (t : IT) (a : IB) (b : IB)
  | tryA (pi : Nat) (T : Th → Sto → R D) (z : Option Nat) (x : Str) (tbl : List (Str × Bool)) (i j : Nat) (b : IB)
end

/-! ### data, asked -/
def lstOf (s : Sto) : D → Option (List D)
  | .lst xs => some xs
  | .obj n => match s[n]? with
    | some (.lst xs) => some xs
    | _ => none
  | .scr ns => some (ns.map D.int)
  | _ => none
/-- a list that the heap tracks -/
def lstT (s : Sto) : D → Option (List D)
  | .lst xs => some xs
  | .obj n => match s[n]? with
    | some (.lst xs) => some xs
    | _ => none
  | _ => none
def seqOf (s : Sto) : D → Option (List D)
  | .tup xs => some xs
  | d => lstOf s d
def newL (m : Bool) (xs : List D) (s : Sto) : R D := if m then .ok (.obj s.length) (s ++ [.lst xs]) else .ok (.lst xs) s
mutual
def toPy : D → PyData
  | .non => .none
  | .bl b => .bool b
  | .int i => .int i
  | .str x => .str x
  | .lst xs => .list (toPyAll xs)
  | .tup xs => .tuple (toPyAll xs)
  | .obj _ => .none
  | .scr ns => .list (ns.map PyData.int)
  | .exc _ _ _ => .none
  | .fnv _ => .none
  | .dic ks _ => if ks.isEmpty = true then .dict [] else .none
def toPyAll : List D → List PyData
  | [] => []
  | d :: ds => toPy d :: toPyAll ds
end
mutual
/-- no handle within -/
def pure : D → Bool
  | .lst xs => pureAll xs
  | .tup xs => pureAll xs
  | .obj _ => false
  | .scr _ => false
  | .exc _ _ _ => false
  | .fnv _ => false
  | .dic _ _ => false
  | _ => true
def pureAll : List D → Bool
  | [] => true
  | d :: ds => pure d && pureAll ds
end
mutual
/-- .. nor a dict that holds anything -/
def pureR : D → Bool
  | .lst xs => pureRs xs
  | .tup xs => pureRs xs
  | .dic [] [] => true
  | .dic _ _ => false
  | .obj _ => false
  | .scr _ => false
  | .exc _ _ _ => false
  | .fnv _ => false
  | _ => true
def pureRs : List D → Bool
  | [] => true
  | d :: ds => pureR d && pureRs ds
end
/-- the top of a list of the store as data -/
def res (s : Sto) : D → D
  | .obj n => match s[n]? with
    | some (.lst xs) => .lst xs
    | _ => .obj n
  | d => d
def intsOf : List D → Option (List Int)
  | [] => some []
  | .int i :: ds => (intsOf ds).map (i :: ·)
  | _ :: _ => none
def boolsOf : List D → Option (List Bool)
  | [] => some []
  | .bl b :: ds => (boolsOf ds).map (b :: ·)
  | _ :: _ => none
def tupsOf : List D → Option (List (List Int))
  | [] => some []
  | .tup xs :: ds => (intsOf xs).bind fun ns => (tupsOf ds).map (ns :: ·)
  | _ :: _ => none
/-- none of them empty -/
def noneEmpty (ts : List (List Int)) : Bool := ts.all fun t => !t.isEmpty
def ofInts (ns : List Int) : D := .tup (ns.map D.int)
def lexLe (a b : List Int) : Bool := !HT.lexLt b a

def cmpI (o : CmpOp) (i j : Int) : Option Bool := match o with
  | .Lt => some (decide (i < j))
  | .LtE => some (decide (i ≤ j))
  | .Gt => some (decide (j < i))
  | .GtE => some (decide (j ≤ i))
  | _ => none
def eqD (s : Sto) (a b : D) : Option Bool :=
  if pure (res s a) = true ∧ pure (res s b) = true ∧ SeqAt.shaped (toPy (res s a)) = true ∧ SeqAt.shaped (toPy (res s b)) = true then some (PyData.eqv (toPy (res s a)) (toPy (res s b))) else none
def isNon : D → Bool
  | .non => true
  | _ => false
def cmpInts (o : CmpOp) (a b : D) (s : Sto) : R Bool := match a, b with
  | .int i, .int j => match cmpI o i j with
    | some k => .ok k s
    | none => .bad
  | _, _ => .bad
def cmpSem (o : CmpOp) (a b : D) (s : Sto) : R Bool := match o with
  | .Eq => match eqD s a b with
    | some k => .ok k s
    | none => .bad
  | .NotEq => match eqD s a b with
    | some k => .ok (!k) s
    | none => .bad
  | .Is => if isNon b = true then .ok (isNon a) s else .bad
  | .IsNot => if isNon b = true then .ok (!isNon a) s else .bad
  | o => cmpInts o a b s
def addSem (m : Bool) (a b : D) (s : Sto) : R D := match a, b with
  | .int i, .int j => .ok (.int (i + j)) s
  | .str x, .str y => if x.length + y.length ≤ sizeLine then .ok (.str (x ++ y)) s else .bad
  | a, b => match lstT s a, lstT s b with
    | some xs, some ys => if xs.length + ys.length ≤ sizeLine then newL m (xs ++ ys) s else .bad
    | _, _ => .bad
instance (i j : Int) : Decidable (CMulW i j) := inferInstanceAs (Decidable (_ < _))
instance (i j : Int) : Decidable (CDivW i j) := inferInstanceAs (Decidable (_ ∧ _))
instance (i j : Int) : Decidable (CPow i j) := inferInstanceAs (Decidable (_ ∧ _ ∧ _))
def binSem (o : Operator) (m : Bool) (a b : D) (s : Sto) : R D := match o with
  | .Add => addSem m a b s
  | .Sub => match a, b with
    | .int i, .int j => .ok (.int (i - j)) s
    | _, _ => .bad
  | .Mult => match a, b with
    | .int i, .int j => if CMulW i j then .ok (.int (i * j)) s else .bad
    | _, _ => .bad
  | .FloorDiv => match a, b with
    | .int i, .int j => if CDivW i j then .ok (.int (i / j)) s else .bad
    | _, _ => .bad
  | .Mod => match a, b with
    | .int i, .int j => if 0 < j then .ok (.int (i % j)) s else .bad
    | _, _ => .bad
  | .Pow => match a, b with
    | .int i, .int j => if CPow i j then .ok (.int (i ^ j.toNat)) s else .bad
    | _, _ => .bad
  | _ => .bad
/-- += and its like on ints -/
def augSem (o : Operator) (a b : D) (s : Sto) : R D := match a, b with
  | .int i, .int j => (match o with
    | .Add => .ok (.int (i + j)) s
    | .Sub => .ok (.int (i - j)) s
    | .FloorDiv => if CDivW i j then .ok (.int (i / j)) s else .bad
    | .Mod => if 0 < j then .ok (.int (i % j)) s else .bad
    | _ => .bad)
  | _, _ => .bad
def ixSem (a i : D) (s : Sto) : R D := match i with
  | .int k => match seqOf s a with
    | some xs => match atI xs k with
      | some d => .ok d s
      | none => .bad
    | none => .bad
  | _ => .bad
def cutD (xs : List D) (lo hi : Option Int) : List D := (xs.drop (HT.sIx xs.length 0 lo)).take (HT.sIx xs.length xs.length hi - HT.sIx xs.length 0 lo)
def slcSem (m : Bool) (a : D) (lo hi : Option Int) (s : Sto) : R D := match a with
  | .tup xs => if (cutD xs lo hi).length < xs.length then .ok (.tup (cutD xs lo hi)) s else .bad
  | a => match lstOf s a with
    | some xs => newL m (cutD xs lo hi) s
    | none => .bad
def revSem (m : Bool) (a : D) (s : Sto) : R D := match lstOf s a with
  | some xs => newL m xs.reverse s
  | none => .bad
def minI : Int → List Int → Int
  | a, [] => a
  | a, b :: r => minI (if b < a then b else a) r
def maxI : Int → List Int → Int
  | a, [] => a
  | a, b :: r => maxI (if a < b then b else a) r
def biLen (ds : List D) (s : Sto) : R D := match ds with
  | [d] => match seqOf s d with
    | some xs => .ok (.int xs.length) s
    | none => match d with
      | .str x => if x.length ≤ sizeLine then .ok (.int x.length) s else .bad
      | _ => .bad
  | _ => .bad
def biInt (ds : List D) (s : Sto) : R D := match ds with
  | [.int i] => .ok (.int i) s
  | [.bl k] => .ok (.int (if k then 1 else 0)) s
  | _ => .bad
def biList (m : Bool) (ds : List D) (s : Sto) : R D := match ds with
  | [d] => match seqOf s d with
    | some xs => newL m xs s
    | none => .bad
  | _ => .bad
def biTuple (ds : List D) (s : Sto) : R D := match ds with
  | [d] => match lstOf s d with
    | some xs => .ok (.tup xs) s
    | none => .bad
  | _ => .bad
def biTwo (f : Int → Int → Int) (ds : List D) (s : Sto) : R D := match ds with
  | [.int i, .int j] => .ok (.int (f i j)) s
  | _ => .bad
/-- a list of ints -/
def biInts (f : List Int → Option Int) (ds : List D) (s : Sto) : R D := match ds with
  | [d] => match ((lstOf s d).bind intsOf).bind f with
    | some i => .ok (.int i) s
    | none => .bad
  | _ => .bad
def biBools (f : List Bool → Bool) (ds : List D) (s : Sto) : R D := match ds with
  | [d] => match (lstOf s d).bind boolsOf with
    | some bs => .ok (.bl (f bs)) s
    | none => .bad
  | _ => .bad
def biAbs (ds : List D) (s : Sto) : R D := match ds with
  | [.int i] => .ok (.int (if i < 0 then -i else i)) s
  | _ => .bad
def minL : List Int → Option Int
  | [] => none
  | a :: r => some (minI a r)
def maxL : List Int → Option Int
  | [] => none
  | a :: r => some (maxI a r)
def sortT (ts : List (List Int)) : List (List Int) := ts.mergeSort lexLe
def biSorted (m : Bool) (ds : List D) (s : Sto) : R D := match ds with
  | [d] => match (lstOf s d).bind tupsOf with
    | some ts => if ts.length ≤ sizeLine ∧ noneEmpty ts = true then newL m ((sortT ts).map ofInts) s else .bad
    | none => .bad
  | _ => .bad
def reprOk (d : D) : Bool := pureR d && ((toPy d).showable && (decide ((toPy d).shown.length ≤ sizeLine) && decide ((toPy d).depth ≤ 64)))
def biRepr (ds : List D) (s : Sto) : R D := match ds with
  | [d] => if reprOk (res s d) = true then .ok (.str (toPy (res s d)).shown) s else .bad
  | _ => .bad
def biSem (b : Bi) (m : Bool) (ds : List D) (s : Sto) : R D := match b with
  | .len => biLen ds s
  | .int => biInt ds s
  | .list => biList m ds s
  | .tuple => biTuple ds s
  | .min2 => biTwo (fun i j => if j < i then j else i) ds s
  | .max2 => biTwo (fun i j => if j > i then j else i) ds s
  | .minl => biInts minL ds s
  | .maxl => biInts maxL ds s
  | .abs => biAbs ds s
  | .sum => biInts (fun ns => some ns.sum) ds s
  | .all => biBools (fun bs => bs.all id) ds s
  | .any => biBools (fun bs => bs.any id) ds s
  | .sorted => biSorted m ds s
  | .repr => biRepr ds s
def typD : D → Option String
  | .non => some "NoneType"
  | .bl _ => some "bool"
  | .int _ => some "int"
  | .str _ => some "str"
  | .lst _ => some "list"
  | .tup _ => some "tuple"
  | .dic _ _ => some "dict"
  | _ => none
def isiSem (d : D) (ty : String) (s : Sto) : R D := match (typD (res s d)).bind fun t => kitB t ty with
  | some k => .ok (.bl k) s
  | none => .bad
def cntI (k : Int) (ns : List Int) : Nat := ns.count k
def meAppend (o : D) (ds : List D) (s : Sto) : R D := match o, ds with
  | .obj n, [d] => match s[n]? with
    | some (.lst xs) => if xs.length < sizeLine then .ok .non (s.set n (.lst (xs ++ [d]))) else .bad
    | _ => .bad
  | _, _ => .bad
def meExtend (o : D) (ds : List D) (s : Sto) : R D := match o, ds with
  | .obj n, [.lst ys] => match s[n]? with
    | some (.lst xs) => if xs.length + ys.length ≤ sizeLine then .ok .non (s.set n (.lst (xs ++ ys))) else .bad
    | _ => .bad
  | _, _ => .bad
def mePopAt (o : D) (ds : List D) (s : Sto) : R D := match o, ds with
  | .obj n, [.int i] => match s[n]? with
    | some (.lst xs) => if 0 ≤ i ∧ i < 2 ^ 63 then (match xs[i.toNat]? with
        | some d => .ok d (s.set n (.lst (xs.eraseIdx i.toNat)))
        | none => .bad) else .bad
    | _ => .bad
  | _, _ => .bad
def meCount (o : D) (ds : List D) (s : Sto) : R D := match ds with
  | [.int k] => match (lstOf s o).bind intsOf with
    | some ns => .ok (.int (cntI k ns)) s
    | none => .bad
  | _ => .bad
/-- the first place of an equal one -/
def findD (d : PyData) : List PyData → Nat → Option Nat
  | [], _ => none
  | z :: r, i => if PyData.eqv z d = true then some i else findD d r (i + 1)
def meCountD (o : D) (ds : List D) (s : Sto) : R D := match ds with
  | [d] => match lstOf s o with
    | some xs => if (pureAll xs = true ∧ pure d = true) ∧ SeqAt.shaped (.list (toPyAll xs)) = true ∧ SeqAt.shaped (toPy d) = true then .ok (.int ((toPyAll xs).countP fun z => PyData.eqv z (toPy d) : Nat)) s else .bad
    | none => .bad
  | _ => .bad
def meIndex (o : D) (ds : List D) (s : Sto) : R D := match ds with
  | [d] => match lstOf s o with
    | some xs => if (pureAll xs = true ∧ pure d = true) ∧ SeqAt.shaped (.list (toPyAll xs)) = true ∧ SeqAt.shaped (toPy d) = true then (match findD (toPy d) (toPyAll xs) 0 with
        | some j => .ok (.int (j : Nat)) s
        | none => .bad) else .bad
    | none => .bad
  | _ => .bad
def meSem (mt : Me) (o : D) (ds : List D) (s : Sto) : R D := match mt with
  | .append => meAppend o ds s
  | .extend => meExtend o ds s
  | .popAt => mePopAt o ds s
  | .count => meCount o ds s
  | .countD => meCountD o ds s
  | .index => meIndex o ds s
/-- a list of the store becomes data -/
def fzSem (d : D) (s : Sto) : R D := match d with
  | .obj n => match s[n]? with
    | some (.lst xs) => .ok (.lst xs) (s.set n .dead)
    | _ => .bad
  | _ => .bad
def fzAll : List D → Sto → Option (List D × Sto)
  | [], s => some ([], s)
  | d :: r, s => match d with
    | .obj n => match s[n]? with
      | some (.lst xs) => (fzAll r (s.set n .dead)).map fun p => (.lst xs :: p.1, p.2)
      | _ => none
    | d => (fzAll r s).map fun p => (d :: p.1, p.2)
/-- .. with the lists of the store that are its members -/
def fzlSem (d : D) (s : Sto) : R D := match d with
  | .lst xs => match fzAll xs s with
    | some p => .ok (.lst p.1) p.2
    | none => .bad
  | .obj n => match s[n]? with
    | some (.lst xs) => match fzAll xs (s.set n .dead) with
      | some p => .ok (.lst p.1) p.2
      | none => .bad
    | _ => .bad
  | _ => .bad
def stIx (o i d : D) (s : Sto) : Option Sto := match o, i with
  | .obj n, .int k => match s[n]? with
    | some (.lst xs) => (ixN xs.length k).map fun j => s.set n (.lst (xs.set j d))
    | _ => none
  | _, _ => none

/-- sorted by an item of tuples -/
def keyAt (c : Nat) : D → Option Int
  | .tup xs => (match xs[c]? with
    | some (.int k) => some k
    | _ => none)
  | _ => none
def keyLe (c : Nat) (a b : D) : Bool := decide ((keyAt c a).getD 0 ≤ (keyAt c b).getD 0)
def sortKSem (m : Bool) (c : Nat) (x : D) (s : Sto) : R D := match lstOf s x with
  | some xs => if (xs.all fun d => (keyAt c d).isSome) = true then newL m (xs.mergeSort (keyLe c)) s else .bad
  | none => .bad
/-! ### targets, walks -/
mutual
def tgSem : Tg → D → Env → Option Env
  | .name i, d, ρ => some (ρ.set i (some d))
  | .tup ts, d, ρ => match d with
    | .tup ds => tgsSem ts ds ρ
    | _ => none
def tgsSem : Tgs → List D → Env → Option Env
  | .nil, ds, ρ => match ds with
    | [] => some ρ
    | _ => none
  | .cons t ts, ds, ρ => match ds with
    | d :: ds => match tgSem t d ρ with
      | some ρ' => tgsSem ts ds ρ'
      | none => none
    | [] => none
end
def wipeE (ρ : Env) : List Nat → Env
  | [] => ρ
  | v :: vs => (wipeE ρ vs).set v none
def lcGo (el : D → Sto → R (Option D)) : List D → Sto → List D → R (List D)
  | [], s, acc => .ok acc s
  | x :: xs, s, acc => match el x s with
    | .ok (some d) s1 => lcGo el xs s1 (acc ++ [d])
    | .ok none s1 => lcGo el xs s1 acc
    | _ => .bad
/-- two clauses: what the second one's items are for each item of the first -/
def lc2Go (inn : D → Sto → List D → R (List D)) : List D → Sto → List D → R (List D)
  | [], s, acc => .ok acc s
  | x :: xs, s, acc => match inn x s acc with
    | .ok acc1 s1 => lc2Go inn xs s1 acc1
    | _ => .bad
def forGo (bd : D → Env → Sto → Out) : List D → Env → Sto → Out
  | [], ρ, s => .nx ρ s
  | x :: xs, ρ, s => match bd x ρ s with
    | .nx ρ' s' => forGo bd xs ρ' s'
    | .ct ρ' s' => forGo bd xs ρ' s'
    | .brk ρ' s' => .nx ρ' s'
    | o => o
def whileGo (c : Env → Sto → R Bool) (bd : Env → Sto → Out) : Nat → Env → Sto → Out
  | 0, _, _ => .bad
  | n + 1, ρ, s => match c ρ s with
    | .ok true s1 => (match bd ρ s1 with
      | .nx ρ' s' => whileGo c bd n ρ' s'
      | .ct ρ' s' => whileGo c bd n ρ' s'
      | .brk ρ' s' => .nx ρ' s'
      | o => o)
    | .ok false s1 => .nx ρ s1
    | .ex x s1 => .ex x ρ s1
    | .bad => .bad
def rangeD (lo : Int) (n : Nat) : List D := (List.range n).map fun (i : Nat) => D.int (lo + i)
def rangeC (lo c : Int) (n : Nat) : List D := (List.range n).map fun (i : Nat) => D.int (lo + i * c)
def enumD (i : Nat) : List D → List D
  | [] => []
  | d :: ds => .tup [.int i, d] :: enumD (i + 1) ds
def rOk (i : Int) : Prop := -(2 ^ 62) ≤ i ∧ i < 2 ^ 62
instance (i : Int) : Decidable (rOk i) := inferInstanceAs (Decidable (_ ∧ _))
/-- items of what stands still -/
def itemsOf : D → Option (List D)
  | .lst xs => some xs
  | .tup xs => some xs
  | .scr ns => some (ns.map D.int)
  | _ => none
def litOf : D → Option (List D)
  | .lst xs => some xs
  | .scr ns => some (ns.map D.int)
  | _ => none

/-- isinstance of a caught exception (or None) -/
def isxSem (tbl : List (Str × Bool)) (x : D) (s : Sto) : R D := match x with
  | .exc c _ _ => match tbl.lookup c with
    | some k => .ok (.bl k) s
    | none => .bad
  | .non => .ok (.bl false) s
  | _ => .bad
/-- a field of a caught exception -/
def fldSem (f : Str) (cs : List Str) (x : D) (s : Sto) : R D := match x with
  | .exc c ns ds => if cs.contains c = true then match (ns.zip ds).lookup f with
      | some d => .ok d s
      | none => .bad
    else .bad
  | _ => .bad
/-- the lambda that a def got, called -/
def actSem (pi : Nat) (T : Th → Sto → R D) (ρ : Env) (s : Sto) : R D := match ρ[pi]? with
  | some (some (.fnv t)) => T t s
  | _ => .bad
/-- its answer, kept or not -/
def actOut (z : Option Nat) (d : D) (ρ : Env) (s : Sto) : Out := match z with
  | some k => .nx (ρ.set k (some d)) s
  | none => .nx ρ s
/-- except x as n: y = n -/
def catchO (tbl : List (Str × Bool)) (i j : Nat) : Out → Out
  | .ex e ρ s => match tbl.lookup e.cls with
    | some true => .nx (((ρ.set i (some (.exc e.cls e.ns e.ds))).set j (some (.exc e.cls e.ns e.ds))).set i none) s
    | some false => .ex e ρ s
    | none => .bad
  | o => o
/-! ### the evaluator -/
mutual
def semE : IE → Env → Sto → R D
  | .var i, ρ, s => match ρ[i]? with
    | some (some d) => .ok d s
    | _ => .bad
  | .int i, _, s => .ok (.int i) s
  | .bl b, _, s => .ok (.bl b) s
  | .non, _, s => .ok .non s
  | .str x, _, s => .ok (.str x) s
  | .glob _ i, _, s => .ok (.int i) s
  | .bin o m a b, ρ, s => (semE a ρ s).bind fun x s1 => (semE b ρ s1).bind fun y s2 => binSem o m x y s2
  | .neg a, ρ, s => (semE a ρ s).bind fun x s1 => match x with
    | .int i => .ok (.int (-i)) s1
    | _ => .bad
  | .tst t, ρ, s => (semT t ρ s).bind fun b s1 => .ok (.bl b) s1
  | .ife t a b, ρ, s => (semT t ρ s).bind fun k s1 => if k = true then semE a ρ s1 else semE b ρ s1
  | .tup es, ρ, s => (semEs es ρ s).bind fun ds s1 => if ds.length ≤ sizeLine then .ok (.tup ds) s1 else .bad
  | .lst m es, ρ, s => (semEs es ρ s).bind fun ds s1 => if ds.length ≤ sizeLine then newL m ds s1 else .bad
  | .ix a i, ρ, s => (semE a ρ s).bind fun x s1 => (semE i ρ s1).bind fun k s2 => ixSem x k s2
  | .slc m a lo hi, ρ, s => (semE a ρ s).bind fun x s1 => (semO lo ρ s1).bind fun l s2 => (semO hi ρ s2).bind fun h s3 => slcSem m x l h s3
  | .rev m a, ρ, s => (semE a ρ s).bind fun x s1 => revSem m x s1
  | .call _ n g es, ρ, s => (semEs es ρ s).bind fun ds s1 => if ds.length = n then g s1 ds else .bad
  | .callK _ ks pm n g es, ρ, s => (semEs es ρ s).bind fun ds s1 => if ds.length = ks.length ∧ (permL pm ds).length = n then g s1 (permL pm ds) else .bad
  | .bi b m es, ρ, s => (semEs es ρ s).bind fun ds s1 => biSem b m ds s1
  | .isi a ty, ρ, s => (semE a ρ s).bind fun x s1 => isiSem x ty s1
  | .meth mt o es, ρ, s => (semE o ρ s).bind fun x s1 => if (lstOf s1 x).isSome = true then (semEs es ρ s1).bind fun ds s2 => meSem mt x ds s2 else .bad
  | .lc m own tg it c e, ρ, s => (semI it ρ s).bind fun xs s1 => if xs.length ≤ sizeLine then (lcGo (fun x s2 => match tgSem tg x (wipeE ρ (own.map (·.2))) with
      | some ρ1 => (semC c ρ1 s2).bind fun k s3 => if k = true then (semE e ρ1 s3).bind fun d s4 => .ok (some d) s4 else .ok none s3
      | none => .bad) xs s1 []).bind fun ds s2 => newL m ds s2 else .bad
  | .lc2 m own vs1 tg it tg1 it1 e, ρ, s => (semI it ρ s).bind fun xs s1 => (lc2Go (fun x s2 acc => match tgSem tg x (wipeE ρ (own.map (·.2))) with
      | some ρ1 => (semI it1 ρ1 s2).bind fun ys s3 => if acc.length + ys.length ≤ sizeLine then lcGo (fun y s4 => match tgSem tg1 y (wipeE ρ1 vs1) with
          | some ρ2 => (semE e ρ2 s4).bind fun d s5 => .ok (some d) s5
          | none => .bad) ys s3 acc else .bad
      | none => .bad) xs s1 []).bind fun ds s2 => newL m ds s2
  | .fz e, ρ, s => (semE e ρ s).bind fun x s1 => fzSem x s1
  | .fzl e, ρ, s => (semE e ρ s).bind fun x s1 => fzlSem x s1
  | .sortK m a c, ρ, s => (semE a ρ s).bind fun x s1 => sortKSem m c x s1
  | .isx a _ tbl, ρ, s => (semE a ρ s).bind fun x s1 => isxSem tbl x s1
  | .isb a _ tbl, ρ, s => (semE a ρ s).bind fun x s1 => isxSem tbl x s1
  | .fld a f cs, ρ, s => (semE a ρ s).bind fun x s1 => fldSem f cs x s1
  | .callT _ h b, ρ, s => h (fun s1 => semE b ρ s1) s
  | .emp, _, s => .ok (.dic [] []) s
def semEs : IEs → Env → Sto → R (List D)
  | .nil, _, s => .ok [] s
  | .cons e es, ρ, s => (semE e ρ s).bind fun d s1 => (semEs es ρ s1).bind fun ds s2 => .ok (d :: ds) s2
def semT : IT → Env → Sto → R Bool
  | .cmp o a b, ρ, s => (semE a ρ s).bind fun x s1 => (semE b ρ s1).bind fun y s2 => cmpSem o x y s2
  | .chain o1 o2 a b c, ρ, s => (semE a ρ s).bind fun x s1 => (semE b ρ s1).bind fun y s2 => (cmpSem o1 x y s2).bind fun k s3 => if k = true then (semE c ρ s3).bind fun z s4 => cmpSem o2 y z s4 else .ok false s3
  | .val e, ρ, s => (semE e ρ s).bind fun x s1 => match x with
    | .bl k => .ok k s1
    | _ => .bad
  | .and ts, ρ, s => semAnd ts ρ s
  | .or ts, ρ, s => semOr ts ρ s
  | .not t, ρ, s => (semT t ρ s).bind fun k s1 => .ok (!k) s1
def semAnd : ITs → Env → Sto → R Bool
  | .one t, ρ, s => semT t ρ s
  | .cons t ts, ρ, s => (semT t ρ s).bind fun k s1 => if k = true then semAnd ts ρ s1 else .ok false s1
def semOr : ITs → Env → Sto → R Bool
  | .one t, ρ, s => semT t ρ s
  | .cons t ts, ρ, s => (semT t ρ s).bind fun k s1 => if k = true then .ok true s1 else semOr ts ρ s1
def semO : IO → Env → Sto → R (Option Int)
  | .none, _, s => .ok none s
  | .some e, ρ, s => (semE e ρ s).bind fun x s1 => match x with
    | .int i => .ok (some i) s1
    | _ => .bad
def semC : IC → Env → Sto → R Bool
  | .none, _, s => .ok true s
  | .some t, ρ, s => semT t ρ s
def semI : II → Env → Sto → R (List D)
  | .seq e, ρ, s => (semE e ρ s).bind fun x s1 => match itemsOf x with
    | some xs => .ok xs s1
    | none => .bad
  | .range1 e, ρ, s => (semE e ρ s).bind fun x s1 => match x with
    | .int j => if rOk j then .ok (rangeD 0 j.toNat) s1 else .bad
    | _ => .bad
  | .range2 a b, ρ, s => (semE a ρ s).bind fun x s1 => (semE b ρ s1).bind fun y s2 => match x, y with
    | .int i, .int j => if rOk i ∧ rOk j then .ok (rangeD i (j - i).toNat) s2 else .bad
    | _, _ => .bad
  | .range3 a b c, ρ, s => (semE a ρ s).bind fun x s1 => (semE b ρ s1).bind fun y s2 => (semE c ρ s2).bind fun z s3 => match x, y, z with
    | .int i, .int j, .int k => if rOk i ∧ rOk j ∧ k = -1 then .ok (rangeC i k (i - j).toNat) s3 else .bad
    | _, _, _ => .bad
  | .enum e, ρ, s => (semE e ρ s).bind fun x s1 => match litOf x with
    | some xs => .ok (enumD 0 xs) s1
    | none => .bad
end
def semS : IS → Env → Sto → Out
  | .set tg e, ρ, s => (semE e ρ s).out ρ fun d s1 => match tgSem tg d ρ with
    | some ρ1 => .nx ρ1 s1
    | none => .bad
  | .setLc i m own tg it c e, ρ, s => (semE (.lc m own tg it c e) ρ s).out ρ fun d s1 => .nx (ρ.set i (some d)) s1
  | .setLc2 i m own vs1 tg it tg1 it1 e, ρ, s => (semE (.lc2 m own vs1 tg it tg1 it1 e) ρ s).out ρ fun d s1 => .nx (ρ.set i (some d)) s1
  | .par2 i j a b, ρ, s => (semE a ρ s).out ρ fun x s1 => (semE b ρ s1).out ρ fun y s2 => .nx ((ρ.set i (some x)).set j (some y)) s2
  | .par3 i j l a b c, ρ, s => (semE a ρ s).out ρ fun x s1 => (semE b ρ s1).out ρ fun y s2 => (semE c ρ s2).out ρ fun z s3 => .nx (((ρ.set i (some x)).set j (some y)).set l (some z)) s3
  | .setIx o i e, ρ, s => (semE e ρ s).out ρ fun d s1 => (semE o ρ s1).out ρ fun x s2 => (semE i ρ s2).out ρ fun k s3 => match stIx x k d s3 with
    | some s4 => .nx ρ s4
    | none => .bad
  | .aug i o e, ρ, s => match ρ[i]? with
    | some (some x) => (semE e ρ s).out ρ fun y s1 => (augSem o x y s1).out ρ fun z s2 => .nx (ρ.set i (some z)) s2
    | _ => .bad
  | .ex e, ρ, s => (semE e ρ s).out ρ fun _ s1 => .nx ρ s1
  | .ret e, ρ, s => (semE e ρ s).out ρ fun d s1 => .ret d s1
  | .retN, _, s => .ret .non s
  | .pass, ρ, s => .nx ρ s
  | .brk, ρ, s => .brk ρ s
  | .ct, ρ, s => .ct ρ s
  | .never, _, _ => .bad
  | .raise c, ρ, s => .ex ⟨c, [], []⟩ ρ s
def Out.thn (o : Out) (k : Env → Sto → Out) : Out := match o with
  | .nx ρ s => k ρ s
  | o => o
def semB : IB → Env → Sto → Out
  | .nil, ρ, s => .nx ρ s
  | .cons st b, ρ, s => (semS st ρ s).thn fun ρ1 s1 => semB b ρ1 s1
  | .ifs t a c b, ρ, s => ((semT t ρ s).out ρ fun k s1 => if k = true then semB a ρ s1 else semB c ρ s1).thn fun ρ1 s1 => semB b ρ1 s1
  | .for_ tg it a b, ρ, s => ((semI it ρ s).out ρ fun xs s1 => forGo (fun x ρ1 s2 => match tgSem tg x ρ1 with
      | some ρ2 => semB a ρ2 s2
      | none => .bad) xs ρ s1).thn fun ρ1 s1 => semB b ρ1 s1
  | .while_ n t a b, ρ, s => (whileGo (semT t) (fun ρ1 s1 => semB a ρ1 s1) n ρ s).thn fun ρ1 s1 => semB b ρ1 s1
  | .tryA pi T z _ tbl i j b, ρ, s => (catchO tbl i j ((actSem pi T ρ s).out ρ fun d s1 => actOut z d ρ s1)).thn fun ρ1 s1 => semB b ρ1 s1
end DV

namespace DV
open PySem PySem.Spec PyProof.Rows L2

def biNames : List Str := ["len", "int", "list", "tuple", "min", "max", "abs", "sum", "all", "any", "sorted", "repr", "isinstance", "range", "enumerate", "bool", "str", "dict"]
/-- where lambdas are made -/
def LamC (X : Cx) : Prop := ∃ c P, X.env.code = .ref c ∧ LamX.TabB X.base X.mg c P ∧ (P, X.env.qual ++ "<lambda>") ∈ tabsOf X.K ∧ ∀ p ∈ tabsOf X.K, p.1 = P → p.2 = X.env.qual ++ "<lambda>"
structure Ctx (X : Cx) (W : WX) (N : List Str) (sc : Scope) (k : Nat) (fb lb : Bool) : Prop where
  hsc : X.env.scope = sc
  hN : X.N = N
  nd : N.Nodup
  calm : X.calm = true
  tk : Takes X W
  room : Room k X.A
  gd : X.A.guards = some []
  fn : fb = true → ∀ x, X.fn x = true
  kind : X.env.scope.kind = .function
  bi : ∀ x ∈ biNames, X.mg x = none
  lam : lb = true → LamC X
  sysb : ∃ o, X.base.get? sysModules = some o
theorem Ctx.blk {X : Cx} {W : WX} {N : List Str} {sc : Scope} {k : Nat} {fb lb : Bool} (c : Ctx X W N sc k fb lb) (s : Shared) (H : Hp) (scope : Scope) (hk : scope.kind = .function) (C : Addr) (cl : List (Str × Addr)) (fp : List Addr) :
    Ctx (X.blk s H scope (compEnvC scope cl C X.env) fp) (fun _ _ _ _ => False) N (relS scope sc) k false lb where
  hsc := by
    show relabel scope X.env = relS scope sc
    rw [← c.hsc]
    rfl
  hN := c.hN
  nd := c.nd
  calm := c.calm
  tk := takes0
  room := c.room
  gd := c.gd
  fn := fun z => nomatch z
  kind := hk
  bi := c.bi
  lam := c.lam
  sysb := c.sysb
def CtxM (X : Cx) (M : Md → Prop) (W : WX) (N : List Str) (sc : Scope) (k : Nat) (fl lb : Bool) : Prop := ∀ m, M m → Ctx (X.wth m) W N sc k fl lb
def CalleeOk (X : Cx) (k : Nat) (f : Str) (n : Nat) (g : Fn) : Prop := ∃ (fa : Addr) (fd : FuncData) (ps : List Str), X.mg f = some (.ref fa) ∧ PySem.W.keepIn X.K (.ref fa) = true ∧ Binds X.K fd ps [] ∧ ps.length = n ∧
  FnG X.prog X.w X.K X.mg X.base k fa fd ps (spF X.K X.mg n g)
def CalleeKOk (X : Cx) (k : Nat) (f : Str) (ks : List Str) (pm : List Nat) (n : Nat) (g : Fn) : Prop := ∃ (fa : Addr) (fd : FuncData) (ps : List Str), X.mg f = some (.ref fa) ∧ PySem.W.keepIn X.K (.ref fa) = true ∧ KBind X.K fd ps ks pm ∧ ps.length = n ∧
  FnG X.prog X.w X.K X.mg X.base k fa fd ps (spF X.K X.mg n g)

section
variable {K : PySem.W.Frag} {mg : Str → Option Value} {W : WX} {σ : L2.St} {F F' H H' : Hp} {as as' : List Addr} {sto : Sto}
theorem lst_at {v : V} {d : D} {ds : List D} (s : St5 K F H as sto) (r : Rep K F as v d) (h : lstOf sto d = some ds) : ∃ a xs, v = .ref a ∧ SqL K H a xs ∧ RepAll K F as xs ds := by
  cases r with
  | lst a b => cases h; exact ⟨_, _, rfl, .of (s.sub _ _ a), b⟩
  | scr e =>
    cases h
    refine ⟨_, _, rfl, s.sub.seq e, ?_⟩
    rename_i a ns
    clear e
    induction ns with
    | nil => exact .nil
    | cons n r ih => exact .cons (.int n) ih
  | @obj a n e =>
    have h : (match sto[n]? with
      | some (.lst xs) => some xs
      | _ => none) = some ds := h
    split at h
    · rename_i z q
      cases h
      obtain ⟨_, xs, h2, h3⟩ := s.cell _ _ _ e q
      exact ⟨_, _, rfl, .of h2, h3⟩
    · cases h
  | _ => cases h
theorem lstT_at {v : V} {d : D} {ds : List D} (s : St5 K F H as sto) (r : Rep K F as v d) (h : lstT sto d = some ds) : ∃ a xs, v = .ref a ∧ H a = some (.lst xs) ∧ RepAll K F as xs ds := by
  cases r with
  | lst a b => cases h; exact ⟨_, _, rfl, s.sub _ _ a, b⟩
  | scr e => cases h
  | @obj a n e =>
    have h : (match sto[n]? with
      | some (.lst xs) => some xs
      | _ => none) = some ds := h
    split at h
    · rename_i z q
      cases h
      obtain ⟨_, xs, h2, h3⟩ := s.cell _ _ _ e q
      exact ⟨_, _, rfl, h2, h3⟩
    · cases h
  | _ => cases h
theorem seq_at {v : V} {d : D} {ds : List D} (s : St5 K F H as sto) (r : Rep K F as v d) (h : seqOf sto d = some ds) : ∃ a xs, v = .ref a ∧ (SqL K H a xs ∨ SqT K H a xs) ∧ RepAll K F as xs ds := by
  cases r with
  | tup a b => cases h; exact ⟨_, _, rfl, .inr (.of (s.sub _ _ a)), b⟩
  | lst a b =>
    obtain ⟨a, xs, h1, h2, h3⟩ := lst_at s (.lst a b) h
    exact ⟨a, xs, h1, .inl h2, h3⟩
  | obj e =>
    obtain ⟨a, xs, h1, h2, h3⟩ := lst_at s (.obj e) h
    exact ⟨a, xs, h1, .inl h2, h3⟩
  | scr e =>
    obtain ⟨a, xs, h1, h2, h3⟩ := lst_at s (.scr e) h
    exact ⟨a, xs, h1, .inl h2, h3⟩
  | _ => cases h
theorem fin_newL {m : Bool} {xs : List V} {ds : List D} {Q : VK} (s : St5 K F H as sto) (r : RepAll K F as xs ds) (h : Fin K mg W σ F H as (newL m ds sto) (fun d _ F' H' as' => ∀ v, Rep K F' as' v d → Q v H')) :
    ∀ p, H p = none → Q (.ref p) (upd H p (.lst xs)) := by
  intro p hp
  unfold newL at h
  cases m with
  | true =>
    obtain ⟨s', e, a⟩ := s.newC hp r
    exact h _ _ _ e s' _ (.obj a)
  | false =>
    obtain ⟨s', e⟩ := s.newF (o := .lst xs) hp
    exact h _ _ _ e s' _ (.lst upd_same (RepAll.ext e r))
theorem fin_newT {xs : List V} {ds : List D} {Q : VK} (s : St5 K F H as sto) (r : RepAll K F as xs ds) (h : Fin K mg W σ F H as (R.ok (.tup ds) sto) (fun d _ F' H' as' => ∀ v, Rep K F' as' v d → Q v H')) :
    ∀ p, H p = none → Q (.ref p) (upd H p (.tup xs)) := by
  intro p hp
  obtain ⟨s', e⟩ := s.newF (o := .tup xs) hp
  exact h _ _ _ e s' _ (.tup upd_same (RepAll.ext e r))
theorem rep_int {v : V} {i : Int} (r : Rep K F as v (.int i)) : v = .int i := by cases r; rfl
theorem rep_bl {v : V} {i : Bool} (r : Rep K F as v (.bl i)) : v = .bl i := by cases r; rfl
theorem rep_str {v : V} {i : Str} (r : Rep K F as v (.str i)) : v = .str i := by cases r; rfl
theorem rep_non {v : V} (r : Rep K F as v .non) : v = .non := by cases r; rfl
theorem repAll1 {vs : List V} {d : D} (r : RepAll K F as vs [d]) : ∃ v, vs = [v] ∧ Rep K F as v d := by
  cases r with
  | cons a b => cases b; exact ⟨_, rfl, a⟩
theorem repAll2 {vs : List V} {d e : D} (r : RepAll K F as vs [d, e]) : ∃ v w, vs = [v, w] ∧ Rep K F as v d ∧ Rep K F as w e := by
  cases r with
  | cons a b =>
    obtain ⟨w, rfl, q⟩ := repAll1 b
    exact ⟨_, w, rfl, a, q⟩
theorem repAll_ints : ∀ {vs : List V} {ds : List D} {ns : List Int}, RepAll K F as vs ds → intsOf ds = some ns → vs = ns.map V.int
  | _, _, ns, .nil, h => by cases h; rfl
  | _, _, ns, .cons a b, h => by
    cases a with
    | int i =>
      unfold intsOf at h
      obtain ⟨ms, h1, h2⟩ := Option.map_eq_some_iff.mp h
      subst h2
      rw [List.map_cons, ← repAll_ints b h1]
    | _ => cases h
theorem repAll_bools : ∀ {vs : List V} {ds : List D} {ns : List Bool}, RepAll K F as vs ds → boolsOf ds = some ns → vs = ns.map V.bl
  | _, _, ns, .nil, h => by cases h; rfl
  | _, _, ns, .cons a b, h => by
    cases a with
    | bl i =>
      unfold boolsOf at h
      obtain ⟨ms, h1, h2⟩ := Option.map_eq_some_iff.mp h
      subst h2
      rw [List.map_cons, ← repAll_bools b h1]
    | _ => cases h
theorem repInts (ns : List Int) : RepAll K F as (ns.map V.int) (ns.map D.int) := by
  induction ns with
  | nil => exact .nil
  | cons n r ih => exact .cons (.int n) ih
end

section
variable {X : Cx} {M : Md → Prop} {W : WX} {N : List Str} {sc : Scope} {k : Nat} {fl lb : Bool} {e a b : Expr} {fa fb : Env → Sto → R D} {pos : Pos}
theorem DE.weak {f f' : Env → Sto → R D} (h : DE X M W e f) (q : ∀ ρ s, f' ρ s ≠ .bad → f ρ s = f' ρ s) : DE X M W e f' := by
  obtain ⟨t, p, h⟩ := h
  refine ⟨t, p, fun ρ sto σ F H as Q s5 he z => h ρ sto σ F H as Q s5 he ?_⟩
  by_cases hb : f' ρ sto = .bad
  · rw [hb] at z
    exact z.elim
  · rw [q _ _ hb]
    exact z
def OpS (X : Cx) (W : WX) (r : R2) (f : D → D → Sto → R D) : Prop := ∀ (sto : Sto) (σ : L2.St) (F H : Hp) (as : List Addr) (x y : V) (d e : D) (Q : VK), St5 X.K F H as sto → Rep X.K F as x d → Rep X.K F as y e →
  Fin X.K X.mg W σ F H as (f d e sto) (fun d' _ F' H' as' => ∀ v, Rep X.K F' as' v d' → Q v H') → r x y H Q
theorem de_op2 {r : R2} {f : D → D → Sto → R D} (mk : ∀ m, M m → ∀ {ta tb}, PE (X.wth m) a ta → PE (X.wth m) b tb → PE (X.wth m) e (tOp r ta tb)) (hop : OpS X W r f) (ha : DE X M W a fa) (hb : DE X M W b fb) :
    DE X M W e (fun ρ s => (fa ρ s).bind fun x s1 => (fb ρ s1).bind fun y s2 => f x y s2) := by
  obtain ⟨ta, pa, ha⟩ := ha
  obtain ⟨tb, pb, hb⟩ := hb
  refine ⟨_, fun m hm => mk m hm (pa m hm) (pb m hm), fun ρ sto σ F H as Q s5 he h => ?_⟩
  refine ha ρ sto σ F H as _ s5 he (h.bind.imp fun x s1 F1 H1 as1 e1 t1 h1 v rv => ?_)
  refine hb ρ s1 σ F1 H1 as1 _ t1 (he.ext e1) (h1.bind.imp fun y s2 F2 H2 as2 e2 t2 h2 w rw' => ?_)
  exact hop s2 σ F2 H2 as2 v w x y Q t2 (rv.ext e2) rw' h2
theorem de_var {i : Nat} {x : Str} (c : CtxM X M W N sc k fl lb) (h1 : N[i]? = some x) (h2 : Vis sc x) (h3 : (x == ("__debug__" : Str)) = false) (h4 : (x == ("__classdict__" : Str)) = false) : DE X M W (.Name x pos) (semE (.var i)) := by
  refine ⟨tVar i, fun m hm => pe_var (by rw [(c m hm).hN]; exact h1) (by rw [(c m hm).hsc]; exact h2) h3 h4, fun ρ sto σ F H as Q s5 he h => ?_⟩
  simp only [semE] at h
  split at h
  · rename_i d q
    obtain ⟨v, hv, rv⟩ := he.2 i d q
    exact ⟨v, hv, h.ok0 s5 v rv⟩
  · exact h.elim
theorem de_int {i : Int} {j : Nat} : DE X M W (.Constant (.int i) j pos) (semE (.int i)) := ⟨_, fun m hm => pe_int, fun ρ sto σ F H as Q s5 he h => by
  simp only [semE] at h
  exact h.ok0 s5 _ (.int i)⟩
theorem de_bl {i : Bool} {j : Nat} : DE X M W (.Constant (.bool i) j pos) (semE (.bl i)) := ⟨_, fun m hm => pe_bl, fun ρ sto σ F H as Q s5 he h => by
  simp only [semE] at h
  exact h.ok0 s5 _ (.bl i)⟩
theorem de_non {j : Nat} : DE X M W (.Constant .none j pos) (semE .non) := ⟨_, fun m hm => pe_non, fun ρ sto σ F H as Q s5 he h => by
  simp only [semE] at h
  exact h.ok0 s5 _ .non⟩
theorem de_str {i : Str} {j : Nat} : DE X M W (.Constant (.str i) j pos) (semE (.str i)) := ⟨_, fun m hm => pe_str, fun ρ sto σ F H as Q s5 he h => by
  simp only [semE] at h
  exact h.ok0 s5 _ (.str i)⟩
theorem de_glob {x : Str} {i : Int} (c : CtxM X M W N sc k fl lb) (hg : sc.names.lookup x = some .globalImplicit) (hm : ∃ t, X.mg x = some (.int i t)) (hd : (x == ("__debug__" : Str)) = false) : DE X M W (.Name x pos) (semE (.glob x i)) := by
  obtain ⟨t, hg2⟩ := hm
  refine ⟨_, fun m hm => pe_glob (v := .int i) (by show (X.wth m).env.scope.names.lookup x = _; rw [(c m hm).hsc]; exact hg) hg2 ⟨t, rfl⟩ hd, fun ρ sto σ F H as Q s5 he h => ?_⟩
  simp only [semE] at h
  exact h.ok0 s5 _ (.int i)

/-! ### operators -/
theorem opS_int {C : Int → Int → Prop} {g : Int → Int → V} {f : D → D → Sto → R D} (hC : ∀ d e s, f d e s ≠ .bad → ∃ i j w, d = .int i ∧ e = .int j ∧ C i j ∧ f d e s = .ok w s ∧ ∀ K F as, Rep K F as (g i j) w) : OpS X W (rI C g) f := by
  intro sto σ F H as x y d e Q s5 rx ry h
  by_cases hb : f d e sto = .bad
  · rw [hb] at h
    exact h.elim
  · obtain ⟨i, j, w, rfl, rfl, hc, he, hr⟩ := hC d e sto hb
    rw [he] at h
    exact ⟨i, j, rep_int rx, rep_int ry, hc, h.ok0 s5 _ (hr _ _ _)⟩
theorem opS_int0 {g : Int → Int → V} {f : D → D → Sto → R D} (hC : ∀ d e s, f d e s ≠ .bad → ∃ i j w, d = .int i ∧ e = .int j ∧ f d e s = .ok w s ∧ ∀ K F as, Rep K F as (g i j) w) : OpS X W (rI0 g) f := by
  intro sto σ F H as x y d e Q s5 rx ry h
  by_cases hb : f d e sto = .bad
  · rw [hb] at h
    exact h.elim
  · obtain ⟨i, j, w, rfl, rfl, he, hr⟩ := hC d e sto hb
    rw [he] at h
    exact ⟨i, j, rep_int rx, rep_int ry, h.ok0 s5 _ (hr _ _ _)⟩
theorem opS_sub {m : Bool} : OpS X W (rI0 fun i j => .int (i - j)) (binSem .Sub m) := opS_int0 fun d e s h => by
  unfold binSem at h ⊢
  cases d <;> cases e <;> first | exact absurd rfl h | exact ⟨_, _, _, rfl, rfl, rfl, fun _ _ _ => .int _⟩
theorem opS_ifI {C : Int → Int → Prop} [∀ i j, Decidable (C i j)] {g : Int → Int → Int} : OpS X W (rI C fun i j => .int (g i j)) (fun d e s => match d, e with
    | .int i, .int j => if C i j then R.ok (.int (g i j)) s else .bad
    | _, _ => .bad) := opS_int fun d e s h => by
  cases d <;> cases e <;> first | exact absurd rfl h | skip
  rename_i i j
  by_cases hc : C i j
  · exact ⟨i, j, _, rfl, rfl, hc, if_pos hc, fun _ _ _ => .int _⟩
  · exact absurd (if_neg hc) h
theorem opS_mul {m : Bool} : OpS X W (rI CMulW fun i j => .int (i * j)) (binSem .Mult m) := opS_ifI (C := CMulW) (g := fun i j => i * j)
theorem opS_div {m : Bool} : OpS X W (rI CDivW fun i j => .int (i / j)) (binSem .FloorDiv m) := opS_ifI (C := CDivW) (g := fun i j => i / j)
theorem opS_mod {m : Bool} : OpS X W (rI (fun _ j => 0 < j) fun i j => .int (i % j)) (binSem .Mod m) := opS_ifI (C := fun _ j => 0 < j) (g := fun i j => i % j)
theorem opS_pow {m : Bool} : OpS X W (rI CPow fun i j => .int (i ^ j.toNat)) (binSem .Pow m) := opS_ifI (C := CPow) (g := fun i j => i ^ j.toNat)
def rAddA : R2 := fun x y H Q => (rI0 fun i j => .int (i + j)) x y H Q ∨ ((fun x y H Q => ∃ i j, x = V.str i ∧ y = V.str j ∧ i.length + j.length ≤ sizeLine ∧ Q (V.str (i ++ j)) H) x y H Q ∨ rCat x y H Q)
theorem op_addA {X : Cx} : OpR X (binaryOp .Add) rAddA := op_add.or (op_add_str.or op_cat)
theorem opS_add {m : Bool} : OpS X W rAddA (binSem .Add m) := by
  intro sto σ F H as x y d e Q s5 rx ry h
  have cat : ∀ {d e : D}, Rep X.K F as x d → Rep X.K F as y e → Fin X.K X.mg W σ F H as (match lstT sto d, lstT sto e with
      | some xs, some ys => if xs.length + ys.length ≤ sizeLine then newL m (xs ++ ys) sto else .bad
      | _, _ => .bad) (fun d' _ F' H' as' => ∀ v, Rep X.K F' as' v d' → Q v H') → rAddA x y H Q := by
    intro d e rx ry h
    split at h
    · rename_i xs ys q1 q2
      by_cases hl : xs.length + ys.length ≤ sizeLine
      · rw [if_pos hl] at h
        obtain ⟨a1, vs, rfl, h1, r1⟩ := lstT_at s5 rx q1
        obtain ⟨a2, ws, rfl, h2, r2⟩ := lstT_at s5 ry q2
        refine .inr (.inr ⟨a1, a2, vs, ws, rfl, rfl, h1, h2, by rw [r1.len, r2.len]; exact hl, fin_newL s5 (r1.append r2) h⟩)
      · rw [if_neg hl] at h
        exact h.elim
    · exact h.elim
  have h : Fin X.K X.mg W σ F H as (addSem m d e sto) (fun d' _ F' H' as' => ∀ v, Rep X.K F' as' v d' → Q v H') := h
  unfold addSem at h
  split at h
  · exact .inl ⟨_, _, rep_int rx, rep_int ry, h.ok0 s5 _ (.int _)⟩
  · rename_i u w _
    by_cases hl : u.length + w.length ≤ sizeLine
    · rw [if_pos hl] at h
      exact .inr (.inl ⟨u, w, rep_str rx, rep_str ry, hl, h.ok0 s5 _ (.str _)⟩)
    · rw [if_neg hl] at h
      exact h.elim
  · exact cat rx ry h
theorem de_bin {o : Operator} {m : Bool} {ia ib : IE} (ha : DE X M W a (semE ia)) (hb : DE X M W b (semE ib)) (ho : o = .Add ∨ o = .Sub ∨ o = .Mult ∨ o = .FloorDiv ∨ o = .Mod ∨ o = .Pow) : DE X M W (.BinOp a o b pos) (semE (.bin o m ia ib)) := by
  simp only [semE]
  rcases ho with rfl | rfl | rfl | rfl | rfl | rfl
  · exact de_op2 (fun m hm _ _ pa pb => pe_op op_addA pa pb) opS_add ha hb
  · exact de_op2 (fun m hm _ _ pa pb => pe_op op_sub pa pb) opS_sub ha hb
  · exact de_op2 (fun m hm _ _ pa pb => pe_op op_mulW pa pb) opS_mul ha hb
  · exact de_op2 (fun m hm _ _ pa pb => pe_op op_fdivW pa pb) opS_div ha hb
  · exact de_op2 (fun m hm _ _ pa pb => pe_op op_mod pa pb) opS_mod ha hb
  · exact de_op2 (fun m hm _ _ pa pb => pe_op op_pow pa pb) opS_pow ha hb
theorem de_neg {ia : IE} (ha : DE X M W a (semE ia)) : DE X M W (.UnaryOp .USub a pos) (semE (.neg ia)) := by
  obtain ⟨ta, pa, ha⟩ := ha
  refine ⟨_, fun m hm => pe_un un_neg (pa m hm), fun ρ sto σ F H as Q s5 he h => ?_⟩
  simp only [semE] at h
  refine ha ρ sto σ F H as _ s5 he (h.bind.imp fun x s1 F1 H1 as1 e1 t1 h1 v rv => ?_)
  cases rv with
  | int i => exact ⟨i, rfl, h1.ok0 t1 _ (.int _)⟩
  | _ => exact h1.elim
end
end DV

namespace DV
open PySem PySem.Spec PyProof.Rows L2

section
variable {K : PySem.W.Frag} {mg : Str → Option Value} {W : WX} {σ : L2.St} {F F' H H' : Hp} {as as' : List Addr} {sto : Sto}
/-! ### data of the library -/
mutual
theorem dp_of (s : Same F H) : ∀ (d : D) (v : V), Rep K F as v d → pure d = true → Dp K H v (toPy d)
  | .non, _, h, _ => by cases h; unfold toPy; exact .non
  | .bl _, _, h, _ => by cases h; unfold toPy; exact .bl _
  | .int _, _, h, _ => by cases h; unfold toPy; exact .int _
  | .str _, _, h, _ => by cases h; unfold toPy; exact .str _
  | .lst ds, _, h, p => by
    cases h with
    | lst a b =>
      unfold toPy
      exact .lst (.of (s _ _ a)) (dpAll_of s ds _ b (by unfold pure at p; exact p))
  | .tup ds, _, h, p => by
    cases h with
    | tup a b =>
      unfold toPy
      exact .tup (.of (s _ _ a)) (dpAll_of s ds _ b (by unfold pure at p; exact p))
  | .obj _, _, _, p => by unfold pure at p; cases p
  | .scr _, _, _, p => by unfold pure at p; cases p
  | .exc _ _ _, _, _, p => by unfold pure at p; cases p
  | .fnv _, _, _, p => by unfold pure at p; cases p
  | .dic _ _, _, _, p => by unfold pure at p; cases p
theorem dpAll_of (s : Same F H) : ∀ (ds : List D) (vs : List V), RepAll K F as vs ds → pureAll ds = true → DpAll K H vs (toPyAll ds)
  | [], _, h, _ => by cases h; unfold toPyAll; exact .nil
  | d :: ds, _, h, p => by
    cases h with
    | cons a b =>
      unfold pureAll at p
      rw [Bool.and_eq_true] at p
      unfold toPyAll
      exact .cons (dp_of s d _ a p.1) (dpAll_of s ds _ b p.2)
end
theorem dp_res {v : V} {d : D} (s : St5 K F H as sto) (r : Rep K F as v d) (p : pure (res sto d) = true) : Dp K H v (toPy (res sto d)) := by
  cases r with
  | @obj a n e =>
    cases q : sto[n]? with
    | none =>
      have z : res sto (.obj n) = .obj n := by unfold res; simp only [q]
      rw [z] at p
      unfold pure at p
      cases p
    | some c =>
      cases c with
      | dead =>
        have z : res sto (.obj n) = .obj n := by unfold res; simp only [q]
        rw [z] at p
        unfold pure at p
        cases p
      | lst ds =>
        have z : res sto (.obj n) = .lst ds := by unfold res; simp only [q]
        rw [z] at p ⊢
        obtain ⟨_, xs, h2, h3⟩ := s.cell _ _ _ e q
        unfold pure at p
        unfold toPy
        exact .lst (.of h2) (dpAll_of s.sub _ _ h3 p)
  | non => exact dp_of (as := as) s.sub _ _ .non p
  | bl b => exact dp_of s.sub _ _ (Rep.bl (as := as) b) p
  | int b => exact dp_of s.sub _ _ (Rep.int (as := as) b) p
  | str b => exact dp_of s.sub _ _ (Rep.str (as := as) b) p
  | lst a b => exact dp_of s.sub _ _ (Rep.lst a b) p
  | tup a b => exact dp_of s.sub _ _ (Rep.tup a b) p
  | scr e => exact dp_of s.sub _ _ (Rep.scr (as := as) e) p
  | exc0 _ => exact absurd p (by unfold res pure; exact Bool.false_ne_true)
  | exc _ _ _ _ _ => exact absurd p (by unfold res pure; exact Bool.false_ne_true)
  | fnv _ _ _ => exact absurd p (by unfold res pure; exact Bool.false_ne_true)
  | dic _ _ _ _ _ => exact absurd p (by unfold res pure; exact Bool.false_ne_true)
end

section
variable {X : Cx} {M : Md → Prop} {W : WX} {N : List Str} {sc : Scope} {k : Nat} {fl lb : Bool} {e a b : Expr} {pos : Pos}
theorem hu64 (c : Ctx X W N sc k fl lb) : X.A.units + 64 < cLine := c.room.units
/-! ### comparisons -/
def rCmpI (o : CmpOp) : R2 := match o with
  | .Lt => rI0 fun i j => .bl (decide (i < j))
  | .LtE => rI0 fun i j => .bl (decide (i ≤ j))
  | .Gt => rI0 fun i j => .bl (decide (j < i))
  | .GtE => rI0 fun i j => .bl (decide (j ≤ i))
  | _ => fun _ _ _ _ => False
def rIsA : R2 := fun x y H Q => y = .non ∧ Q (.bl (decide (x = .non))) H
def rIsNA : R2 := fun x y H Q => y = .non ∧ Q (.bl (!decide (x = .non))) H
def rCmpA (K : PySem.W.Frag) (o : CmpOp) : R2 := match o with
  | .Eq => rEqD K
  | .NotEq => rNeD K
  | .Is => rIsA
  | .IsNot => rIsNA
  | o => rCmpI o
theorem op_cmpA (c : Ctx X W N sc k fl lb) (o : CmpOp) : OpR X (compareOp o) (rCmpA X.K o) := by
  cases o with
  | Eq => exact op_eqD (hu64 c)
  | NotEq => exact op_neD (hu64 c)
  | Lt => exact op_lt
  | LtE => exact op_le
  | Gt => exact op_gt
  | GtE => exact op_ge
  | Is => exact op_isN
  | IsNot => exact op_notN
  | In => exact fun _ _ _ _ _ _ _ _ _ _ _ _ h => False.elim h
  | NotIn => exact fun _ _ _ _ _ _ _ _ _ _ _ _ h => False.elim h
theorem isNon_iff {K : PySem.W.Frag} {F : Hp} {as : List Addr} {v : V} {d : D} (r : Rep K F as v d) : isNon d = decide (v = .non) := by
  cases r <;> rfl
/-- a comparison's reading, by the evaluator's answer -/
theorem opS_cmp (o : CmpOp) {sto : Sto} {σ : L2.St} {F H : Hp} {as : List Addr} {x y : V} {d e : D} {Q : VK} (s5 : St5 X.K F H as sto) (rx : Rep X.K F as x d) (ry : Rep X.K F as y e)
    (h : Fin X.K X.mg W σ F H as (cmpSem o d e sto) (fun b _ _ H' _ => Q (.bl b) H')) : rCmpA X.K o x y H Q := by
  have hints : ∀ (o : CmpOp), Fin X.K X.mg W σ F H as (cmpInts o d e sto) (fun b _ _ H' _ => Q (.bl b) H') → rCmpI o x y H Q := by
    intro o h
    unfold cmpInts at h
    split at h
    · cases o with
      | Lt => exact ⟨_, _, rep_int rx, rep_int ry, h.ok0 s5⟩
      | LtE => exact ⟨_, _, rep_int rx, rep_int ry, h.ok0 s5⟩
      | Gt => exact ⟨_, _, rep_int rx, rep_int ry, h.ok0 s5⟩
      | GtE => exact ⟨_, _, rep_int rx, rep_int ry, h.ok0 s5⟩
      | _ => exact h.elim
    · exact h.elim
  cases o with
  | Eq =>
    have h : Fin X.K X.mg W σ F H as (match eqD sto d e with
      | some k => R.ok k sto
      | none => .bad) (fun b _ _ H' _ => Q (.bl b) H') := h
    unfold eqD at h
    split at h
    · rename_i k q
      split at q
      · rename_i hp
        cases q
        exact ⟨_, _, dp_res s5 rx hp.1, dp_res s5 ry hp.2.1, hp.2.2.1, hp.2.2.2, h.ok0 s5⟩
      · cases q
    · exact h.elim
  | NotEq =>
    have h : Fin X.K X.mg W σ F H as (match eqD sto d e with
      | some k => R.ok (!k) sto
      | none => .bad) (fun b _ _ H' _ => Q (.bl b) H') := h
    unfold eqD at h
    split at h
    · rename_i k q
      split at q
      · rename_i hp
        cases q
        exact ⟨_, _, dp_res s5 rx hp.1, dp_res s5 ry hp.2.1, hp.2.2.1, hp.2.2.2, h.ok0 s5⟩
      · cases q
    · exact h.elim
  | Is =>
    have h : Fin X.K X.mg W σ F H as (if isNon e = true then R.ok (isNon d) sto else .bad) (fun b _ _ H' _ => Q (.bl b) H') := h
    split at h
    · rename_i q
      rw [isNon_iff ry] at q
      rw [isNon_iff rx] at h
      exact ⟨of_decide_eq_true q, h.ok0 s5⟩
    · exact h.elim
  | IsNot =>
    have h : Fin X.K X.mg W σ F H as (if isNon e = true then R.ok (!isNon d) sto else .bad) (fun b _ _ H' _ => Q (.bl b) H') := h
    split at h
    · rename_i q
      rw [isNon_iff ry] at q
      rw [isNon_iff rx] at h
      exact ⟨of_decide_eq_true q, h.ok0 s5⟩
    · exact h.elim
  | Lt => exact hints .Lt h
  | LtE => exact hints .LtE h
  | Gt => exact hints .Gt h
  | GtE => exact hints .GtE h
  | In => exact (show False from hints .In h).elim
  | NotIn => exact (show False from hints .NotIn h).elim
theorem dt_cmp {o : CmpOp} {ia ib : IE} (c : CtxM X M W N sc k fl lb) (ho : behindInMarks o b = false) (ha : DE X M W a (semE ia)) (hb : DE X M W b (semE ib)) : DT X M W (.Compare a [o] [b] pos) (semT (.cmp o ia ib)) := by
  obtain ⟨ta, pa, ha⟩ := ha
  obtain ⟨tb, pb, hb⟩ := hb
  refine ⟨tTest (tOp (rCmpA X.K o) ta tb), fun m hm => pt_cmpR (op_cmpA (c m hm) o) (pa m hm) (pb m hm) ho, fun ρ sto σ F H as Q s5 he h => ?_⟩
  simp only [semT] at h
  refine ha ρ sto σ F H as _ s5 he (h.bind.imp fun x s1 F1 H1 as1 e1 t1 h1 v rv => ?_)
  refine hb ρ s1 σ F1 H1 as1 _ t1 (he.ext e1) (h1.bind.imp fun y s2 F2 H2 as2 e2 t2 h2 w rw' => ?_)
  exact opS_cmp (W := W) (σ := σ) o t2 (rv.ext e2) rw' (h2.imp fun b s F' H' as' _ _ q => ⟨b, rfl, q⟩)
theorem de_cmp {o : CmpOp} {ia ib : IE} (c : CtxM X M W N sc k fl lb) (ho : behindInMarks o b = false) (ha : DE X M W a (semE ia)) (hb : DE X M W b (semE ib)) : DE X M W (.Compare a [o] [b] pos) (semE (.tst (.cmp o ia ib))) := by
  obtain ⟨ta, pa, ha⟩ := ha
  obtain ⟨tb, pb, hb⟩ := hb
  refine ⟨tOp (rCmpA X.K o) ta tb, fun m hm => pe_cmpR (op_cmpA (c m hm) o) (pa m hm) (pb m hm) ho, fun ρ sto σ F H as Q s5 he h => ?_⟩
  simp only [semE, semT] at h
  have h := h.bind
  refine ha ρ sto σ F H as _ s5 he (h.bind.imp fun x s1 F1 H1 as1 e1 t1 h1 v rv => ?_)
  refine hb ρ s1 σ F1 H1 as1 _ t1 (he.ext e1) (h1.bind.imp fun y s2 F2 H2 as2 e2 t2 h2 w rw' => ?_)
  exact opS_cmp (W := W) (σ := σ) o t2 (rv.ext e2) rw' (h2.imp fun b s F' H' as' _ t q => q.ok0 t _ (.bl b))
theorem de_chain {o o' : CmpOp} {cc : Expr} {ia ib ic : IE} (c : CtxM X M W N sc k fl lb) (ho : behindInMarks o' cc = false) (ha : DE X M W a (semE ia)) (hb : DE X M W b (semE ib)) (hc : DE X M W cc (semE ic)) : DE X M W (.Compare a [o, o'] [b, cc] pos) (semE (.tst (.chain o o' ia ib ic))) := by
  obtain ⟨ta, pa, ha⟩ := ha
  obtain ⟨tb, pb, hb⟩ := hb
  obtain ⟨tc, pc, hc⟩ := hc
  refine ⟨tChain (rCmpA X.K o) (rCmpA X.K o') ta tb tc, fun m hm => pe_chain (op_cmpA (c m hm) o) (op_cmpA (c m hm) o') (pa m hm) (pb m hm) (pc m hm) (by simpa only [lastMarks] using ho), fun ρ sto σ F H as Q s5 he h => ?_⟩
  simp only [semE, semT] at h
  have h := h.bind
  refine ha ρ sto σ F H as _ s5 he (h.bind.imp fun x s1 F1 H1 as1 e1 t1 h1 v rv => ?_)
  refine hb ρ s1 σ F1 H1 as1 _ t1 (he.ext e1) (h1.bind.imp fun y s2 F2 H2 as2 e2 t2 h2 w rw' => ?_)
  refine opS_cmp (W := W) (σ := σ) o t2 (rv.ext e2) rw' (h2.bind.imp fun kk s3 F3 H3 as3 e3 t3 h3 => ⟨kk, rfl, ?_⟩)
  cases kk with
  | false =>
    rw [if_neg Bool.false_ne_true]
    rw [if_neg Bool.false_ne_true] at h3
    exact (h3.ok0 t3).ok0 t3 _ (.bl false)
  | true =>
    rw [if_pos rfl]
    rw [if_pos rfl] at h3
    refine hc ρ s3 σ F3 H3 as3 _ t3 (((he.ext e1).ext e2).ext e3) (h3.bind.imp fun z s4 F4 H4 as4 e4 t4 h4 u ru => ?_)
    exact opS_cmp (W := W) (σ := σ) o' t4 ((rw'.ext e3).ext e4) ru (h4.imp fun b s F' H' as' _ t q => q.ok0 t _ (.bl b))
theorem dt_chain {o o' : CmpOp} {cc : Expr} {ia ib ic : IE} (c : CtxM X M W N sc k fl lb) (ho : behindInMarks o' cc = false) (ha : DE X M W a (semE ia)) (hb : DE X M W b (semE ib)) (hc : DE X M W cc (semE ic)) : DT X M W (.Compare a [o, o'] [b, cc] pos) (semT (.chain o o' ia ib ic)) := by
  obtain ⟨ta, pa, ha⟩ := ha
  obtain ⟨tb, pb, hb⟩ := hb
  obtain ⟨tc, pc, hc⟩ := hc
  refine ⟨tTest (tChain (rCmpA X.K o) (rCmpA X.K o') ta tb tc), fun m hm => pt_chain (op_cmpA (c m hm) o) (op_cmpA (c m hm) o') (pa m hm) (pb m hm) (pc m hm) (by simpa only [lastMarks] using ho), fun ρ sto σ F H as Q s5 he h => ?_⟩
  simp only [semT] at h
  refine ha ρ sto σ F H as _ s5 he (h.bind.imp fun x s1 F1 H1 as1 e1 t1 h1 v rv => ?_)
  refine hb ρ s1 σ F1 H1 as1 _ t1 (he.ext e1) (h1.bind.imp fun y s2 F2 H2 as2 e2 t2 h2 w rw' => ?_)
  refine opS_cmp (W := W) (σ := σ) o t2 (rv.ext e2) rw' (h2.bind.imp fun kk s3 F3 H3 as3 e3 t3 h3 => ⟨kk, rfl, ?_⟩)
  cases kk with
  | false =>
    rw [if_neg Bool.false_ne_true]
    rw [if_neg Bool.false_ne_true] at h3
    exact ⟨_, rfl, h3.ok0 t3⟩
  | true =>
    rw [if_pos rfl]
    rw [if_pos rfl] at h3
    refine hc ρ s3 σ F3 H3 as3 _ t3 (((he.ext e1).ext e2).ext e3) (h3.bind.imp fun z s4 F4 H4 as4 e4 t4 h4 u ru => ?_)
    exact opS_cmp (W := W) (σ := σ) o' t4 ((rw'.ext e3).ext e4) ru (h4.imp fun b s F' H' as' _ t q => ⟨b, rfl, q⟩)

/-! ### truth -/
def plainT : Expr → Bool
  | .Call .. => true
  | .Name .. => true
  | .Constant .. => true
  | .Subscript .. => true
  | _ => false
theorem dt_val {ia : IE} (hp : plainT a = true) (ha : DE X M W a (semE ia)) : DT X M W a (semT (.val ia)) := by
  obtain ⟨ta, pa, ha⟩ := ha
  refine ⟨_, fun m hm => pt_val (pa m hm) (by cases a <;> first | exact absurd hp Bool.false_ne_true | exact fun _ => rfl), fun ρ sto σ F H as Q s5 he h => ?_⟩
  simp only [semT] at h
  refine ha ρ sto σ F H as _ s5 he (h.bind.imp fun x s1 F1 H1 as1 e1 t1 h1 v rv => ?_)
  cases rv with
  | bl b => exact ⟨b, rfl, h1.ok0 t1⟩
  | _ => exact h1.elim
theorem dt_not {t : IT} (ha : DT X M W a (semT t)) : DT X M W (.UnaryOp .Not a pos) (semT (.not t)) := by
  obtain ⟨ta, pa, ha⟩ := ha
  refine ⟨_, fun m hm => pt_not (pa m hm), fun ρ sto σ F H as Q s5 he h => ?_⟩
  simp only [semT] at h
  exact ha ρ sto σ F H as _ s5 he (h.bind.imp fun x s1 F1 H1 as1 e1 t1 h1 => h1.ok0 t1)
theorem de_not {t : IT} (ha : DE X M W a (semE (.tst t))) : DE X M W (.UnaryOp .Not a pos) (semE (.tst (.not t))) := by
  obtain ⟨ta, pa, ha⟩ := ha
  refine ⟨_, fun m hm => pe_not (pa m hm), fun ρ sto σ F H as Q s5 he h => ?_⟩
  simp only [semE, semT] at h ha
  have h : Fin X.K X.mg W σ F H as ((semT t ρ sto).bind fun b s1 => (R.ok (!b) s1).bind fun b s1 => R.ok (D.bl b) s1) (fun d _ F' H' as' => ∀ v, Rep X.K F' as' v d → Q v H') := by
    cases hh : semT t ρ sto <;> (rw [hh] at h; exact h)
  refine ha ρ sto σ F H as _ s5 he ?_
  have h := h.bind
  cases hh : semT t ρ sto with
  | ok b s1 =>
    rw [hh] at h
    intro F1 H1 as1 e1 t1 v rv
    have h1 := h _ _ _ e1 t1
    exact ⟨b, rep_bl rv, h1.ok0 t1 _ (.bl _)⟩
  | ex x s1 =>
    rw [hh] at h
    exact h
  | bad =>
    rw [hh] at h
    exact h
/-- a test in a row (and, or), whatever its whole is -/
def DW (X : Cx) (M : Md → Prop) (W : WX) (e : Expr) (f : Env → Sto → R Bool) : Prop := ∃ t, (∀ m, M m → PW (X.wth m) e t) ∧ ∀ (ρ : Env) (sto : Sto) (σ : L2.St) (F H : Hp) (as : List Addr) (Q : Bool → Hp → Prop), St5 X.K F H as sto → EnvR X.K F as σ ρ →
  Fin X.K X.mg W σ F H as (f ρ sto) (fun b _ _ H' _ => Q b H') → t σ H Q
theorem DW.dt {f : Env → Sto → R Bool} (h : DW X M W e f) : DT X M W e f := let ⟨t, p, q⟩ := h; ⟨t, fun m hm => (p m hm).pt, q⟩
theorem dw_and1 {t : IT} (ha : DT X M W a (semT t)) : DW X M W (.BoolOp .And [a] pos) (semAnd (.one t)) := by
  obtain ⟨ta, pa, ha⟩ := ha
  refine ⟨_, fun m hm => pw_and1 (pa m hm), fun ρ sto σ F H as Q s5 he h => ?_⟩
  simp only [semAnd] at h
  exact ha ρ sto σ F H as Q s5 he h
theorem dw_or1 {t : IT} (ha : DT X M W a (semT t)) : DW X M W (.BoolOp .Or [a] pos) (semOr (.one t)) := by
  obtain ⟨ta, pa, ha⟩ := ha
  refine ⟨_, fun m hm => pw_or1 (pa m hm), fun ρ sto σ F H as Q s5 he h => ?_⟩
  simp only [semOr] at h
  exact ha ρ sto σ F H as Q s5 he h
theorem dw_and {t : IT} {ts : ITs} {rest : List Expr} (ha : DT X M W a (semT t)) (hb : DW X M W (.BoolOp .And (b :: rest) pos) (semAnd ts)) : DW X M W (.BoolOp .And (a :: b :: rest) pos) (semAnd (.cons t ts)) := by
  obtain ⟨ta, pa, ha⟩ := ha
  obtain ⟨tb, pb, hb⟩ := hb
  refine ⟨_, fun m hm => pw_and (pa m hm) (pb m hm), fun ρ sto σ F H as Q s5 he h => ?_⟩
  simp only [semAnd] at h
  refine ha ρ sto σ F H as _ s5 he (h.bind.imp fun x s1 F1 H1 as1 e1 t1 h1 => ?_)
  cases x with
  | true => exact hb ρ s1 σ F1 H1 as1 _ t1 (he.ext e1) h1
  | false => exact h1.ok0 t1
theorem dw_or {t : IT} {ts : ITs} {rest : List Expr} (ha : DT X M W a (semT t)) (hb : DW X M W (.BoolOp .Or (b :: rest) pos) (semOr ts)) : DW X M W (.BoolOp .Or (a :: b :: rest) pos) (semOr (.cons t ts)) := by
  obtain ⟨ta, pa, ha⟩ := ha
  obtain ⟨tb, pb, hb⟩ := hb
  refine ⟨_, fun m hm => pw_or (pa m hm) (pb m hm), fun ρ sto σ F H as Q s5 he h => ?_⟩
  simp only [semOr] at h
  refine ha ρ sto σ F H as _ s5 he (h.bind.imp fun x s1 F1 H1 as1 e1 t1 h1 => ?_)
  cases x with
  | true => exact h1.ok0 t1
  | false => exact hb ρ s1 σ F1 H1 as1 _ t1 (he.ext e1) h1
/-- the same as values -/
def DV' (X : Cx) (M : Md → Prop) (W : WX) (e : Expr) (f : Env → Sto → R Bool) : Prop := ∃ t, (∀ m, M m → PE (X.wth m) e t) ∧ ∀ (ρ : Env) (sto : Sto) (σ : L2.St) (F H : Hp) (as : List Addr) (Q : VK), St5 X.K F H as sto → EnvR X.K F as σ ρ →
  Fin X.K X.mg W σ F H as (f ρ sto) (fun b _ _ H' _ => Q (.bl b) H') → t σ H Q
theorem DV'.of {t : IT} (h : DE X M W e (semE (.tst t))) : DV' X M W e (semT t) := by
  obtain ⟨te, p, h⟩ := h
  refine ⟨te, p, fun ρ sto σ F H as Q s5 he z => h ρ sto σ F H as Q s5 he ?_⟩
  simp only [semE]
  cases hh : semT t ρ sto with
  | ok b s1 =>
    rw [hh] at z
    intro F1 H1 as1 e1 t1 v rv
    rw [rep_bl rv]
    exact z _ _ _ e1 t1
  | ex x s1 =>
    rw [hh] at z
    exact z
  | bad =>
    rw [hh] at z
    exact z
theorem DV'.to {t : IT} (h : DV' X M W e (semT t)) : DE X M W e (semE (.tst t)) := by
  obtain ⟨te, p, h⟩ := h
  refine ⟨te, p, fun ρ sto σ F H as Q s5 he z => h ρ sto σ F H as Q s5 he ?_⟩
  simp only [semE] at z
  cases hh : semT t ρ sto with
  | ok b s1 =>
    rw [hh] at z
    intro F1 H1 as1 e1 t1
    exact z _ _ _ e1 t1 _ (.bl b)
  | ex x s1 =>
    rw [hh] at z
    exact z
  | bad =>
    rw [hh] at z
    exact z
theorem dv_and1 {t : IT} (ha : DV' X M W a (semT t)) : DV' X M W (.BoolOp .And [a] pos) (semAnd (.one t)) := by
  obtain ⟨ta, pa, ha⟩ := ha
  refine ⟨_, fun m hm => pe_one (pa m hm), fun ρ sto σ F H as Q s5 he h => ?_⟩
  simp only [semAnd] at h
  exact ha ρ sto σ F H as Q s5 he h
theorem dv_or1 {t : IT} (ha : DV' X M W a (semT t)) : DV' X M W (.BoolOp .Or [a] pos) (semOr (.one t)) := by
  obtain ⟨ta, pa, ha⟩ := ha
  refine ⟨_, fun m hm => pe_one (pa m hm), fun ρ sto σ F H as Q s5 he h => ?_⟩
  simp only [semOr] at h
  exact ha ρ sto σ F H as Q s5 he h
theorem dv_and {t : IT} {ts : ITs} {rest : List Expr} (ha : DV' X M W a (semT t)) (hb : DV' X M W (.BoolOp .And (b :: rest) pos) (semAnd ts)) : DV' X M W (.BoolOp .And (a :: b :: rest) pos) (semAnd (.cons t ts)) := by
  obtain ⟨ta, pa, ha⟩ := ha
  obtain ⟨tb, pb, hb⟩ := hb
  refine ⟨_, fun m hm => pe_and (pa m hm) (pb m hm), fun ρ sto σ F H as Q s5 he h => ?_⟩
  simp only [semAnd] at h
  refine ha ρ sto σ F H as _ s5 he (h.bind.imp fun x s1 F1 H1 as1 e1 t1 h1 => ⟨x, rfl, ?_⟩)
  cases x with
  | true => exact hb ρ s1 σ F1 H1 as1 _ t1 (he.ext e1) h1
  | false => exact h1.ok0 t1
theorem dv_or {t : IT} {ts : ITs} {rest : List Expr} (ha : DV' X M W a (semT t)) (hb : DV' X M W (.BoolOp .Or (b :: rest) pos) (semOr ts)) : DV' X M W (.BoolOp .Or (a :: b :: rest) pos) (semOr (.cons t ts)) := by
  obtain ⟨ta, pa, ha⟩ := ha
  obtain ⟨tb, pb, hb⟩ := hb
  refine ⟨_, fun m hm => pe_or (pa m hm) (pb m hm), fun ρ sto σ F H as Q s5 he h => ?_⟩
  simp only [semOr] at h
  refine ha ρ sto σ F H as _ s5 he (h.bind.imp fun x s1 F1 H1 as1 e1 t1 h1 => ⟨x, rfl, ?_⟩)
  cases x with
  | true => exact h1.ok0 t1
  | false => exact hb ρ s1 σ F1 H1 as1 _ t1 (he.ext e1) h1
theorem de_val {ia : IE} (ha : DE X M W a (semE ia)) : DE X M W a (semE (.tst (.val ia))) := by
  refine ha.weak fun ρ s h => ?_
  simp only [semE, semT] at h ⊢
  cases hh : semE ia ρ s with
  | ok d s1 =>
    rw [hh] at h
    cases d with
    | bl b => rfl
    | _ => exact absurd rfl h
  | ex x s1 => rfl
  | bad => rfl
theorem de_ife {t : IT} {cc : Expr} {ia ib : IE} (hc : DT X M W cc (semT t)) (ha : DE X M W a (semE ia)) (hb : DE X M W b (semE ib)) : DE X M W (.IfExp cc a b pos) (semE (.ife t ia ib)) := by
  obtain ⟨tc, pc, hc⟩ := hc
  obtain ⟨ta, pa, ha⟩ := ha
  obtain ⟨tb, pb, hb⟩ := hb
  refine ⟨_, fun m hm => pe_ifExp (pc m hm) (pa m hm) (pb m hm), fun ρ sto σ F H as Q s5 he h => ?_⟩
  simp only [semE] at h
  refine hc ρ sto σ F H as _ s5 he (h.bind.imp fun x s1 F1 H1 as1 e1 t1 h1 => ?_)
  cases x with
  | true => exact ha ρ s1 σ F1 H1 as1 _ t1 (he.ext e1) h1
  | false => exact hb ρ s1 σ F1 H1 as1 _ t1 (he.ext e1) h1
end
end DV

namespace DV
open PySem PySem.Spec PyProof.Rows L2

def isStar : Expr → Bool
  | .Starred .. => true
  | _ => false
def noStars (es : List Expr) : Bool := es.all fun e => !isStar e
theorem star_cons {e : Expr} {es : List Expr} {env : PySem.Env} (h : isStar e = false) : starEach (e :: es) env = (false, eval e env) :: starEach es env := by
  cases e <;> first | rfl | cases h
theorem star_back {pos : Pos} {env : PySem.Env} : ∀ {es : List Expr}, noStars es = true → (backTo pos (starEach es env)).any (·.1) = false
  | [], _ => rfl
  | e :: es, h => by
    have h : (!isStar e && noStars es) = true := h
    rw [Bool.and_eq_true, Bool.not_eq_true'] at h
    rw [star_cons h.1]
    show (false || (backTo pos (starEach es env)).any (·.1)) = false
    rw [star_back h.2]
    rfl
theorem star_all {pos : Pos} {env : PySem.Env} : ∀ {es : List Expr}, noStars es = true → (backTo pos (starEach es env)).all (fun x => !x.1) = true
  | [], _ => rfl
  | e :: es, h => by
    have h : (!isStar e && noStars es) = true := h
    rw [Bool.and_eq_true, Bool.not_eq_true'] at h
    rw [star_cons h.1]
    show (true && (backTo pos (starEach es env)).all (fun x => !x.1)) = true
    rw [star_all h.2]
    rfl

section
variable {X : Cx} {M : Md → Prop} {W : WX} {N : List Str} {sc : Scope} {k : Nat} {fl lb : Bool} {e a b : Expr} {es : List Expr} {pos p : Pos}
theorem da_nil : DA X M W [] (semEs .nil) := ⟨_, fun m hm => pa_nil, fun ρ sto σ F H as Q s5 he h => by
  simp only [semEs] at h
  exact h.ok0 s5 _ .nil⟩
theorem da_cons {ia : IE} {ies : IEs} (hs : isStar a = false) (ha : DE X M W a (semE ia)) (hb : DA X M W es (semEs ies)) : DA X M W (a :: es) (semEs (.cons ia ies)) := by
  obtain ⟨ta, pa, ha⟩ := ha
  obtain ⟨tb, pb, hb⟩ := hb
  refine ⟨_, fun m hm => pa_cons (pa m hm) (pb m hm) (star_cons hs), fun ρ sto σ F H as Q s5 he h => ?_⟩
  simp only [semEs] at h
  refine ha ρ sto σ F H as _ s5 he (h.bind.imp fun x s1 F1 H1 as1 e1 t1 h1 v rv => ?_)
  refine hb ρ s1 σ F1 H1 as1 _ t1 (he.ext e1) (h1.bind.imp fun ds s2 F2 H2 as2 e2 t2 h2 vs rvs => ?_)
  exact h2.ok0 t2 _ (.cons (rv.ext e2) rvs)
theorem fin_if {α : Type} {K : PySem.W.Frag} {mg : Str → Option Value} {W : WX} {σ : L2.St} {F H : Hp} {as : List Addr} {c : Prop} [Decidable c] {r : R α} {P : α → Sto → Hp → Hp → List Addr → Prop} (h : Fin K mg W σ F H as (if c then r else .bad) P) : c ∧ Fin K mg W σ F H as r P := by
  by_cases hc : c
  · rw [if_pos hc] at h
    exact ⟨hc, h⟩
  · rw [if_neg hc] at h
    exact h.elim
theorem de_tup {ies : IEs} {j : Nat} (ha : DA X M W es (semEs ies)) : DE X M W (.Tuple es j pos) (semE (.tup ies)) := by
  obtain ⟨ta, pa, ha⟩ := ha
  refine ⟨_, fun m hm => pe_tup (pa m hm), fun ρ sto σ F H as Q s5 he h => ?_⟩
  simp only [semE] at h
  refine ha ρ sto σ F H as _ s5 he (h.bind.imp fun ds s1 F1 H1 as1 e1 t1 h1 vs rv => ?_)
  obtain ⟨hl, h1⟩ := fin_if h1
  exact ⟨by rw [rv.len]; exact hl, fin_newT t1 rv h1⟩
theorem de_lst {m : Bool} {ies : IEs} (ha : DA X M W es (semEs ies)) : DE X M W (.List es pos) (semE (.lst m ies)) := by
  obtain ⟨ta, pa, ha⟩ := ha
  refine ⟨_, fun m hm => pe_lst (pa m hm), fun ρ sto σ F H as Q s5 he h => ?_⟩
  simp only [semE] at h
  refine ha ρ sto σ F H as _ s5 he (h.bind.imp fun ds s1 F1 H1 as1 e1 t1 h1 vs rv => ?_)
  obtain ⟨hl, h1⟩ := fin_if h1
  exact ⟨by rw [rv.len]; exact hl, fin_newL t1 rv h1⟩
theorem rep_at {K : PySem.W.Frag} {F : Hp} {as : List Addr} {vs : List V} {ds : List D} {i : Int} {d : D} (r : RepAll K F as vs ds) (h : atI ds i = some d) : ∃ v, atI vs i = some v ∧ Rep K F as v d := by
  unfold atI at h ⊢
  rw [r.len]
  cases q : ixN ds.length i with
  | none => rw [q] at h; cases h
  | some j =>
    rw [q] at h
    exact r.get h
def rIxA (K : PySem.W.Frag) : R2 := fun x y H Q => rIxL K x y H Q ∨ rIxT K x y H Q
theorem ix_A {X : Cx} : IxR X (rIxA X.K) := ix_list.or ix_tup
theorem opS_ix : OpS X W (rIxA X.K) ixSem := by
  intro sto σ F H as x y d e Q s5 rx ry h
  unfold ixSem at h
  split at h
  · split at h
    · rename_i xs q
      split at h
      · rename_i dd qq
        obtain ⟨a, vs, rfl, hs, r⟩ := seq_at s5 rx q
        obtain ⟨v, hv, rv⟩ := rep_at r qq
        rcases hs with hs | hs
        · exact .inl ⟨a, vs, _, v, rfl, rep_int ry, hs, hv, h.ok0 s5 _ rv⟩
        · exact .inr ⟨a, vs, _, v, rfl, rep_int ry, hs, hv, h.ok0 s5 _ rv⟩
      · exact h.elim
    · exact h.elim
  · exact h.elim
def notSlice : Expr → Bool
  | .Slice .. => false
  | _ => true
theorem plainIx (h : notSlice b = true) : PlainIx b := fun o i => by
  cases b <;> first | rfl | cases h
theorem de_ix {ia ib : IE} (hs : notSlice b = true) (ha : DE X M W a (semE ia)) (hb : DE X M W b (semE ib)) : DE X M W (.Subscript a b pos) (semE (.ix ia ib)) := by
  simp only [semE]
  exact de_op2 (r := rIxA X.K) (fun m hm _ _ pa pb => pe_ix ix_A pa pb (plainIx hs)) opS_ix ha hb
/-! ### slices -/
def DO (X : Cx) (M : Md → Prop) (W : WX) (e : Option Expr) (f : Env → Sto → R (Option Int)) : Prop := ∃ t, (∀ m, M m → PO (X.wth m) e t) ∧ ∀ (ρ : Env) (sto : Sto) (σ : L2.St) (F H : Hp) (as : List Addr) (Q : Option Int → Hp → Prop), St5 X.K F H as sto → EnvR X.K F as σ ρ →
  Fin X.K X.mg W σ F H as (f ρ sto) (fun d _ _ H' _ => Q d H') → t σ H Q
theorem do_none : DO X M W none (semO .none) := ⟨_, fun m hm => po_none, fun ρ sto σ F H as Q s5 he h => by
  simp only [semO] at h
  exact h.ok0 s5⟩
theorem do_some {ia : IE} (ha : DE X M W a (semE ia)) : DO X M W (some a) (semO (.some ia)) := by
  obtain ⟨ta, pa, ha⟩ := ha
  refine ⟨_, fun m hm => po_some (pa m hm), fun ρ sto σ F H as Q s5 he h => ?_⟩
  simp only [semO] at h
  refine ha ρ sto σ F H as _ s5 he (h.bind.imp fun x s1 F1 H1 as1 e1 t1 h1 v rv => ?_)
  cases rv with
  | int i => exact ⟨i, rfl, h1.ok0 t1⟩
  | _ => exact h1.elim
theorem rep_cut {K : PySem.W.Frag} {F : Hp} {as : List Addr} {vs : List V} {ds : List D} (r : RepAll K F as vs ds) (lo hi : Option Int) : RepAll K F as (cutV vs lo hi) (cutD ds lo hi) := by
  unfold cutV cutD
  rw [r.len]
  exact (r.drop _).take _
def rSlA (K : PySem.W.Frag) : V → Option Int → Option Int → Hp → VK → Prop := fun x lo hi H Q => rSlL K x lo hi H Q ∨ rSlT K x lo hi H Q
theorem sl_A {X : Cx} : SlR X (rSlA X.K) := sl_list.or sl_tup
theorem de_slc {m : Bool} {ia : IE} {lo hi : Option Expr} {il ih : IO} {p2 : Pos} (ha : DE X M W a (semE ia)) (hl : DO X M W lo (semO il)) (hh : DO X M W hi (semO ih)) : DE X M W (.Subscript a (.Slice lo hi none p2) pos) (semE (.slc m ia il ih)) := by
  obtain ⟨ta, pa, ha⟩ := ha
  obtain ⟨tl, pl, hl⟩ := hl
  obtain ⟨th, ph, hh⟩ := hh
  refine ⟨tSl (rSlA X.K) ta tl th, fun m hm => pe_slice sl_A (pa m hm) (pl m hm) (ph m hm), fun ρ sto σ F H as Q s5 he h => ?_⟩
  simp only [semE] at h
  refine ha ρ sto σ F H as _ s5 he (h.bind.imp fun x s1 F1 H1 as1 e1 t1 h1 v rv => ?_)
  refine hl ρ s1 σ F1 H1 as1 _ t1 (he.ext e1) (h1.bind.imp fun l s2 F2 H2 as2 e2 t2 h2 => ?_)
  refine hh ρ s2 σ F2 H2 as2 _ t2 ((he.ext e1).ext e2) (h2.bind.imp fun u s3 F3 H3 as3 e3 t3 h3 => ?_)
  have rv := (rv.ext e2).ext e3
  unfold slcSem at h3
  split at h3
  · rename_i xs
    obtain ⟨hlt, h3⟩ := fin_if h3
    cases rv with
    | tup hF r =>
      refine .inr ⟨_, _, rfl, .of (t3.sub _ _ hF), ?_⟩
      have hc := rep_cut r l u
      refine ⟨fun z => ?_, fin_newT t3 hc h3⟩
      unfold cutD at hlt
      rw [r.len] at z
      rw [z.1, z.2] at hlt
      simp at hlt
  · split at h3
    · rename_i xs q
      obtain ⟨aa, vs, rfl, hs, r⟩ := lst_at t3 rv q
      exact .inl ⟨aa, vs, rfl, hs, fin_newL t3 (rep_cut r l u) h3⟩
    · exact h3.elim
theorem de_rev {m : Bool} {ia : IE} {j : Nat} {p1 p2 p3 : Pos} (ha : DE X M W a (semE ia)) : DE X M W (.Subscript a (.Slice none none (some (.UnaryOp .USub (.Constant (.int 1) j p1) p2)) p3) pos) (semE (.rev m ia)) := by
  obtain ⟨ta, pa, ha⟩ := ha
  refine ⟨tRevL X.K ta, fun m hm => pe_revL (pa m hm), fun ρ sto σ F H as Q s5 he h => ?_⟩
  simp only [semE] at h
  refine ha ρ sto σ F H as _ s5 he (h.bind.imp fun x s1 F1 H1 as1 e1 t1 h1 v rv => ?_)
  unfold revSem at h1
  split at h1
  · rename_i xs q
    obtain ⟨aa, vs, rfl, hs, r⟩ := lst_at t1 rv q
    exact ⟨aa, vs, rfl, hs, fin_newL t1 r.reverse h1⟩
  · exact h1.elim
/-! ### calls -/
theorem fin_wish {α : Type} {K : PySem.W.Frag} {mg : Str → Option Value} {σ : L2.St} {F H : Hp} {as : List Addr} {r : R α} {P : α → Sto → Hp → Hp → List Addr → Prop} (h : Fin K mg W σ F H as r P) :
    Fin K mg (fun cls dd _ H' => WE W σ cls dd H') [] F H as r P := by
  cases r with
  | ok a s => exact h
  | ex x s => exact h
  | bad => exact h
theorem de_call {f : Str} {n : Nat} {g : Fn} {ies : IEs} (c : CtxM X M W N sc k fl lb) (hc : CalleeOk X k f n g) (hg : sc.names.lookup f = some .globalImplicit) (hd : (f == ("__debug__" : Str)) = false) (hst : noStars (e :: es) = true)
    (ha : DA X M W (e :: es) (semEs ies)) : DE X M W (.Call (.Name f p) (e :: es) [] pos) (semE (.call f n g ies)) := by
  obtain ⟨fa, fd, ps, hmg, hk, hb, hn, G⟩ := hc
  obtain ⟨ta, pa, ha⟩ := ha
  have h2 : isStar e = false ∧ noStars es = true := by
    have h : (!isStar e && noStars es) = true := hst
    rw [Bool.and_eq_true, Bool.not_eq_true'] at h
    exact h
  refine ⟨tCallS (spF X.K X.mg n g) (WE W) ta, fun m hm => pe_callG (X := X.wth m) G (c m hm).room (c m hm).gd (by show (X.wth m).env.scope.names.lookup f = _; rw [(c m hm).hsc]; exact hg) hmg hk hb (c m hm).tk (pa m hm) hd (star_cons h2.1) (star_back h2.2), fun ρ sto σ F H as Q s5 he h => ?_⟩
  simp only [semE] at h
  refine ha ρ sto σ F H as _ s5 he (h.bind.imp fun ds s1 F1 H1 as1 e1 t1 h1 vs rv => ?_)
  obtain ⟨hl, h1⟩ := fin_if h1
  exact ⟨by rw [rv.len]; exact hl, F1, as1, s1, ds, t1, rv, fin_wish h1⟩
def DK (X : Cx) (M : Md → Prop) (W : WX) (kws : List Keyword) (f : Env → Sto → R (List D)) : Prop := ∃ t, (∀ m, M m → PK (X.wth m) kws t) ∧ ∀ (ρ : Env) (sto : Sto) (σ : L2.St) (F H : Hp) (as : List Addr) (Q : List V → Hp → Prop), St5 X.K F H as sto → EnvR X.K F as σ ρ →
  Fin X.K X.mg W σ F H as (f ρ sto) (fun ds _ F' H' as' => ∀ vs, RepAll X.K F' as' vs ds → Q vs H') → t σ H Q
theorem dk_nil : DK X M W [] (semEs .nil) := ⟨_, fun m hm => pk_nil, fun ρ sto σ F H as Q s5 he h => by
  simp only [semEs] at h
  exact h.ok0 s5 _ .nil⟩
theorem dk_cons {ia : IE} {ies : IEs} {kws : List Keyword} {nm : Option Str} {kp : Pos} (ha : DE X M W a (semE ia)) (hb : DK X M W kws (semEs ies)) : DK X M W (⟨nm, a, kp⟩ :: kws) (semEs (.cons ia ies)) := by
  obtain ⟨ta, pa, ha⟩ := ha
  obtain ⟨tb, pb, hb⟩ := hb
  refine ⟨_, fun m hm => pk_cons (pa m hm) (pb m hm), fun ρ sto σ F H as Q s5 he h => ?_⟩
  simp only [semEs] at h
  refine ha ρ sto σ F H as _ s5 he (h.bind.imp fun d s1 F1 H1 as1 e1 t1 h1 v rv => ?_)
  refine hb ρ s1 σ F1 H1 as1 _ t1 (he.ext e1) (h1.bind.imp fun ds s2 F2 H2 as2 e2 t2 h2 vs rvs => ?_)
  exact h2.ok0 t2 _ (.cons (rv.ext e2) rvs)
/-- the keywords' names -/
def kwNames : List Keyword → List Str → Bool
  | [], ks => match ks with
    | [] => true
    | _ => false
  | ⟨nm, _, _⟩ :: r, ks => match nm, ks with
    | some x, y :: q => decide (x = y) && kwNames r q
    | _, _ => false
theorem kw_all {pos : Pos} {env : PySem.Env} : ∀ {kws : List Keyword} {ks : List Str}, kwNames kws ks = true →
    (backToKw pos (keywordEach kws env)).all (·.1.isSome) = true ∧ (backToKw pos (keywordEach kws env)).filterMap (·.1) = ks ∧ (backToKw pos (keywordEach kws env)).any (·.1.isNone) = false
  | [], ks, h => by
    unfold kwNames at h
    split at h
    · exact ⟨rfl, rfl, rfl⟩
    · cases h
  | ⟨nm, e, kp⟩ :: r, ks, h => by
    unfold kwNames at h
    split at h
    · rename_i x y q
      rw [Bool.and_eq_true] at h
      obtain ⟨h1, h2, h3⟩ := kw_all (pos := pos) (env := env) h.2
      have hx := of_decide_eq_true h.1
      subst hx
      refine ⟨?_, ?_, ?_⟩
      · show (true && (backToKw pos (keywordEach r env)).all (·.1.isSome)) = true
        rw [h1]
        rfl
      · show x :: (backToKw pos (keywordEach r env)).filterMap (·.1) = x :: q
        rw [h2]
      · show (false || (backToKw pos (keywordEach r env)).any (·.1.isNone)) = false
        rw [h3]
        rfl
    · cases h
theorem de_callK {f : Str} {ks : List Str} {pm : List Nat} {n : Nat} {g : Fn} {ies : IEs} {kws : List Keyword} (c : CtxM X M W N sc k fl lb) (hc : CalleeKOk X k f ks pm n g) (hg : sc.names.lookup f = some .globalImplicit) (hd : (f == ("__debug__" : Str)) = false) (hn : kwNames kws ks = true)
    (ha : DK X M W kws (semEs ies)) : DE X M W (.Call (.Name f p) [] kws pos) (semE (.callK f ks pm n g ies)) := by
  obtain ⟨fa, fd, ps, hmg, hk, hb, hl, G⟩ := hc
  obtain ⟨ta, pa, ha⟩ := ha
  refine ⟨tCallGK ks.length pm (spF X.K X.mg n g) (WE W) ta, fun m hm => ?_, fun ρ sto σ F H as Q s5 he h => ?_⟩
  · obtain ⟨h1, h2, h3⟩ := kw_all (pos := pos) (env := (X.wth m).env) hn
    exact pe_callGK (X := X.wth m) G (c m hm).room (c m hm).gd (by show (X.wth m).env.scope.names.lookup f = _; rw [(c m hm).hsc]; exact hg) hmg hk hb (c m hm).tk (pa m hm) h1 h2 (by show (false || _) = false; rw [h3]; rfl) hd
  · simp only [semE] at h
    refine ha ρ sto σ F H as _ s5 he (h.bind.imp fun ds s1 F1 H1 as1 e1 t1 h1 vs rv => ?_)
    obtain ⟨hl, h1⟩ := fin_if h1
    exact ⟨by rw [rv.len]; exact hl.1, by rw [(rep_perm rv pm).len]; exact hl.2, F1, as1, s1, permL pm ds, t1, rep_perm rv pm, fin_wish h1⟩
end
end DV

namespace DV
open PySem PySem.Spec PyProof.Rows L2

section
variable {X : Cx} {M : Md → Prop} {W : WX} {N : List Str} {sc : Scope} {k : Nat} {fl lb : Bool} {e a b : Expr} {es : List Expr} {pos p : Pos}
/-! ### built-in functions -/
def OpB (X : Cx) (W : WX) (r : List V → Hp → VK → Prop) (f : List D → Sto → R D) : Prop := ∀ (sto : Sto) (σ : L2.St) (F H : Hp) (as : List Addr) (vs : List V) (ds : List D) (Q : VK), St5 X.K F H as sto → RepAll X.K F as vs ds →
  Fin X.K X.mg W σ F H as (f ds sto) (fun d _ F' H' as' => ∀ v, Rep X.K F' as' v d → Q v H') → r vs H Q
theorem opB_len : OpB X W (fun xs H Q => (∃ p ys, xs = [.ref p] ∧ (SqL X.K H p ys ∨ SqT X.K H p ys) ∧ Q (.int ys.length) H) ∨ (∃ z, xs = [.str z] ∧ z.length ≤ sizeLine ∧ Q (.int z.length) H)) biLen := by
  intro sto σ F H as vs ds Q s5 r h
  unfold biLen at h
  split at h
  · rename_i d
    obtain ⟨v, rfl, rv⟩ := repAll1 r
    split at h
    · rename_i xs q
      obtain ⟨aa, ws, rfl, hs, rr⟩ := seq_at s5 rv q
      exact .inl ⟨aa, ws, rfl, hs, by rw [rr.len]; exact h.ok0 s5 _ (.int _)⟩
    · split at h
      · obtain ⟨hl, h⟩ := fin_if h
        exact .inr ⟨_, by rw [rep_str rv], hl, h.ok0 s5 _ (.int _)⟩
      · exact h.elim
  · exact h.elim
theorem opB_int : OpB X W (fun xs H Q => (∃ i, xs = [V.int i] ∧ Q (.int i) H) ∨ ∃ k, xs = [V.bl k] ∧ Q (.int (if k then 1 else 0)) H) biInt := by
  intro sto σ F H as vs ds Q s5 r h
  unfold biInt at h
  split at h
  · obtain ⟨v, rfl, rv⟩ := repAll1 r
    exact .inl ⟨_, by rw [rep_int rv], h.ok0 s5 _ (.int _)⟩
  · obtain ⟨v, rfl, rv⟩ := repAll1 r
    exact .inr ⟨_, by rw [rep_bl rv], h.ok0 s5 _ (.int _)⟩
  · exact h.elim
theorem opB_list {m : Bool} : OpB X W (fun xs H Q => ∃ p ys, xs = [V.ref p] ∧ (SqL X.K H p ys ∨ SqT X.K H p ys) ∧ ∀ l, H l = none → Q (.ref l) (upd H l (.lst ys))) (biList m) := by
  intro sto σ F H as vs ds Q s5 r h
  unfold biList at h
  split at h
  · rename_i d
    obtain ⟨v, rfl, rv⟩ := repAll1 r
    split at h
    · rename_i xs q
      obtain ⟨aa, ws, rfl, hs, rr⟩ := seq_at s5 rv q
      exact ⟨aa, ws, rfl, hs, fin_newL s5 rr h⟩
    · exact h.elim
  · exact h.elim
theorem opB_tuple : OpB X W (fun xs H Q => ∃ p ys, xs = [V.ref p] ∧ ((SqL X.K H p ys ∧ ∀ l, H l = none → Q (.ref l) (upd H l (.tup ys))) ∨ (SqT X.K H p ys ∧ Q (.ref p) H))) biTuple := by
  intro sto σ F H as vs ds Q s5 r h
  unfold biTuple at h
  split at h
  · rename_i d
    obtain ⟨v, rfl, rv⟩ := repAll1 r
    split at h
    · rename_i xs q
      obtain ⟨aa, ws, rfl, hs, rr⟩ := lst_at s5 rv q
      exact ⟨aa, ws, rfl, .inl ⟨hs, fin_newT s5 rr h⟩⟩
    · exact h.elim
  · exact h.elim
theorem opB_two {g : Int → Int → Int} : OpB X W (fun xs H Q => ∃ i j, xs = [V.int i, V.int j] ∧ Q (.int (g i j)) H) (biTwo g) := by
  intro sto σ F H as vs ds Q s5 r h
  unfold biTwo at h
  split at h
  · obtain ⟨v, w, rfl, rv, rw'⟩ := repAll2 r
    exact ⟨_, _, by rw [rep_int rv, rep_int rw'], h.ok0 s5 _ (.int _)⟩
  · exact h.elim
theorem opB_abs : OpB X W (fun xs H Q => ∃ i, xs = [V.int i] ∧ Q (.int (if i < 0 then -i else i)) H) biAbs := by
  intro sto σ F H as vs ds Q s5 r h
  unfold biAbs at h
  split at h
  · obtain ⟨v, rfl, rv⟩ := repAll1 r
    exact ⟨_, by rw [rep_int rv], h.ok0 s5 _ (.int _)⟩
  · exact h.elim
theorem ints_at {K : PySem.W.Frag} {F H : Hp} {as : List Addr} {sto : Sto} {v : V} {d : D} {ns : List Int} (s : St5 K F H as sto) (r : Rep K F as v d) (h : (lstOf sto d).bind intsOf = some ns) : ∃ a, v = .ref a ∧ SqL K H a (ns.map V.int) := by
  obtain ⟨ds, h1, h2⟩ := Option.bind_eq_some_iff.mp h
  obtain ⟨a, xs, h3, h4, h5⟩ := lst_at s r h1
  rw [repAll_ints h5 h2] at h4
  exact ⟨a, h3, h4⟩
theorem opB_ints {g : List Int → Option Int} {r : List V → Hp → VK → Prop} (hr : ∀ a ns i H Q, SqL X.K H a (ns.map V.int) → g ns = some i → Q (V.int i) H → r [V.ref a] H Q) : OpB X W r (biInts g) := by
  intro sto σ F H as vs ds Q s5 rr h
  unfold biInts at h
  split at h
  · rename_i d
    obtain ⟨v, rfl, rv⟩ := repAll1 rr
    split at h
    · rename_i i q
      obtain ⟨ns, q1, q2⟩ := Option.bind_eq_some_iff.mp q
      obtain ⟨aa, rfl, hs⟩ := ints_at s5 rv q1
      exact hr aa ns i H Q hs q2 (h.ok0 s5 _ (.int _))
    · exact h.elim
  · exact h.elim
theorem minI_le : ∀ (r : List Int) (a : Int), minI a r ≤ a ∧ (∀ y ∈ r, minI a r ≤ y) ∧ (minI a r = a ∨ minI a r ∈ r)
  | [], a => ⟨Int.le_refl _, fun _ h => (nomatch h), .inl rfl⟩
  | b :: r, a => by
    obtain ⟨h1, h2, h3⟩ := minI_le r (if b < a then b else a)
    show minI (if b < a then b else a) r ≤ a ∧ (∀ y ∈ b :: r, minI (if b < a then b else a) r ≤ y) ∧ (minI (if b < a then b else a) r = a ∨ minI (if b < a then b else a) r ∈ b :: r)
    by_cases c : b < a
    · rw [if_pos c] at h1 h2 h3 ⊢
      refine ⟨by omega, fun y hy => ?_, .inr ?_⟩
      · rcases List.mem_cons.mp hy with rfl | hy
        · exact h1
        · exact h2 y hy
      · rcases h3 with h3 | h3
        · rw [h3]; exact List.mem_cons_self
        · exact List.mem_cons_of_mem _ h3
    · rw [if_neg c] at h1 h2 h3 ⊢
      refine ⟨h1, fun y hy => ?_, ?_⟩
      · rcases List.mem_cons.mp hy with rfl | hy
        · omega
        · exact h2 y hy
      · rcases h3 with h3 | h3
        · exact .inl h3
        · exact .inr (List.mem_cons_of_mem _ h3)
theorem maxI_le : ∀ (r : List Int) (a : Int), a ≤ maxI a r ∧ (∀ y ∈ r, y ≤ maxI a r) ∧ (maxI a r = a ∨ maxI a r ∈ r)
  | [], a => ⟨Int.le_refl _, fun _ h => (nomatch h), .inl rfl⟩
  | b :: r, a => by
    obtain ⟨h1, h2, h3⟩ := maxI_le r (if a < b then b else a)
    show a ≤ maxI (if a < b then b else a) r ∧ (∀ y ∈ b :: r, y ≤ maxI (if a < b then b else a) r) ∧ (maxI (if a < b then b else a) r = a ∨ maxI (if a < b then b else a) r ∈ b :: r)
    by_cases c : a < b
    · rw [if_pos c] at h1 h2 h3 ⊢
      refine ⟨by omega, fun y hy => ?_, .inr ?_⟩
      · rcases List.mem_cons.mp hy with rfl | hy
        · exact h1
        · exact h2 y hy
      · rcases h3 with h3 | h3
        · rw [h3]; exact List.mem_cons_self
        · exact List.mem_cons_of_mem _ h3
    · rw [if_neg c] at h1 h2 h3 ⊢
      refine ⟨h1, fun y hy => ?_, ?_⟩
      · rcases List.mem_cons.mp hy with rfl | hy
        · omega
        · exact h2 y hy
      · rcases h3 with h3 | h3
        · exact .inl h3
        · exact .inr (List.mem_cons_of_mem _ h3)
theorem opB_min : OpB X W (rMin X.K) (biInts minL) := opB_ints fun a ns i H Q hs hg q => by
  cases ns with
  | nil => cases hg
  | cons x r =>
    cases hg
    obtain ⟨h1, h2, h3⟩ := minI_le r x
    refine ⟨a, _, rfl, hs, by rw [List.length_cons]; omega, fun m hm hle => ?_⟩
    have e : m = minI x r := by
      have l1 : m ≤ minI x r := hle _ (by
        rcases h3 with h3 | h3
        · rw [h3]; exact List.mem_cons_self
        · exact List.mem_cons_of_mem _ h3)
      have l2 : minI x r ≤ m := by
        rcases List.mem_cons.mp hm with rfl | hm
        · exact h1
        · exact h2 m hm
      omega
    rw [e]
    exact q
theorem opB_max : OpB X W (rMax X.K) (biInts maxL) := opB_ints fun a ns i H Q hs hg q => by
  cases ns with
  | nil => cases hg
  | cons x r =>
    cases hg
    obtain ⟨h1, h2, h3⟩ := maxI_le r x
    refine ⟨a, _, rfl, hs, by rw [List.length_cons]; omega, fun m hm hle => ?_⟩
    have e : m = maxI x r := by
      have l1 : maxI x r ≤ m := hle _ (by
        rcases h3 with h3 | h3
        · rw [h3]; exact List.mem_cons_self
        · exact List.mem_cons_of_mem _ h3)
      have l2 : m ≤ maxI x r := by
        rcases List.mem_cons.mp hm with rfl | hm
        · exact h1
        · exact h2 m hm
      omega
    rw [e]
    exact q
theorem opB_sum : OpB X W (rSum X.K) (biInts (fun ns => some ns.sum)) := opB_ints fun a ns i H Q hs hg q => by
  cases hg
  exact ⟨a, ns, rfl, hs, q⟩
theorem opB_bools {g : List Bool → Bool} {r : List V → Hp → VK → Prop} (hr : ∀ a bs H Q, SqL X.K H a (bs.map V.bl) → Q (V.bl (g bs)) H → r [V.ref a] H Q) : OpB X W r (biBools g) := by
  intro sto σ F H as vs ds Q s5 rr h
  unfold biBools at h
  split at h
  · rename_i d
    obtain ⟨v, rfl, rv⟩ := repAll1 rr
    split at h
    · rename_i bs q
      obtain ⟨xs, q1, q2⟩ := Option.bind_eq_some_iff.mp q
      obtain ⟨aa, ws, rfl, hs, rr⟩ := lst_at s5 rv q1
      rw [repAll_bools rr q2] at hs
      exact hr aa bs H Q hs (h.ok0 s5 _ (.bl _))
    · exact h.elim
  · exact h.elim
theorem opB_all : OpB X W (rAll X.K) (biBools (fun bs => bs.all id)) := opB_bools fun a bs H Q hs q => ⟨a, bs, rfl, hs, q⟩
theorem opB_any : OpB X W (rAny X.K) (biBools (fun bs => bs.any id)) := opB_bools fun a bs H Q hs q => ⟨a, bs, rfl, hs, q⟩
/-! ### repr -/
/-- the value reads as the data, wherever the heap is held -/
def RdR (K : PySem.W.Frag) (H : Hp) (x : V) (d : PyData) : Prop := ∀ (X : Cx) (pins : List (Addr × Obj)) (σ : L2.St) (s : Shared) (u : Value), X.K = K → (∃ o, X.base.get? sysModules = some o) → Inv X pins σ H s → RelV x u → ∃ as, Reads s.heap u d as ∧ sysModules ∉ as
def RdRs (K : PySem.W.Frag) (H : Hp) (xs : List V) (ds : List PyData) : Prop := ∀ (X : Cx) (pins : List (Addr × Obj)) (σ : L2.St) (s : Shared) (us : List Value), X.K = K → (∃ o, X.base.get? sysModules = some o) → Inv X pins σ H s → Vals xs us → ∃ as, ReadsAll s.heap us ds as ∧ sysModules ∉ as
theorem not_sys {X : Cx} {pins : List (Addr × Obj)} {σ : L2.St} {H : Hp} {s : Shared} {a : Addr} {o : HO} (I : Inv X pins σ H s) (hb : ∃ o, X.base.get? sysModules = some o) (h : H a = some o) : a ≠ sysModules := fun z => by
  subst z
  obtain ⟨o2, e⟩ := hb
  have := (I.bs _ _ e).2
  rw [h] at this
  cases this
theorem rd_lst {K : PySem.W.Frag} {H : Hp} {a : Addr} {xs : List V} {ds : List PyData} (h : H a = some (.lst xs)) (hs : RdRs K H xs ds) : RdR K H (.ref a) (.list ds) := fun X pins σ s u e sb I r => by
  cases r
  obtain ⟨its, rv, ⟨o, n, ho, hc, _, hd⟩, _⟩ := I.list (SqL.of (K := X.K) h)
  obtain ⟨as, hr, hn⟩ := hs X pins σ s its e sb I rv
  exact ⟨_, Reads.list ho hc hd hr, fun z => by
    rcases List.mem_cons.mp z with z | z
    · exact not_sys I sb h z.symm
    · exact hn z⟩
theorem rd_tup {K : PySem.W.Frag} {H : Hp} {a : Addr} {xs : List V} {ds : List PyData} (h : H a = some (.tup xs)) (hs : RdRs K H xs ds) : RdR K H (.ref a) (.tuple ds) := fun X pins σ s u e sb I r => by
  cases r
  obtain ⟨its, rv, ⟨o, ho, hc, n, hd⟩, _⟩ := I.tuple (SqT.of (K := X.K) h)
  obtain ⟨as, hr, hn⟩ := hs X pins σ s its e sb I rv
  exact ⟨_, Reads.tuple ho hc hd hr, hn⟩
theorem rd_emp {K : PySem.W.Frag} {H : Hp} {a : Addr} (h : H a = some (.dK [])) : RdR K H (.ref a) (.dict []) := fun X pins σ s u e sb I r => by
  cases r
  obtain ⟨_, _, vs, hv, o, es, ep, h1, h2, h3, h4⟩ := (show ObjOk X.prog X.w H s.heap a (.dK []) from I.hok a _ h)
  have hvs : vs = [] := by cases hv; rfl
  subst hvs
  have he : es.toList = [] := by
    have h5 := h4.2.1
    generalize es.toList = l at h5
    cases h5
    rfl
  exact ⟨_, Reads.dict (as := []) (bs := []) h1 h2.1 h3 (by rw [he]; exact .nil) (by rw [he]; exact .nil), fun z => by
    rcases List.mem_cons.mp z with z | z
    · exact not_sys I sb h z.symm
    · cases z⟩
section
variable {K : PySem.W.Frag} {F H : Hp} {as : List Addr}
mutual
theorem rep_rd (s : Same F H) : ∀ (d : D) (v : V), Rep K F as v d → pureR d = true → RdR K H v (toPy d)
  | .non, _, h, _ => by cases h; unfold toPy; exact fun X pins σ s u e sb I r => by cases r; exact ⟨_, .none, List.not_mem_nil⟩
  | .bl _, _, h, _ => by cases h; unfold toPy; exact fun X pins σ s u e sb I r => by cases r; exact ⟨_, .bool _, List.not_mem_nil⟩
  | .int _, _, h, _ => by cases h; unfold toPy; exact fun X pins σ s u e sb I r => by obtain ⟨t, rfl⟩ := r; exact ⟨_, .int _ _, List.not_mem_nil⟩
  | .str _, _, h, _ => by cases h; unfold toPy; exact fun X pins σ s u e sb I r => by obtain ⟨t, rfl⟩ := r; exact ⟨_, .str _ _, List.not_mem_nil⟩
  | .lst ds, _, h, p => by
    cases h with
    | lst a b =>
      unfold toPy
      exact rd_lst (s _ _ a) (rep_rds s ds _ b (by unfold pureR at p; exact p))
  | .tup ds, _, h, p => by
    cases h with
    | tup a b =>
      unfold toPy
      exact rd_tup (s _ _ a) (rep_rds s ds _ b (by unfold pureR at p; exact p))
  | .obj _, _, _, p => by unfold pureR at p; cases p
  | .scr _, _, _, p => by unfold pureR at p; cases p
  | .exc _ _ _, _, _, p => by unfold pureR at p; cases p
  | .fnv _, _, _, p => by unfold pureR at p; cases p
  | .dic [] [], _, h, p => by
    cases h with
    | dic a e1 r1 e2 r2 =>
      rename_i kvs us vs
      cases r2
      have : kvs = [] := List.map_eq_nil_iff.mp e2
      subst this
      unfold toPy
      exact rd_emp (s _ _ a)
  | .dic (_ :: _) _, _, _, p => by unfold pureR at p; cases p
  | .dic [] (_ :: _), _, _, p => by unfold pureR at p; cases p
theorem rep_rds (s : Same F H) : ∀ (ds : List D) (vs : List V), RepAll K F as vs ds → pureRs ds = true → RdRs K H vs (toPyAll ds)
  | [], _, h, _ => by
    cases h
    unfold toPyAll
    exact fun X pins σ s us e sb I r => by
      cases r
      exact ⟨_, .nil, List.not_mem_nil⟩
  | d :: ds, _, h, p => by
    cases h with
    | cons a b =>
      unfold pureRs at p
      rw [Bool.and_eq_true] at p
      have h1 := rep_rd s d _ a p.1
      have h2 := rep_rds s ds _ b p.2
      unfold toPyAll
      exact fun X pins σ s us e sb I r => by
        cases r with
        | cons r1 r2 =>
          obtain ⟨as1, q1, n1⟩ := h1 X pins σ s _ e sb I r1
          obtain ⟨as2, q2, n2⟩ := h2 X pins σ s _ e sb I r2
          exact ⟨_, .cons q1 q2, fun z => (List.mem_append.mp z).elim n1 n2⟩
end
theorem rd_res {sto : Sto} {v : V} {d : D} (s : St5 K F H as sto) (r : Rep K F as v d) (p : pureR (res sto d) = true) : RdR K H v (toPy (res sto d)) := by
  by_cases hd : ∃ n, d = .obj n
  · obtain ⟨n, rfl⟩ := hd
    cases r with
    | obj e =>
      cases q : sto[n]? with
      | none =>
        have z : res sto (.obj n) = .obj n := by unfold res; simp only [q]
        rw [z] at p
        unfold pureR at p
        cases p
      | some c =>
        cases c with
        | dead =>
          have z : res sto (.obj n) = .obj n := by unfold res; simp only [q]
          rw [z] at p
          unfold pureR at p
          cases p
        | lst ds =>
          have z : res sto (.obj n) = .lst ds := by unfold res; simp only [q]
          rw [z] at p ⊢
          obtain ⟨_, xs, h2, h3⟩ := s.cell _ _ _ e q
          unfold pureR at p
          unfold toPy
          exact rd_lst h2 (rep_rds s.sub _ _ h3 p)
  · have e : res sto d = d := by
      unfold res
      split
      · rename_i n
        exact absurd ⟨n, rfl⟩ hd
      · rfl
    rw [e] at p ⊢
    exact rep_rd s.sub _ _ r p
end
def rRepr (K : PySem.W.Frag) : List V → Hp → VK → Prop := fun xs H Q => ∃ x d, xs = [x] ∧ RdR K H x d ∧ d.showable = true ∧ d.shown.length ≤ sizeLine ∧ d.depth ≤ 64 ∧ Q (.str d.shown) H
theorem call_repr (c : Ctx X W N sc k fl lb) : CallR X (.builtin "repr") (rRepr X.K) := by
  intro pins s σ H xs us Q I r h
  obtain ⟨x, d, rfl, hd, hs, hl, hdep, q⟩ := h
  obtain ⟨u, rfl, ru⟩ := vals1 r
  obtain ⟨as, rds, nsys⟩ := hd X pins σ s u rfl c.sysb I ru
  have hu : X.A.units + (d.depth + 1) < cLine := by
    have := c.room.units0
    have := c.room.un
    omega
  cases id rds with
  | none => exact PySem.P.repr_of_none ⟨.str _, H, I.tok _, ⟨_, rfl⟩, by simpa only [PyData.shown] using q⟩
  | bool b => exact PySem.P.repr_of_bool ⟨.str _, H, I.tok _, ⟨_, rfl⟩, by simpa only [PyData.shown] using q⟩
  | int i => exact PySem.P.repr_of_int (by simpa only [PyData.showable, decide_eq_true_eq] using hs) ⟨.str _, H, I.tok _, ⟨_, rfl⟩, by simpa only [PyData.shown] using q⟩
  | str z => exact PySem.P.repr_of_str ⟨.str _, H, I.tok _, ⟨_, rfl⟩, by simpa only [PyData.shown] using q⟩ (by simpa only [PyData.shown] using hl)
  | list => exact repr_of_reads' rds hs (fun _ => nsys) c.gd hu (fun _ _ z => z) (fun h' u tk hk => ⟨.str _, H, I.kept hk, ⟨_, rfl⟩, q⟩) hl
  | tuple => exact repr_of_reads' rds hs (fun _ => nsys) c.gd hu (fun _ _ z => z) (fun h' u tk hk => ⟨.str _, H, I.kept hk, ⟨_, rfl⟩, q⟩) hl
  | dict => exact repr_of_reads' rds hs (fun _ => nsys) c.gd hu (fun _ _ z => z) (fun h' u tk hk => ⟨.str _, H, I.kept hk, ⟨_, rfl⟩, q⟩) hl
theorem opB_repr : OpB X W (rRepr X.K) biRepr := by
  intro sto σ F H as vs ds Q s5 r h
  unfold biRepr at h
  split at h
  · rename_i d
    obtain ⟨v, rfl, rv⟩ := repAll1 r
    obtain ⟨hp, h⟩ := fin_if h
    unfold reprOk at hp
    rw [Bool.and_eq_true, Bool.and_eq_true, Bool.and_eq_true, decide_eq_true_eq, decide_eq_true_eq] at hp
    exact ⟨v, _, rfl, rd_res s5 rv hp.1, hp.2.1, hp.2.2.1, hp.2.2.2, h.ok0 s5 _ (.str _)⟩
  · exact h.elim
end
end DV

namespace DV
open PySem PySem.Spec PyProof.Rows L2

/-! ### lexicographic order of ints -/
theorem lex_asym : ∀ (a b : List Int), HT.lexLt a b = true → HT.lexLt b a = false
  | [], [], h => by cases h
  | [], _ :: _, _ => rfl
  | _ :: _, [], h => by cases h
  | x :: xs, y :: ys, h => by
    rw [HT.lexLt_cons] at h ⊢
    by_cases e : x = y
    · rw [if_pos e] at h
      rw [if_pos e.symm]
      exact lex_asym xs ys h
    · rw [if_neg e] at h
      rw [if_neg (fun z => e z.symm)]
      have := of_decide_eq_true h
      exact decide_eq_false (by omega)
/-- not less, thrice -/
theorem lex_tr : ∀ (a b c : List Int), HT.lexLt b a = false → HT.lexLt c b = false → HT.lexLt c a = false
  | [], _, [], _, _ => rfl
  | [], [], _ :: _, _, _ => rfl
  | [], _ :: _, _ :: _, _, _ => rfl
  | _ :: _, [], _, h, _ => by cases h
  | _ :: _, _ :: _, [], _, h => by cases h
  | x :: xs, y :: ys, z :: zs, h1, h2 => by
    rw [HT.lexLt_cons] at h1 h2 ⊢
    by_cases e1 : y = x
    · rw [if_pos e1] at h1
      by_cases e2 : z = y
      · rw [if_pos e2] at h2
        rw [if_pos (e2.trans e1)]
        exact lex_tr xs ys zs h1 h2
      · rw [if_neg e2] at h2
        rw [if_neg (fun w => e2 (w.trans e1.symm))]
        have := of_decide_eq_false h2
        exact decide_eq_false (by omega)
    · rw [if_neg e1] at h1
      have l1 := of_decide_eq_false h1
      by_cases e2 : z = y
      · rw [if_neg (fun w => e1 (e2.symm.trans w))]
        exact decide_eq_false (by omega)
      · rw [if_neg e2] at h2
        have l2 := of_decide_eq_false h2
        rw [if_neg (by omega)]
        exact decide_eq_false (by omega)
theorem lex_tot : ∀ (a b : List Int), HT.lexLt a b = false → HT.lexLt b a = false → a = b
  | [], [], _, _ => rfl
  | [], _ :: _, h, _ => by cases h
  | _ :: _, [], _, h => by cases h
  | x :: xs, y :: ys, h1, h2 => by
    rw [HT.lexLt_cons] at h1 h2
    by_cases e : x = y
    · rw [if_pos e] at h1
      rw [if_pos e.symm] at h2
      rw [e, lex_tot xs ys h1 h2]
    · rw [if_neg e] at h1
      rw [if_neg (fun z => e z.symm)] at h2
      have := of_decide_eq_false h1
      have := of_decide_eq_false h2
      omega
theorem lexLe_trans (a b c : List Int) (h1 : lexLe a b = true) (h2 : lexLe b c = true) : lexLe a c = true := by
  unfold lexLe at *
  rw [Bool.not_eq_true'] at *
  exact lex_tr a b c h1 h2
theorem lexLe_total (a b : List Int) : (lexLe a b || lexLe b a) = true := by
  unfold lexLe
  cases h : HT.lexLt b a with
  | false => rfl
  | true => rw [lex_asym _ _ h]; rfl
theorem sortT_sorted (ts : List (List Int)) : (sortT ts).Pairwise fun a b => lexLe a b = true := List.pairwise_mergeSort lexLe_trans lexLe_total ts
theorem sortT_perm (ts : List (List Int)) : (sortT ts).Perm ts := List.mergeSort_perm ts lexLe
theorem sortT_uniq {ts out : List (List Int)} (h : out.Perm ts) (s : out.Pairwise fun a b => HT.lexLt b a = false) : out = sortT ts :=
  List.Perm.eq_of_pairwise (le := fun a b => HT.lexLt b a = false) (fun a b _ _ h1 h2 => lex_tot a b h2 h1) s ((sortT_sorted ts).imp fun h => by unfold lexLe at h; rw [Bool.not_eq_true'] at h; exact h) (h.trans (sortT_perm ts).symm)

/-! ### tuples of ints in the machine -/
def IsTI (h : Heap) (v : Value) (ns : List Int) : Prop := ∃ a o its n, v = .ref a ∧ h.get? a = some o ∧ o.cls = .type "tuple" ∧ o.data = .seq its n ∧ Vals (ns.map V.int) its.toList
theorem IsTI.keeps {h h' : Heap} {v : Value} {ns : List Int} (p : IsTI h v ns) (k : ∀ b o, h.get? b = some o → o.cls = .type "tuple" → h'.get? b = some o) : IsTI h' v ns := by
  obtain ⟨a, o, its, n, e, ho, hc, hd, r⟩ := p
  exact ⟨a, o, its, n, e, k _ _ ho hc, hc, hd, r⟩
theorem vals_int_cons {n : Int} {ns : List Int} {us : List Value} (r : Vals ((n :: ns).map V.int) us) : ∃ t vs, us = .int n t :: vs ∧ Vals (ns.map V.int) vs := by
  cases r with
  | cons a b =>
    obtain ⟨t, rfl⟩ := a
    exact ⟨t, _, rfl, b⟩
theorem vals_int_nil {us : List Value} (r : Vals (([] : List Int).map V.int) us) : us = [] := by cases r; rfl
section
variable {prog : Program} {w : World} {A : Around} {s : Shared}
theorem kat_ints {fin : Bool} {Q : Bool → Shared → Prop} : ∀ (ns ms : List Int) (xs ys : List Value) (i : Nat), Vals (ns.map V.int) xs → Vals (ms.map V.int) ys → fin = decide (ns.length < ms.length) → Q (HT.lexLt ns ms) s →
    PySem.W.KatLex prog w A true fin Q (xs.zip ys) i s
  | [], ms, xs, ys, i, r1, r2, hf, h => by
    rw [vals_int_nil r1]
    show PySem.W.KatLex prog w A true fin Q [] i s
    refine PySem.W.kat_nil ?_
    cases ms with
    | nil => rw [hf]; exact h
    | cons m ms =>
      rw [hf]
      have e : decide (([] : List Int).length < (m :: ms).length) = true := decide_eq_true (by rw [List.length_cons, List.length_nil]; omega)
      rw [e]
      exact h
  | n :: ns, [], xs, ys, i, r1, r2, hf, h => by
    rw [vals_int_nil r2, List.zip_nil_right]
    refine PySem.W.kat_nil ?_
    rw [hf]
    have e : decide ((n :: ns).length < ([] : List Int).length) = false := decide_eq_false (by rw [List.length_cons, List.length_nil]; omega)
    rw [e]
    exact h
  | n :: ns, m :: ms, xs, ys, i, r1, r2, hf, h => by
    obtain ⟨t, xs', rfl, r1'⟩ := vals_int_cons r1
    obtain ⟨u, ys', rfl, r2'⟩ := vals_int_cons r2
    rw [List.zip_cons_cons]
    refine PySem.W.kat_cons (SeqAt.EqAt.int_int n t m u prog w _ _ ?_)
    refine PySem.W.kat_go (fun e1 => ?_) (fun e1 => ?_)
    · have ex : n = m := by simpa using e1
      refine PySem.W.kat_yes (kat_ints ns ms xs' ys' (i + 1) r1' r2' ?_ ?_)
      · rw [hf, List.length_cons, List.length_cons]
        exact decide_eq_decide.mpr (by omega)
      · rw [HT.lexLt_cons, if_pos ex] at h
        exact h
    · have ex : ¬ n = m := by simpa using e1
      rw [HT.lexLt_cons, if_neg ex] at h
      refine PySem.W.kat_no ?_
      cases i with
      | zero => exact oneLt_int h
      | succ j => exact PySem.W.kat_one _ _ (PyProof.Rows.lt_int h)
theorem ti_cmp {vs : List Value} {k : Value → List Int} (hp : ∀ v ∈ vs, IsTI s.heap v (k v)) : SrtO.Cmp prog w A s (tuples' true) (fun p => p.1 ∈ vs) (SrtO.lt2 fun v u => HT.lexLt (k v) (k u)) := by
  intro p q hm hm'
  obtain ⟨a, o, its, n, e, ho, hc, hd, r⟩ := hp _ hm
  obtain ⟨a', o', its', n', e', ho', hc', hd', r'⟩ := hp _ hm'
  show wpAny (model prog w) A (keyLt' (tuples' true) p.1 q.1) (fun r s' => s' = s ∧ r = HT.lexLt (k p.1) (k q.1)) (fun _ _ => False) s
  rw [e, e'] at *
  refine PySem.W.kat_lt ho hd ho' hd' (kat_ints _ _ _ _ 0 r r' ?_ ⟨rfl, rfl⟩)
  have l1 : (k (.ref a)).length = its.size := by
    have := r.length
    rw [List.length_map] at this
    rw [this]
    exact Array.length_toList
  have l2 : (k (.ref a')).length = its'.size := by
    have := r'.length
    rw [List.length_map] at this
    rw [this]
    exact Array.length_toList
  rw [l1, l2]
theorem ti_firsts {h : Heap} : ∀ {vs : List Value}, (∀ v ∈ vs, ∃ ns, ns ≠ [] ∧ IsTI h v ns) → ∃ fs : List Value, PySem.W.KatTups h vs fs ∧ fs.length = vs.length ∧ ∀ f ∈ fs, ∃ x t, f = Value.int x t
  | [], _ => ⟨[], PySem.W.KatTups.nil, rfl, fun _ hm => by simp at hm⟩
  | v :: vs, hp => by
    obtain ⟨fs, h1, h2, h3⟩ := ti_firsts (vs := vs) fun v' hm => hp v' (List.mem_cons_of_mem _ hm)
    obtain ⟨ns, hne, a, o, its, n, e, ho, hc, hd, r⟩ := hp v (List.mem_cons_self ..)
    subst e
    cases ns with
    | nil => exact absurd rfl hne
    | cons x ns =>
      obtain ⟨t, vs', ev, _⟩ := vals_int_cons r
      refine ⟨.int x t :: fs, PySem.W.KatTups.cons ho hc hd ?_ h1, by rw [List.length_cons, List.length_cons, h2], fun f hm => ?_⟩
      · have : its = (.int x t :: vs').toArray := by rw [← ev]
        rw [this]
        rfl
      · rcases List.mem_cons.mp hm with rfl | hm
        · exact ⟨x, t, rfl⟩
        · exact h3 f hm
theorem ti_sortable {a : Addr} {vs : List Value} {k : Value → List Int} (h0 : 0 < vs.length) (hp : ∀ v ∈ vs, k v ≠ [] ∧ IsTI s.heap v (k v)) (ha : ∀ o, s.heap.get? a = some o → o.cls ≠ .type "tuple") : SrtO.SortableO prog w A s a vs fun v u => HT.lexLt (k v) (k u) := by
  intro h' keep
  have hp' : ∀ v ∈ vs, IsTI h' v (k v) := fun v hm => (hp v hm).2.keeps fun b o e c => keep b o (fun z => by subst z; exact ha o e c) e
  obtain ⟨fs, h1, h2, h3⟩ := ti_firsts (h := h') fun v hm => ⟨k v, (hp v hm).1, hp' v hm⟩
  refine ⟨tuples' true, fun Q E hq => ?_, ti_cmp hp'⟩
  refine PySem.W.kat_kind (T := .type "int") h1 (by omega) (fun f hm => ?_) (by rfl) ?_
  · obtain ⟨x, t, rfl⟩ := h3 f hm
    exact PySem.W.Looks.now
  · have e : (Value.type "int" != Value.type "tuple") = true := by decide +kernel
    rw [e]
    exact hq
theorem swo_ti (k : Value → List Int) : SrtO.Swo fun v u => HT.lexLt (k v) (k u) := ⟨fun x y h => lex_asym _ _ h, fun x y z h1 h2 => lex_tr _ _ _ h1 h2⟩
theorem sorted_ti {l : Addr} {vs : List Value} {k : Value → List Int} {Q : Value → Shared → Prop} (hl : s.heap.IsList l vs.toArray) (hz : vs.length ≤ sizeLine) (hp : ∀ v ∈ vs, k v ≠ [] ∧ IsTI s.heap v (k v))
    (h : ∀ (h' : Heap) (d : Addr) (out : List Value), SrtO.Srtd (fun v u => HT.lexLt (k v) (k u)) out → out.Perm vs → (∀ b o, s.heap.get? b = some o → h'.get? b = some o) → s.heap.objs.size ≤ d → (∃ n, h'.get? d = some (seqObj "list" out.toArray n)) → Q (.ref d) { s with heap := h' }) {E : Value → Shared → Prop} :
    wpAny (model prog w) A (call (.builtin "sorted") [.ref l]) Q E s := by
  refine SrtO.sorted_ord (swo_ti k) hl hz (fun h2 h₁ a ha kk => ?_) fun out hs hb => ?_
  · refine ti_sortable (s := { s with heap := h₁ }) (by omega) (fun v hm => ⟨(hp v hm).1, (hp v hm).2.keeps fun b o e _ => (kk b o e).2⟩) fun o e => ?_
    have e' : some o = some (seqObj "list" vs.toArray 0) := e.symm.trans ha
    cases e'
    intro c
    exact absurd (Value.type.inj c) (by decide)
  · exact h _ _ out hs hb.perm (fun b o e => PyProof.Rows.sortedAll_old e) (Nat.le_succ _) (PyProof.Rows.sortedAll_at s.heap vs out.toArray)
end

/-! ### the rule -/
/-- the tuples at ps hold the ints ts -/
def TupsAt (H : Hp) (ps : List Addr) (ts : List (List Int)) : Prop := Paired (fun p t => H p = some (.tup (t.map V.int))) ps ts
def rSortedT (K : PySem.W.Frag) : List V → Hp → VK → Prop := fun vs H Q => ∃ (a : Addr) (ps : List Addr) (ts : List (List Int)), vs = [V.ref a] ∧ SqL K H a (ps.map V.ref) ∧ TupsAt H ps ts ∧ noneEmpty ts = true ∧
  ∀ l qs, (∀ q ∈ qs, q ∈ ps) → TupsAt H qs (sortT ts) → H l = none → Q (.ref l) (upd H l (.lst (qs.map V.ref)))
theorem vals_refs : ∀ {ps : List Addr} {us : List Value}, Vals (ps.map V.ref) us → us = ps.map Value.ref
  | [], _, r => by cases r; rfl
  | p :: ps, _, r => by
    cases r with
    | cons a b =>
      cases a
      rw [vals_refs b]
      rfl
theorem refs_vals : ∀ (ps : List Addr), Vals (ps.map V.ref) (ps.map Value.ref)
  | [] => .nil
  | p :: ps => .cons rfl (refs_vals ps)
theorem paired_mem {α β : Type} {R : α → β → Prop} : ∀ {l : List α} {m : List β}, Paired R l m → ∀ x ∈ l, ∃ y ∈ m, R x y
  | _, _, .cons r t, x, h => by
    rcases List.mem_cons.mp h with rfl | h
    · exact ⟨_, List.mem_cons_self, r⟩
    · obtain ⟨y, h1, h2⟩ := paired_mem t x h
      exact ⟨y, List.mem_cons_of_mem _ h1, h2⟩
theorem paired_map {α β : Type} {R : α → β → Prop} {f : α → β} : ∀ {l : List α}, (∀ x ∈ l, R x (f x)) → Paired R l (l.map f)
  | [], _ => .nil
  | x :: l, h => .cons (h x List.mem_cons_self) (paired_map fun y hy => h y (List.mem_cons_of_mem _ hy))
/-- the ints of the tuple at an address -/
noncomputable def tupKey (H : Hp) (p : Addr) : List Int := Classical.epsilon fun ns => H p = some (.tup (ns.map V.int))
theorem tupKey_at {H : Hp} {p : Addr} {ns : List Int} (h : H p = some (.tup (ns.map V.int))) : tupKey H p = ns := by
  have := Classical.epsilon_spec (p := fun ns => H p = some (.tup (ns.map V.int))) ⟨ns, h⟩
  have this : H p = some (.tup ((tupKey H p).map V.int)) := this
  rw [this] at h
  have e : (tupKey H p).map V.int = ns.map V.int := by
    have := Option.some.inj h
    exact HO.tup.inj this
  exact (List.map_inj_right (fun x y h => V.int.inj h)).mp e
theorem tups_keys {H : Hp} : ∀ {ps : List Addr} {ts : List (List Int)}, TupsAt H ps ts → ps.map (tupKey H) = ts
  | _, _, .nil => rfl
  | _, _, .cons r t => by rw [List.map_cons, tupKey_at r, tups_keys t]
def addrOf : Value → Addr
  | .ref a => a
  | _ => 0
theorem map_addr (ps : List Addr) : (ps.map Value.ref).map addrOf = ps := by
  rw [List.map_map]
  exact List.map_id ps
theorem out_refs : ∀ {out : List Value}, (∀ u ∈ out, ∃ p, u = Value.ref p) → out = (out.map addrOf).map Value.ref
  | [], _ => rfl
  | u :: us, h => by
    obtain ⟨p, rfl⟩ := h _ List.mem_cons_self
    rw [List.map_cons, List.map_cons, ← out_refs fun v hv => h v (List.mem_cons_of_mem _ hv)]
    rfl
section
variable {X : Cx}
theorem cr_sortedT : CallR X (.builtin "sorted") (rSortedT X.K) := by
  intro pins s σ H xs us Q I r h
  obtain ⟨a, ps, ts, rfl, hs, ht, hne, q⟩ := h
  obtain ⟨its, rv, hl, hz⟩ := I.list hs
  obtain ⟨u, rfl, ru⟩ := vals1 r
  obtain rfl : u = Value.ref a := ru
  have hits := vals_refs rv
  subst hits
  have hkey : ∀ p ∈ ps, tupKey H p ≠ [] ∧ H p = some (.tup ((tupKey H p).map V.int)) := fun p hp => by
    obtain ⟨t, h1, h2⟩ := paired_mem ht p hp
    rw [tupKey_at h2]
    refine ⟨?_, h2⟩
    have := List.all_eq_true.mp hne t h1
    intro z
    rw [z] at this
    cases this
  rw [List.length_map] at hz
  refine sorted_ti (k := fun v => tupKey H (addrOf v)) hl.isList (by rw [List.length_map]; exact hz) (fun v hv => ?_) fun h' d out h1 h2 kp hd hn => ?_
  · obtain ⟨p, hp, rfl⟩ := List.mem_map.mp hv
    obtain ⟨k1, k2⟩ := hkey p hp
    obtain ⟨_, its2, r2, o, ho, hc, n, hdd⟩ := I.hok _ _ k2
    exact ⟨k1, p, o, _, n, rfl, ho, hc, hdd, r2⟩
  · have hrefs : ∀ u ∈ out, ∃ p ∈ ps, u = Value.ref p := fun u hu => by
      obtain ⟨p, hp, e⟩ := List.mem_map.mp (h2.mem_iff.mp hu)
      exact ⟨p, hp, e.symm⟩
    have hout : out = (out.map addrOf).map Value.ref := out_refs fun u hu => by
      obtain ⟨p, _, e⟩ := hrefs u hu
      exact ⟨p, e⟩
    have hmem : ∀ q ∈ out.map addrOf, q ∈ ps := fun q hq => by
      obtain ⟨u, hu, rfl⟩ := List.mem_map.mp hq
      obtain ⟨p, hp, rfl⟩ := hrefs u hu
      exact hp
    have hperm : (out.map addrOf).Perm ps := by
      have := h2.map addrOf
      rw [map_addr] at this
      exact this
    have hsort : (out.map addrOf).map (tupKey H) = sortT ts := by
      refine sortT_uniq ?_ ?_
      · rw [← tups_keys ht]
        exact hperm.map _
      · rw [List.map_map]
        refine List.pairwise_map.mpr ?_
        exact h1
    obtain ⟨n, hn⟩ := hn
    have hlen : out.length = ps.length := by
      have := hperm.length_eq
      rw [List.length_map] at this
      exact this
    refine ⟨.ref d, upd H d (.lst ((out.map addrOf).map V.ref)), I.laid (t' := s.toks) kp hd ⟨?_, out, n, ?_, hn⟩, rfl, q d _ hmem ?_ (I.hok.fresh hd)⟩
    · rw [List.length_map, List.length_map, hlen]
      exact hz
    · have := refs_vals (out.map addrOf)
      rw [← hout] at this
      exact this
    · rw [← hsort]
      exact paired_map fun p hp => (hkey p (hmem p hp)).2
end
section
variable {K : PySem.W.Frag} {F H : Hp} {as : List Addr}
theorem tups_of : ∀ {vs : List V} {ds : List D} {ts : List (List Int)}, RepAll K F as vs ds → tupsOf ds = some ts → ∃ ps, vs = ps.map V.ref ∧ TupsAt F ps ts
  | _, _, ts, .nil, h => by
    cases h
    exact ⟨[], rfl, .nil⟩
  | _, _, ts, .cons a b, h => by
    cases a with
    | @tup p xs ds hF r =>
      unfold tupsOf at h
      obtain ⟨ns, h1, h2⟩ := Option.bind_eq_some_iff.mp h
      obtain ⟨tr, h3, h4⟩ := Option.map_eq_some_iff.mp h2
      subst h4
      obtain ⟨ps, e1, e2⟩ := tups_of b h3
      refine ⟨p :: ps, by rw [e1]; rfl, .cons ?_ e2⟩
      rw [hF, repAll_ints r h1]
    | _ => cases h
theorem tups_back : ∀ {ps : List Addr} {ts : List (List Int)}, TupsAt F ps ts → RepAll K F as (ps.map V.ref) (ts.map ofInts)
  | _, _, .nil => .nil
  | _, _, .cons r t => .cons (.tup r (repInts _)) (tups_back t)
theorem tups_sub {F H : Hp} (s : Same F H) : ∀ {ps : List Addr} {ts : List (List Int)}, TupsAt F ps ts → TupsAt H ps ts
  | _, _, .nil => .nil
  | _, _, .cons r t => .cons (s _ _ r) (tups_sub s t)
theorem tups_in {F H : Hp} (s : Same F H) : ∀ {ps : List Addr} {ts : List (List Int)}, (∀ p ∈ ps, ∃ o, F p = some o) → TupsAt H ps ts → TupsAt F ps ts
  | _, _, _, .nil => .nil
  | _, _, h, .cons r t => .cons (by
      obtain ⟨o, e⟩ := h _ List.mem_cons_self
      rw [e]
      exact (s _ _ e).symm.trans r) (tups_in s (fun p hp => h p (List.mem_cons_of_mem _ hp)) t)
end
theorem opB_sorted {X : Cx} {W : WX} {m : Bool} : OpB X W (rSortedT X.K) (biSorted m) := by
  intro sto σ F H as vs ds Q s5 r h
  unfold biSorted at h
  split at h
  · rename_i d
    obtain ⟨v, rfl, rv⟩ := repAll1 r
    split at h
    · rename_i ts q
      obtain ⟨hl, h⟩ := fin_if h
      obtain ⟨xs, q1, q2⟩ := Option.bind_eq_some_iff.mp q
      obtain ⟨aa, ws, rfl, hs, rr⟩ := lst_at s5 rv q1
      obtain ⟨ps, rfl, ht⟩ := tups_of rr q2
      refine ⟨aa, ps, ts, rfl, hs, tups_sub s5.sub ht, hl.2, fun l qs hq hts hfree => ?_⟩
      have hF : TupsAt F qs (sortT ts) := tups_in s5.sub (fun p hp => by
        obtain ⟨t, _, e⟩ := paired_mem ht p (hq p hp)
        exact ⟨_, e⟩) hts
      exact fin_newL s5 (tups_back hF) h l hfree
    · exact h.elim
  · exact h.elim
end DV

namespace DV
open PySem PySem.Spec PyProof.Rows L2

section
variable {X : Cx} {M : Md → Prop} {W : WX} {N : List Str} {sc : Scope} {k : Nat} {fl lb : Bool} {e a b : Expr} {es : List Expr} {pos p : Pos} {x : Str} {id T : String}
theorem stars_split (h : noStars (e :: es) = true) : isStar e = false ∧ noStars es = true := by
  have h : (!isStar e && noStars es) = true := h
  rw [Bool.and_eq_true, Bool.not_eq_true'] at h
  exact h
theorem gl_of (c : Ctx X W N sc k fl lb) (hg : sc.names.lookup x = some .globalImplicit) : Gl X x := by
  show X.env.scope.names.lookup x = _
  rw [c.hsc]
  exact hg
theorem de_biF {r : List V → Hp → VK → Prop} {f : List D → Sto → R D} {ies : IEs} (c : CtxM X M W N sc k fl lb) (hc : ∀ m, M m → CallR (X.wth m) (.builtin id) r) (ho : OpB X W r f) (hg : sc.names.lookup x = some .globalImplicit) (hmx : X.mg x = none) (hv : bootBuiltins x = some (.builtin id))
    (hn : x ≠ "__name__") (hd : (x == ("__debug__" : Str)) = false) (hst : noStars (e :: es) = true) (ha : DA X M W (e :: es) (semEs ies)) : DE X M W (.Call (.Name x p) (e :: es) [] pos) (fun ρ s => (semEs ies ρ s).bind fun ds s1 => f ds s1) := by
  obtain ⟨ta, pa, ha⟩ := ha
  obtain ⟨h1, h2⟩ := stars_split hst
  refine ⟨tCB r ta, fun m hm => pe_callB (X := X.wth m) (hc m hm) (gl_of (c m hm) hg) hmx hv (pa m hm) hn hd (star_cons h1) (star_back h2), fun ρ sto σ F H as Q s5 he h => ?_⟩
  refine ha ρ sto σ F H as _ s5 he (h.bind.imp fun ds s1 F1 H1 as1 e1 t1 h1 vs rv => ?_)
  exact ho s1 σ F1 H1 as1 vs ds Q t1 rv h1
theorem de_biT {r : List V → Hp → VK → Prop} {f : List D → Sto → R D} {ies : IEs} (c : CtxM X M W N sc k fl lb) (hc : ∀ m, M m → CallR (X.wth m) (.type T) r) (ho : OpB X W r f) (hg : sc.names.lookup x = some .globalImplicit) (hmx : X.mg x = none) (hv : bootBuiltins x = some (.type T))
    (hn : x ≠ "__name__") (hd : (x == ("__debug__" : Str)) = false) (hst : noStars (e :: es) = true) (ha : DA X M W (e :: es) (semEs ies)) : DE X M W (.Call (.Name x p) (e :: es) [] pos) (fun ρ s => (semEs ies ρ s).bind fun ds s1 => f ds s1) := by
  obtain ⟨ta, pa, ha⟩ := ha
  obtain ⟨h1, h2⟩ := stars_split hst
  refine ⟨tCB r ta, fun m hm => pe_callTy (X := X.wth m) (hc m hm) (gl_of (c m hm) hg) hmx hv (pa m hm) hn hd (star_cons h1) (star_back h2), fun ρ sto σ F H as Q s5 he h => ?_⟩
  refine ha ρ sto σ F H as _ s5 he (h.bind.imp fun ds s1 F1 H1 as1 e1 t1 h1 vs rv => ?_)
  exact ho s1 σ F1 H1 as1 vs ds Q t1 rv h1
def biName : Bi → Str
  | .len => "len" | .int => "int" | .list => "list" | .tuple => "tuple" | .min2 => "min" | .max2 => "max" | .minl => "min" | .maxl => "max" | .abs => "abs" | .sum => "sum" | .all => "all" | .any => "any" | .sorted => "sorted" | .repr => "repr"
theorem de_none {f : Env → Sto → R D} (h : ¬ ∃ m, M m) : DE X M W e f := ⟨fun _ _ _ => True, fun m hm => absurd ⟨m, hm⟩ h, fun _ _ _ _ _ _ _ _ _ _ => True.intro⟩
theorem de_bi {bi : Bi} {m : Bool} {ies : IEs} (c : CtxM X M W N sc k fl lb) (hx : x = biName bi) (hg : sc.names.lookup x = some .globalImplicit) (hst : noStars (e :: es) = true) (ha : DA X M W (e :: es) (semEs ies)) :
    DE X M W (.Call (.Name x p) (e :: es) [] pos) (semE (.bi bi m ies)) := by
  subst hx
  by_cases hex : ∃ m, M m
  case neg => exact de_none hex
  obtain ⟨m0, hm0⟩ := hex
  have hm : X.mg (biName bi) = none := (c m0 hm0).bi _ (by cases bi <;> decide +kernel)
  have hn : biName bi ≠ "__name__" := by cases bi <;> decide +kernel
  have hd : (biName bi == ("__debug__" : Str)) = false := by cases bi <;> decide +kernel
  simp only [semE, biSem]
  cases bi with
  | len => exact de_biF c (fun m hm => call_len_seq.or call_len_str) opB_len hg hm PySem.boot_len hn hd hst ha
  | int => exact de_biT c (fun m hm => call_int1) opB_int hg hm (by decide +kernel) hn hd hst ha
  | list => exact de_biT c (fun m hm => call_list_of) opB_list hg hm (by decide +kernel) hn hd hst ha
  | tuple => exact de_biT c (fun m hm => call_tuple_of) opB_tuple hg hm (by decide +kernel) hn hd hst ha
  | min2 => exact de_biF c (fun m hm => call_min2 (c m hm).calm) opB_two hg hm (by decide +kernel) hn hd hst ha
  | max2 => exact de_biF c (fun m hm => call_max2 (c m hm).calm) opB_two hg hm (by decide +kernel) hn hd hst ha
  | minl => exact de_biF c (fun m hm => cr_min (c m hm).calm) opB_min hg hm (by decide +kernel) hn hd hst ha
  | maxl => exact de_biF c (fun m hm => cr_max (c m hm).calm) opB_max hg hm (by decide +kernel) hn hd hst ha
  | abs => exact de_biF c (fun m hm => call_abs) opB_abs hg hm (by decide +kernel) hn hd hst ha
  | sum => exact de_biF c (fun m hm => cr_sum (c m hm).calm) opB_sum hg hm (by decide +kernel) hn hd hst ha
  | all => exact de_biF c (fun m hm => cr_all (c m hm).calm) opB_all hg hm (by decide +kernel) hn hd hst ha
  | any => exact de_biF c (fun m hm => cr_any (c m hm).calm) opB_any hg hm (by decide +kernel) hn hd hst ha
  | sorted => exact de_biF c (fun m hm => cr_sortedT) opB_sorted hg hm (by decide +kernel) hn hd hst ha
  | repr => exact de_biF c (fun m hm => call_repr (c m hm)) opB_repr hg hm (by decide +kernel) hn hd hst ha
/-! ### isinstance -/
def tyNames : List String := ["int", "bool", "list", "tuple", "str", "dict"]
theorem boot_ty : ∀ ty ∈ tyNames, bootBuiltins (Str.ofString ty) = some (.type ty) ∧ Str.ofString ty ≠ "__name__" ∧ (Str.ofString ty == ("__debug__" : Str)) = false := by
  intro ty h
  simp only [tyNames, List.mem_cons, List.not_mem_nil, or_false] at h
  rcases h with rfl | rfl | rfl | rfl | rfl | rfl <;> exact ⟨by decide +kernel, by decide +kernel, by decide +kernel⟩
theorem typ_at {K : PySem.W.Frag} {F H : Hp} {as : List Addr} {sto : Sto} {v : V} {d : D} {t : String} (s : St5 K F H as sto) (r : Rep K F as v d) (h : typD (res sto d) = some t) : TyX K H v (.type t) := by
  cases r with
  | non => cases h; exact .base .non
  | bl b => cases h; exact .base (.bl b)
  | int b => cases h; exact .base (.int b)
  | str b => cases h; exact .base (.str b)
  | lst a b => cases h; exact .base (.lst (s.sub _ _ a))
  | tup a b => cases h; exact .base (.tup (s.sub _ _ a))
  | scr e => cases h
  | exc0 _ => cases h
  | exc _ _ _ _ _ => cases h
  | fnv _ _ _ => cases h
  | dic a _ _ _ _ => cases h; exact .base (.dK (s.sub _ _ a))
  | @obj a n e =>
    cases q : sto[n]? with
    | none =>
      have z : res sto (.obj n) = .obj n := by unfold res; simp only [q]
      rw [z] at h
      cases h
    | some c =>
      cases c with
      | dead =>
        have z : res sto (.obj n) = .obj n := by unfold res; simp only [q]
        rw [z] at h
        cases h
      | lst ds =>
        have z : res sto (.obj n) = .lst ds := by unfold res; simp only [q]
        rw [z] at h
        cases h
        obtain ⟨_, xs, h2, h3⟩ := s.cell _ _ _ e q
        exact .base (.lst h2)
theorem de_isi {ty : String} {ia : IE} {p2 : Pos} (c : CtxM X M W N sc k fl lb) (hty : ty ∈ tyNames) (hg : sc.names.lookup ("isinstance" : Str) = some .globalImplicit) (hg2 : sc.names.lookup (Str.ofString ty) = some .globalImplicit) (hm2 : X.mg (Str.ofString ty) = none) (hs : isStar a = false) (ha : DE X M W a (semE ia)) :
    DE X M W (.Call (.Name "isinstance" p) [a, .Name (Str.ofString ty) p2] [] pos) (semE (.isi ia ty)) := by
  obtain ⟨ta, pa, ha⟩ := ha
  obtain ⟨b1, b2, b3⟩ := boot_ty ty hty
  by_cases hex : ∃ m, M m
  case neg => exact de_none hex
  obtain ⟨m0, hm0⟩ := hex
  have hmi : X.mg "isinstance" = none := (c m0 hm0).bi _ (by decide +kernel)
  refine ⟨tCB (rIsi X.K) (tCons ta (tCons (tC (.ty ty)) tNil)), fun m hm => pe_callB (X := X.wth m) call_isi (gl_of (c m hm) hg) hmi (by decide +kernel) (pa_cons (pa m hm) (pa_cons (pe_bltn (v := .ty ty) (gl_of (c m hm) hg2) hm2 b1 rfl b2 b3) pa_nil (star_cons rfl)) (star_cons hs)) (by decide +kernel) (by decide +kernel) (star_cons hs) (star_back rfl), fun ρ sto σ F H as Q s5 he h => ?_⟩
  simp only [semE] at h
  refine ha ρ sto σ F H as _ s5 he (h.bind.imp fun d s1 F1 H1 as1 e1 t1 h1 v rv => ?_)
  unfold isiSem at h1
  split at h1
  · rename_i kk q
    obtain ⟨t, q1, q2⟩ := Option.bind_eq_some_iff.mp q
    exact ⟨v, .ty ty, .type t, .type ty, kk, rfl, .ty ty, typ_at t1 rv q1, kit_ty q2, h1.ok0 t1 _ (.bl _)⟩
  · exact h1.elim
/-! ### data of a list of the store -/
theorem de_fz {ia : IE} (ha : DE X M W a (semE ia)) : DE X M W a (semE (.fz ia)) := by
  obtain ⟨ta, pa, ha⟩ := ha
  refine ⟨ta, fun m hm => (pa m hm), fun ρ sto σ F H as Q s5 he h => ?_⟩
  simp only [semE] at h
  refine ha ρ sto σ F H as _ s5 he (h.bind.imp fun d s1 F1 H1 as1 e1 t1 h1 v rv => ?_)
  unfold fzSem at h1
  split at h1
  · split at h1
    · rename_i n xs q
      cases rv with
      | obj en =>
        obtain ⟨vs, hH, s', x', r⟩ := t1.freeze en q
        exact h1 _ _ _ x' s' _ r
    · exact h1.elim
  · exact h1.elim
theorem fzAll_ok {K : PySem.W.Frag} {H : Hp} {as : List Addr} : ∀ (ds : List D) {vs : List V} {F : Hp} {s s' : Sto} {es : List D}, St5 K F H as s → RepAll K F as vs ds → fzAll ds s = some (es, s') →
    ∃ F', St5 K F' H as s' ∧ Ext F H as F' H as ∧ RepAll K F' as vs es
  | [], _, F, s, s', es, s5, r, h => by
    cases r
    rw [fzAll] at h
    cases h
    exact ⟨F, s5, Ext.refl _ _ _, .nil⟩
  | d :: ds, _, F, s, s', es, s5, r, h => by
    cases r with
    | cons rv rs =>
      rw [fzAll.eq_def] at h
      dsimp only at h
      split at h
      · rename_i n
        split at h
        · rename_i xs q
          cases rv with
          | obj en =>
            obtain ⟨ws, hH, t1, x1, r1⟩ := s5.freeze en q
            obtain ⟨p, hp, e⟩ := Option.map_eq_some_iff.mp h
            obtain ⟨F2, t2, x2, r2⟩ := fzAll_ok ds t1 (rs.ext x1) hp
            cases e
            exact ⟨F2, t2, x1.trans x2, .cons (r1.ext x2) r2⟩
        · cases h
      · obtain ⟨p, hp, e⟩ := Option.map_eq_some_iff.mp h
        obtain ⟨F2, t2, x2, r2⟩ := fzAll_ok ds s5 rs hp
        cases e
        exact ⟨F2, t2, x2, .cons (rv.ext x2) r2⟩
theorem de_fzl {ia : IE} (ha : DE X M W a (semE ia)) : DE X M W a (semE (.fzl ia)) := by
  obtain ⟨ta, pa, ha⟩ := ha
  refine ⟨ta, fun m hm => (pa m hm), fun ρ sto σ F H as Q s5 he h => ?_⟩
  simp only [semE] at h
  refine ha ρ sto σ F H as _ s5 he (h.bind.imp fun d s1 F1 H1 as1 e1 t1 h1 v rv => ?_)
  unfold fzlSem at h1
  split at h1
  · split at h1
    · rename_i xs p q
      cases rv with
      | lst hF rs =>
        obtain ⟨F2, t2, x2, r2⟩ := fzAll_ok _ t1 rs q
        exact h1 _ _ _ x2 t2 _ (.lst (x2.fz _ _ hF) r2)
    · exact h1.elim
  · split at h1
    · rename_i n xs q
      split at h1
      · rename_i p q2
        cases rv with
        | obj en =>
          obtain ⟨vs, hH, t2, x2, r⟩ := t1.freeze en q
          cases r with
          | lst hF rs =>
            obtain ⟨F3, t3, x3, r3⟩ := fzAll_ok _ t2 rs q2
            exact h1 _ _ _ (x2.trans x3) t3 _ (.lst (x3.fz _ _ hF) r3)
      · exact h1.elim
    · exact h1.elim
  · exact h1.elim
/-! ### methods of lists -/
def plainO : Expr → Bool
  | .Name .. => true
  | .Subscript .. => true
  | .Attribute .. => true
  | _ => false
theorem attr_base {o : Expr} {name : Str} {env : PySem.Env} (h : plainO o = true) : attributeBase o name env (eval o env) = eval o env := by
  cases o <;> first | rfl | cases h
def meName : Me → Str
  | .append => "append" | .extend => "extend" | .popAt => "pop" | .count => "count" | .countD => "count" | .index => "index"
def OpM (X : Cx) (W : WX) (r : V → List V → Hp → VK → Prop) (f : D → List D → Sto → R D) : Prop := ∀ (sto : Sto) (σ : L2.St) (F H : Hp) (as : List Addr) (v : V) (d : D) (vs : List V) (ds : List D) (Q : VK), St5 X.K F H as sto → Rep X.K F as v d → RepAll X.K F as vs ds →
  Fin X.K X.mg W σ F H as (f d ds sto) (fun d _ F' H' as' => ∀ v, Rep X.K F' as' v d → Q v H') → r v vs H Q
theorem opM_append : OpM X W rAppend meAppend := by
  intro sto σ F H as v d vs ds Q s5 rv r h
  unfold meAppend at h
  split at h
  · split at h
    · rename_i n d xs q
      obtain ⟨hl, h⟩ := fin_if h
      obtain ⟨y, rfl, ry⟩ := repAll1 r
      cases rv with
      | obj en =>
        obtain ⟨_, ws, h2, h3⟩ := s5.cell _ _ _ en q
        obtain ⟨s', x'⟩ := s5.putC en q (h3.append (.cons ry .nil))
        exact ⟨_, ws, y, rfl, rfl, h2, by rw [h3.len]; exact hl, h _ _ _ x' s' _ .non⟩
    · exact h.elim
  · exact h.elim
theorem opM_extend : OpM X W rExtend meExtend := by
  intro sto σ F H as v d vs ds Q s5 rv r h
  unfold meExtend at h
  split at h
  · split at h
    · rename_i n ys xs q
      obtain ⟨hl, h⟩ := fin_if h
      obtain ⟨y, rfl, ry⟩ := repAll1 r
      cases rv with
      | obj en =>
        cases ry with
        | lst hF rr =>
          obtain ⟨_, ws, h2, h3⟩ := s5.cell _ _ _ en q
          obtain ⟨s', x'⟩ := s5.putC en q (h3.append rr)
          exact ⟨_, _, ws, _, rfl, rfl, h2, s5.sub _ _ hF, by rw [h3.len, rr.len]; exact hl, h _ _ _ x' s' _ .non⟩
    · exact h.elim
  · exact h.elim
theorem opM_popAt : OpM X W rPopAt mePopAt := by
  intro sto σ F H as v d vs ds Q s5 rv r h
  unfold mePopAt at h
  split at h
  · split at h
    · rename_i n i _ xs q
      obtain ⟨hl, h⟩ := fin_if h
      split at h
      · rename_i _ dd qq
        obtain ⟨y, rfl, ry⟩ := repAll1 r
        cases rv with
        | obj en =>
          obtain ⟨_, ws, h2, h3⟩ := s5.cell _ _ _ en q
          obtain ⟨u, hu, ru⟩ := h3.get qq
          obtain ⟨s', x'⟩ := s5.putC en q (h3.eraseIdx i.toNat)
          have hlt : i.toNat < ws.length := (List.getElem?_eq_some_iff.mp hu).1
          have hk : seqIndex? i ws.length = some i.toNat := (ixN_seq (by
            unfold ixN
            rw [if_pos hl.1, if_pos (by omega)])).1
          exact ⟨_, ws, i, i.toNat, u, rfl, by rw [rep_int ry], h2, by omega, hl.2, hk, hu, h _ _ _ x' s' _ (Rep.ext x' ru)⟩
      · exact h.elim
    · exact h.elim
  · exact h.elim
theorem opM_count : OpM X W (rCntI X.K) meCount := by
  intro sto σ F H as v d vs ds Q s5 rv r h
  unfold meCount at h
  split at h
  · split at h
    · rename_i kk _ ns q
      obtain ⟨y, rfl, ry⟩ := repAll1 r
      obtain ⟨aa, rfl, hs⟩ := ints_at s5 rv q
      exact ⟨aa, ns, kk, rfl, by rw [rep_int ry], hs, h.ok0 s5 _ (.int _)⟩
    · exact h.elim
  · exact h.elim
/-- l.count(x), over data -/
def rCountD (K : PySem.W.Frag) : V → List V → Hp → VK → Prop := fun x xs H Q => ∃ (a : Addr) (y : V) (d : PyData) (ds : List PyData), x = V.ref a ∧ xs = [y] ∧ Dp K H (V.ref a) (.list ds) ∧ Dp K H y d ∧
  SeqAt.shaped (.list ds) = true ∧ SeqAt.shaped d = true ∧ Q (.int (ds.countP fun z => PyData.eqv z d : Nat)) H
theorem mt_countD {X : Cx} (hu : X.A.units + 65 < cLine) : MtR X "list.count" (rCountD X.K) := by
  intro pins s σ H x xs v us Q I rx rxs h
  obtain ⟨a, y, d, ds, rfl, rfl, hl, hy, sl, sd, q⟩ := h
  cases rx
  cases rxs with
  | cons ry rt =>
    rename_i uy ut
    cases rt
    obtain ⟨bs, r1⟩ := Dp.reads I d y uy hy ry
    have hxs : PyData.canLayAll0 ds = true := SeqAt.canLay_of_shaped sl
    have hroom : X.A.units + 1 + min (PyData.depthAll ds) d.depth < cLine := room_in_shaped sd hu
    cases hl with
    | lst hs ha =>
      obtain ⟨its, rv, ⟨⟨cls, dd, data, sls⟩, n, ho, hc, hdn, hdt⟩, hlen⟩ := I.list hs
      simp only at hc hdt
      subst hc hdt
      obtain ⟨as, h4⟩ := Dp.readsAll I ds _ its ha rv
      have hmap : its.map (SeqAt.readOf s.heap) = ds := SeqAt.readsAll_map ds its as hxs h4
      have e : ds.countP (fun z => PyData.eqv z d) = its.toArray.toList.countP (fun u => PyData.eqv (SeqAt.readOf s.heap u) d) := by
        rw [← hmap, List.countP_map]
        rfl
      rw [e] at q
      exact call_meets PySem.F.slot_list_count ⟨_, ho, rfl⟩ PySem.F.entry_list_count (PySem.F.args_list_count_2 _ _)
        (SeqAt.list_countAt a its.toArray n dd sls uy (fun u => PyData.eqv (SeqAt.readOf s.heap u) d)) ⟨ho, SeqAt.items_eqAt (vs := its.toArray) (show ReadsAll s.heap its.toArray.toList ds as from h4) r1 hxs (SeqAt.canLay_of_shaped sd) hroom, ⟨.int _, H, I.tok _, ⟨_, rfl⟩, q⟩⟩
theorem dl_at {K : PySem.W.Frag} {F H : Hp} {as : List Addr} {sto : Sto} {v : V} {d : D} {xs : List D} (s : St5 K F H as sto) (r : Rep K F as v d) (h : lstOf sto d = some xs) (p : pureAll xs = true) : ∃ a, v = .ref a ∧ Dp K H (.ref a) (.list (toPyAll xs)) := by
  obtain ⟨a, vs, rfl, hs, ra⟩ := lst_at s r h
  exact ⟨a, rfl, .lst hs (dpAll_of s.sub _ _ ra p)⟩
theorem findD_ok {d : PyData} : ∀ (zs : List PyData) (i j : Nat), findD d zs i = some j → ∃ (m : Nat) (z : PyData), j = i + m ∧ zs[m]? = some z ∧ PyData.eqv z d = true ∧ ∀ (m' : Nat) (z' : PyData), m' < m → zs[m']? = some z' → PyData.eqv z' d = false
  | [], i, j, h => by cases h
  | z :: r, i, j, h => by
    rw [findD] at h
    split at h
    · rename_i q
      cases h
      exact ⟨0, z, rfl, rfl, q, fun m' z' hm => absurd hm (Nat.not_lt_zero _)⟩
    · rename_i q
      obtain ⟨m, z2, h1, h2, h3, h4⟩ := findD_ok r (i + 1) j h
      refine ⟨m + 1, z2, by omega, h2, h3, fun m' z' hm hz => ?_⟩
      cases m' with
      | zero =>
        cases hz
        simpa using q
      | succ m' => exact h4 m' z' (by omega) hz
theorem opM_countD : OpM X W (rCountD X.K) meCountD := by
  intro sto σ F H as v d vs ds Q s5 rv r h
  unfold meCountD at h
  split at h
  · split at h
    · rename_i k xs q
      obtain ⟨y, rfl, ry⟩ := repAll1 r
      obtain ⟨⟨⟨p1, p2⟩, p3, p4⟩, h⟩ := fin_if h
      obtain ⟨a, rfl, hd⟩ := dl_at s5 rv q p1
      exact ⟨a, y, _, _, rfl, rfl, hd, dp_of s5.sub _ _ ry p2, p3, p4, h.ok0 s5 _ (.int _)⟩
    · exact h.elim
  · exact h.elim
theorem opM_index : OpM X W (rIndexD X.K) meIndex := by
  intro sto σ F H as v d vs ds Q s5 rv r h
  unfold meIndex at h
  split at h
  · split at h
    · rename_i k xs q
      obtain ⟨y, rfl, ry⟩ := repAll1 r
      obtain ⟨⟨⟨p1, p2⟩, p3, p4⟩, h⟩ := fin_if h
      obtain ⟨a, rfl, hd⟩ := dl_at s5 rv q p1
      split at h
      · rename_i j qj
        obtain ⟨m, z, e, h2, h3, h4⟩ := findD_ok _ _ _ qj
        have e : j = m := by omega
        subst e
        exact ⟨a, y, _, _, j, z, rfl, rfl, hd, dp_of s5.sub _ _ ry p2, p3, p4, h2, h3, h4, h.ok0 s5 _ (.int _)⟩
      · exact h.elim
    · exact h.elim
  · exact h.elim
theorem de_methF {r : V → List V → Hp → VK → Prop} {f : D → List D → Sto → R D} {io : IE} {ies : IEs} {o : Expr} {name : Str} {apos : Pos} (slot : Slot "list" name id) (hty : typeOf (.builtin id) = Pure.pure (.type "method_descriptor")) (hmt : ∀ m, M m → MtR (X.wth m) id r) (hop : OpM X W r f)
    (hp : plainO o = true) (hlen : (e :: es).length < 30) (hline : (apos.endLine == pos.line) = true) (hst : noStars (e :: es) = true) (ho : DE X M W o (semE io)) (ha : DA X M W (e :: es) (semEs ies)) :
    DE X M W (.Call (.Attribute o name apos) (e :: es) [] pos) (fun ρ s => (semE io ρ s).bind fun x s1 => if (lstOf s1 x).isSome = true then (semEs ies ρ s1).bind fun ds s2 => f x ds s2 else .bad) := by
  obtain ⟨to, po, ho⟩ := ho
  obtain ⟨ta, pa, ha⟩ := ha
  obtain ⟨h1, h2⟩ := stars_split hst
  refine ⟨tBM X.K "list" r to ta, fun m hm => pe_bm PySem.F.plainAttrs_list slot hty (hmt m hm) (po m hm) (pa m hm) (attr_base hp) ?_ hline (star_cons h1) (star_back h2), fun ρ sto σ F H as Q s5 he h => ?_⟩
  · rw [star_all hst]
    have : decide ((e :: es).length + ([] : List Keyword).length + (if ([] : List Keyword).isEmpty then 0 else 1) < 30) = true := decide_eq_true (by
      show (e :: es).length + 0 + 0 < 30
      omega)
    rw [this]
    rfl
  refine ho ρ sto σ F H as _ s5 he (h.bind.imp fun x s1 F1 H1 as1 e1 t1 h1 v rv => ?_)
  obtain ⟨hl, h1⟩ := fin_if h1
  obtain ⟨ds, hds⟩ := Option.isSome_iff_exists.mp hl
  obtain ⟨aa, ws, rfl, hs, _⟩ := lst_at t1 rv hds
  refine ⟨.inl ⟨rfl, ws, hs⟩, ?_⟩
  refine ha ρ s1 σ F1 H1 as1 _ t1 (he.ext e1) (h1.bind.imp fun ds s2 F2 H2 as2 e2 t2 h2 vs rvs => ?_)
  exact hop s2 σ F2 H2 as2 _ x vs ds Q t2 (rv.ext e2) rvs h2
theorem hu65 {Y : Cx} (c : Ctx Y W N sc k fl lb) : Y.A.units + 65 < cLine := by have := c.room.un; omega
theorem de_meth {mt : Me} (c : CtxM X M W N sc k fl lb) {io : IE} {ies : IEs} {o : Expr} {name : Str} {apos : Pos} (hn : name = meName mt) (hp : plainO o = true) (hlen : (e :: es).length < 30) (hline : (apos.endLine == pos.line) = true) (hst : noStars (e :: es) = true)
    (ho : DE X M W o (semE io)) (ha : DA X M W (e :: es) (semEs ies)) : DE X M W (.Call (.Attribute o name apos) (e :: es) [] pos) (semE (.meth mt io ies)) := by
  subst hn
  simp only [semE, meSem]
  cases mt with
  | append => exact de_methF PySem.F.slot_list_append PySem.F.type_list_append (fun m hm => mt_append) opM_append hp hlen hline hst ho ha
  | extend => exact de_methF PySem.F.slot_list_extend PySem.F.type_list_extend (fun m hm => mt_extend) opM_extend hp hlen hline hst ho ha
  | popAt => exact de_methF PySem.F.slot_list_pop PySem.F.type_list_pop (fun m hm => mt_popAt) opM_popAt hp hlen hline hst ho ha
  | count => exact de_methF PySem.F.slot_list_count PySem.F.type_list_count (fun m hm => mt_lcount) opM_count hp hlen hline hst ho ha
  | countD => exact de_methF PySem.F.slot_list_count PySem.F.type_list_count (fun m hm => mt_countD (hu65 (c m hm))) opM_countD hp hlen hline hst ho ha
  | index => exact de_methF PySem.F.slot_list_index PySem.F.type_list_index (fun m hm => mt_indexD (hu65 (c m hm))) opM_index hp hlen hline hst ho ha

/-! ### targets -/
mutual
def tgSlots : Tg → List Nat
  | .name i => [i]
  | .tup ts => tgsSlots ts
def tgsSlots : Tgs → List Nat
  | .nil => []
  | .cons t ts => tgSlots t ++ tgsSlots ts
end
def Away (σ σ' : L2.St) (vs : List Nat) : Prop := σ'.length = σ.length ∧ ∀ j, j ∉ vs → σ'[j]? = σ[j]?
theorem Away.refl (σ : L2.St) (vs : List Nat) : Away σ σ vs := ⟨rfl, fun _ _ => rfl⟩
theorem Away.trans {a b c : L2.St} {v w : List Nat} (h : Away a b v) (g : Away b c w) : Away a c (v ++ w) := ⟨g.1.trans h.1, fun j hj => by
  rw [List.mem_append, not_or] at hj
  rw [g.2 j hj.2, h.2 j hj.1]⟩
def DG (X : Cx) (M : Md → Prop) (tg : Expr) (t : Tg) : Prop := ∃ g, (∀ m, M m → PG (X.wth m) tg g) ∧ ∀ (d : D) (ρ ρ' : Env) (v : V) (σ : L2.St) (F H : Hp) (as : List Addr) (Q : L2.St → Hp → Prop), Same F H → EnvR X.K F as σ ρ → Rep X.K F as v d → tgSem t d ρ = some ρ' →
  (∀ σ', EnvR X.K F as σ' ρ' → Away σ σ' (tgSlots t) → Q σ' H) → g v σ H Q
def DGs (X : Cx) (M : Md → Prop) (tg : List Expr) (t : Tgs) : Prop := ∃ g, (∀ m, M m → PGs (X.wth m) tg g) ∧ ∀ (ds : List D) (ρ ρ' : Env) (vs : List V) (σ : L2.St) (F H : Hp) (as : List Addr) (Q : L2.St → Hp → Prop), Same F H → EnvR X.K F as σ ρ → RepAll X.K F as vs ds → tgsSem t ds ρ = some ρ' →
  (∀ σ', EnvR X.K F as σ' ρ' → Away σ σ' (tgsSlots t) → Q σ' H) → g vs σ H Q
theorem away_set {σ : L2.St} {i : Nat} {v : Option V} : Away σ (σ.set i v) [i] := ⟨List.length_set, fun j hj => List.getElem?_set_ne (fun z => hj (by rw [z]; exact List.mem_singleton_self _))⟩
theorem dg_name {i : Nat} (c : CtxM X M W N sc k fl lb) (h1 : N[i]? = some x) (h2 : sc.names.lookup x = some .local ∨ (fl = true ∧ sc.names.lookup x = some .cell)) : DG X M (.Name x pos) (.name i) := by
  have hl : ∀ m, M m → Loc (X.wth m).env.scope x := fun m hm => by
    rw [(c m hm).hsc]
    rcases h2 with h | h
    · exact .inl h
    · exact .inr h.2
  refine ⟨_, fun m hm => pg_name (by rw [(c m hm).hN]; exact (c m hm).nd) (by rw [(c m hm).hN]; exact h1) (hl m hm) ?_, fun d ρ ρ' v σ F H as Q sub he rv h q => ?_⟩
  · rcases h2 with h | h
    · right
      rw [(c m hm).hsc]
      exact h
    · exact .inl ((c m hm).fn h.1 x)
  · simp only [tgSem, Option.some.injEq] at h
    subst h
    exact q _ (he.set rv) away_set
theorem dgs_nil : DGs X M [] .nil := ⟨_, fun m hm => pgs_nil, fun ds ρ ρ' vs σ F H as Q sub he rv h q => by
  simp only [tgsSem] at h
  split at h
  · cases h
    cases rv
    exact ⟨rfl, q σ he (Away.refl _ _)⟩
  · cases h⟩
def assignOk : Expr → Bool
  | .Starred .. => false
  | _ => true
theorem assign_cons {env : PySem.Env} (h : isStar e = false) : assignEach (e :: es) env = (false, assign e env) :: assignEach es env := by
  cases e <;> first | rfl | cases h
theorem dgs_cons {t : Tg} {ts : Tgs} (hs : isStar e = false) (h1 : DG X M e t) (h2 : DGs X M es ts) : DGs X M (e :: es) (.cons t ts) := by
  obtain ⟨g1, p1, h1⟩ := h1
  obtain ⟨g2, p2, h2⟩ := h2
  refine ⟨_, fun m hm => pgs_cons (p1 m hm) (p2 m hm) (by rw [assign_cons hs]; rfl), fun ds ρ ρ' vs σ F H as Q sub he rv h q => ?_⟩
  simp only [tgsSem] at h
  split at h
  · rename_i d ds
    split at h
    · rename_i _ ρ1 hq
      cases rv with
      | cons r rr =>
        refine ⟨_, _, rfl, h1 d ρ ρ1 _ σ F H as _ sub he r hq fun σ1 he1 a1 => ?_⟩
        exact h2 ds ρ1 ρ' _ σ1 F H as Q sub he1 rr h fun σ2 he2 a2 => q σ2 he2 (a1.trans a2)
    · cases h
  · cases h
theorem assign_none {env : PySem.Env} : ∀ {es : List Expr}, noStars es = true → (assignEach es env).length = es.length ∧ (assignEach es env).findIdx? (·.1) = none
  | [], _ => ⟨rfl, rfl⟩
  | e :: es, h => by
    obtain ⟨h1, h2⟩ := stars_split h
    obtain ⟨q1, q2⟩ := assign_none (env := env) h2
    rw [assign_cons h1]
    refine ⟨by rw [List.length_cons, List.length_cons, q1], ?_⟩
    rw [List.findIdx?_cons]
    simp only [Bool.false_eq_true, if_false, q2, Option.map_none]
theorem dg_tup {ts : Tgs} {j : Nat} (c : CtxM X M W N sc k fl lb) (hst : noStars es = true) (hlen : ∀ ds ρ ρ', tgsSem ts ds ρ = some ρ' → ds.length = es.length) (h : DGs X M es ts) : DG X M (.Tuple es j pos) (.tup ts) := by
  obtain ⟨g, p, hg⟩ := h
  refine ⟨gTup X.K es.length g, fun m hm => pg_tup (c m hm).calm (p m hm) (assign_none hst).1 (assign_none hst).2, fun d ρ ρ' v σ F H as Q sub he rv h q => ?_⟩
  simp only [tgSem] at h
  split at h
  · rename_i ds
    cases rv with
    | tup hF r =>
      exact ⟨_, _, rfl, .of (sub _ _ hF), by rw [r.len]; exact hlen _ _ _ h, hg ds ρ ρ' _ σ F H as Q sub he r h q⟩
  · cases h
end
end DV

namespace DV
open PySem PySem.Spec PyProof.Rows L2

/-! ### walks -/
structure ItR (K : PySem.W.Frag) (F1 : Hp) (as1 : List Addr) (J : It) (ds : List D) : Prop where
  go : ∀ i F H, Same F1 F → Same F H → i < ds.length → J.go i H
  stop : ∀ i F H, Same F1 F → Same F H → ds.length ≤ i → J.stop i H
  yld : ∀ i F H as sto x H' d, Same F1 F → Pre as1 as → St5 K F H as sto → J.yld i H x H' → ds[i]? = some d → ∃ F', Ext F H as F' H' as ∧ St5 K F' H' as sto ∧ Rep K F' as x d
def DI (X : Cx) (M : Md → Prop) (W : WX) (tg iter : Expr) (f : Env → Sto → R (List D)) : Prop := ∃ wi, (∀ m, M m → PI (X.wth m) tg iter wi) ∧ ∀ (ρ : Env) (sto : Sto) (σ : L2.St) (F H : Hp) (as : List Addr) (Rr : It → Hp → Prop), St5 X.K F H as sto → EnvR X.K F as σ ρ →
  Fin X.K X.mg W σ F H as (f ρ sto) (fun ds _ F1 H1 as1 => ∀ J, ItR X.K F1 as1 J ds → Rr J H1) → wi σ H Rr
section
variable {K : PySem.W.Frag} {F H : Hp} {as : List Addr}
theorem itR_list {a : Addr} {xs : List V} {ds : List D} (h : ∀ F', Same F F' → SqL K F' a xs) (r : RepAll K F as xs ds) : ItR K F as (Itl K a) ds where
  go := fun i F' H' s1 s2 hi => by
    have hl : i < xs.length := by rw [r.len]; exact hi
    exact ⟨xs, xs[i], s2.seq (h F' s1), List.getElem?_eq_getElem hl⟩
  stop := fun i F' H' s1 s2 hi => ⟨xs, s2.seq (h F' s1), by rw [r.len]; exact hi⟩
  yld := fun i F' H' as' sto x H'' d s1 p s5 hy hd => by
    obtain ⟨rfl, hy⟩ := hy
    obtain ⟨v, hv, rv⟩ := r.get hd
    have e := hy xs (s5.sub.seq (h F' s1))
    rw [hv] at e
    cases e
    exact ⟨F', Ext.refl _ _ _, s5, Rep.mono s1 p _ _ rv⟩
theorem itR_tup {a : Addr} {xs : List V} {ds : List D} (h : F a = some (.tup xs)) (r : RepAll K F as xs ds) : ItR K F as (Itt K a) ds where
  go := fun i F' H' s1 s2 hi => by
    have hl : i < xs.length := by rw [r.len]; exact hi
    exact ⟨xs, xs[i], .of (s2 _ _ (s1 _ _ h)), List.getElem?_eq_getElem hl⟩
  stop := fun i F' H' s1 s2 hi => ⟨xs, .of (s2 _ _ (s1 _ _ h)), by rw [r.len]; exact hi⟩
  yld := fun i F' H' as' sto x H'' d s1 p s5 hy hd => by
    obtain ⟨rfl, hy⟩ := hy
    obtain ⟨v, hv, rv⟩ := r.get hd
    have e := hy xs (.of (s5.sub _ _ (s1 _ _ h)))
    rw [hv] at e
    cases e
    exact ⟨F', Ext.refl _ _ _, s5, Rep.mono s1 p _ _ rv⟩
theorem itR_range {lo : Int} {n : Nat} : ItR K F as (Itr lo n) (rangeD lo n) where
  go := fun i F' H' s1 s2 hi => by
    unfold rangeD at hi
    rw [List.length_map, List.length_range] at hi
    exact hi
  stop := fun i F' H' s1 s2 hi => by
    unfold rangeD at hi
    rw [List.length_map, List.length_range] at hi
    exact hi
  yld := fun i F' H' as' sto x H'' d s1 p s5 hy hd => by
    obtain ⟨rfl, rfl⟩ := hy
    unfold rangeD at hd
    rw [List.getElem?_map] at hd
    obtain ⟨j, h1, rfl⟩ := Option.map_eq_some_iff.mp hd
    obtain ⟨hl, h2⟩ := List.getElem?_eq_some_iff.mp h1
    rw [List.getElem_range] at h2
    subst h2
    exact ⟨F', Ext.refl _ _ _, s5, .int _⟩
theorem itR_rangeC {lo c : Int} {n : Nat} : ItR K F as (Itc lo c n) (rangeC lo c n) where
  go := fun i F' H' s1 s2 hi => by
    unfold rangeC at hi
    rw [List.length_map, List.length_range] at hi
    exact hi
  stop := fun i F' H' s1 s2 hi => by
    unfold rangeC at hi
    rw [List.length_map, List.length_range] at hi
    exact hi
  yld := fun i F' H' as' sto x H'' d s1 p s5 hy hd => by
    obtain ⟨rfl, rfl⟩ := hy
    unfold rangeC at hd
    rw [List.getElem?_map] at hd
    obtain ⟨j, h1, rfl⟩ := Option.map_eq_some_iff.mp hd
    obtain ⟨hl, h2⟩ := List.getElem?_eq_some_iff.mp h1
    rw [List.getElem_range] at h2
    subst h2
    exact ⟨F', Ext.refl _ _ _, s5, .int _⟩
theorem enumD_len : ∀ (ds : List D) (i : Nat), (enumD i ds).length = ds.length
  | [], _ => rfl
  | d :: ds, i => by
    show (enumD (i + 1) ds).length + 1 = ds.length + 1
    rw [enumD_len ds]
theorem enumD_get : ∀ (ds : List D) (i j : Nat) (e : D), (enumD i ds)[j]? = some e → ∃ d, ds[j]? = some d ∧ e = .tup [.int ((i + j : Nat) : Int), d]
  | [], _, _, _, h => by cases h
  | d :: ds, i, 0, e, h => by
    cases h
    exact ⟨d, rfl, rfl⟩
  | d :: ds, i, j + 1, e, h => by
    obtain ⟨d', h1, h2⟩ := enumD_get ds (i + 1) j e (by simpa [enumD] using h)
    refine ⟨d', by simpa using h1, ?_⟩
    rw [h2]
    congr 3
    omega
theorem itR_enum {a : Addr} {xs : List V} {ds : List D} (h : ∀ F', Same F F' → SqL K F' a xs) (r : RepAll K F as xs ds) : ItR K F as (Ite K a) (enumD 0 ds) where
  go := fun i F' H' s1 s2 hi => by
    rw [enumD_len] at hi
    have hl : i < xs.length := by rw [r.len]; exact hi
    exact ⟨xs, xs[i], s2.seq (h F' s1), List.getElem?_eq_getElem hl⟩
  stop := fun i F' H' s1 s2 hi => ⟨xs, s2.seq (h F' s1), by rw [r.len, ← enumD_len ds 0]; exact hi⟩
  yld := fun i F' H' as' sto x H'' d s1 p s5 hy hd => by
    obtain ⟨T, y, rfl, hT, rfl, hy⟩ := hy
    obtain ⟨d', hd', rfl⟩ := enumD_get ds 0 i d hd
    obtain ⟨v, hv, rv⟩ := r.get hd'
    have e := hy xs (s5.sub.seq (h F' s1))
    rw [hv] at e
    cases e
    obtain ⟨t1, x1⟩ := s5.newF (o := .tup [.int (i : Nat), y]) hT
    refine ⟨_, x1, t1, .tup upd_same (.cons ?_ (.cons (Rep.ext x1 (Rep.mono s1 p _ _ rv)) .nil))⟩
    rw [Nat.zero_add]
    exact .int _
end

section
variable {X : Cx} {M : Md → Prop} {W : WX} {N : List Str} {sc : Scope} {k : Nat} {fl lb : Bool} {e a b tg : Expr} {es : List Expr} {pos p : Pos} {x : Str}
theorem PI.or {X : Cx} {tg it : Expr} {w1 w2 : TI} (h1 : PI X tg it w1) (h2 : PI X tg it w2) : PI X tg it (fun σ H R => w1 σ H R ∨ w2 σ H R) := ⟨fun pins s σ H R I h => by
  rcases h with h | h
  · exact h1.run pins s σ H R I h
  · exact h2.run pins s σ H R I h⟩
theorem di_seq {ia : IE} (ha : DE X M W a (semE ia)) : DI X M W tg a (semI (.seq ia)) := by
  obtain ⟨ta, pa, ha⟩ := ha
  refine ⟨fun σ H R => iList X.K ta σ H R ∨ iTup X.K ta σ H R, fun m hm => PI.or (pi_list (pa m hm)) (pi_tup (pa m hm)), fun ρ sto σ F H as Rr s5 he h => ?_⟩
  simp only [semI] at h
  have h := h.bind
  cases hh : semE ia ρ sto with
  | bad => rw [hh] at h; exact h.elim
  | ex x s =>
    rw [hh] at h
    refine .inl (ha ρ sto σ F H as _ s5 he ?_)
    rw [hh]
    exact h
  | ok d s =>
    rw [hh] at h
    cases d with
    | lst ds =>
      refine .inl (ha ρ sto σ F H as _ s5 he ?_)
      rw [hh]
      intro F1 H1 as1 e1 t1 v rv
      have h1 := h F1 H1 as1 e1 t1
      cases rv with
      | lst hF r => exact ⟨_, rfl, ⟨_, .of (t1.sub _ _ hF)⟩, h1.ok0 t1 _ (itR_list (fun F' s' => .of (s' _ _ hF)) r)⟩
    | scr ns =>
      refine .inl (ha ρ sto σ F H as _ s5 he ?_)
      rw [hh]
      intro F1 H1 as1 e1 t1 v rv
      have h1 := h F1 H1 as1 e1 t1
      cases rv with
      | scr hF => exact ⟨_, rfl, ⟨_, t1.sub.seq hF⟩, h1.ok0 t1 _ (itR_list (fun F' s' => s'.seq hF) (repInts ns))⟩
    | tup ds =>
      refine .inr (ha ρ sto σ F H as _ s5 he ?_)
      rw [hh]
      intro F1 H1 as1 e1 t1 v rv
      have h1 := h F1 H1 as1 e1 t1
      cases rv with
      | tup hF r => exact ⟨_, rfl, ⟨_, .of (t1.sub _ _ hF)⟩, h1.ok0 t1 _ (itR_tup hF r)⟩
    | _ =>
      refine .inl (ha ρ sto σ F H as _ s5 he ?_)
      rw [hh]
      intro F1 H1 as1 e1 t1 v rv
      exact (h F1 H1 as1 e1 t1).elim
theorem di_range1 {ia : IE} (c : CtxM X M W N sc k fl lb) (hg : sc.names.lookup ("range" : Str) = some .globalImplicit) (hs : isStar a = false) (ha : DE X M W a (semE ia)) : DI X M W tg (.Call (.Name "range" p) [a] [] pos) (semI (.range1 ia)) := by
  obtain ⟨ta, pa, ha⟩ := ha
  refine ⟨iRng1 (tCons ta tNil), fun m hm => pi_range1 (gl_of (c m hm) hg) ((c m hm).bi _ (by decide +kernel)) (pa_cons (pa m hm) pa_nil (star_cons hs)) (star_cons hs), fun ρ sto σ F H as Rr s5 he h => ?_⟩
  simp only [semI] at h
  refine ha ρ sto σ F H as _ s5 he (h.bind.imp fun x s1 F1 H1 as1 e1 t1 h1 v rv => ?_)
  cases rv with
  | int j =>
    obtain ⟨hj, h1⟩ := fin_if h1
    exact ⟨j, rfl, hj.1, hj.2, h1.ok0 t1 _ itR_range⟩
  | _ => exact h1.elim
theorem di_range2 {ia ib : IE} (c : CtxM X M W N sc k fl lb) (hg : sc.names.lookup ("range" : Str) = some .globalImplicit) (hs : isStar a = false) (hs2 : isStar b = false) (ha : DE X M W a (semE ia)) (hb : DE X M W b (semE ib)) :
    DI X M W tg (.Call (.Name "range" p) [a, b] [] pos) (semI (.range2 ia ib)) := by
  obtain ⟨ta, pa, ha⟩ := ha
  obtain ⟨tb, pb, hb⟩ := hb
  refine ⟨iRng2 (tCons ta (tCons tb tNil)), fun m hm => pi_range2 (gl_of (c m hm) hg) ((c m hm).bi _ (by decide +kernel)) (pa_cons (pa m hm) (pa_cons (pb m hm) pa_nil (star_cons hs2)) (star_cons hs)) (by rw [star_cons hs, star_cons hs2]; rfl) (star_cons hs2), fun ρ sto σ F H as Rr s5 he h => ?_⟩
  simp only [semI] at h
  refine ha ρ sto σ F H as _ s5 he (h.bind.imp fun x s1 F1 H1 as1 e1 t1 h1 v rv => ?_)
  refine hb ρ s1 σ F1 H1 as1 _ t1 (he.ext e1) (h1.bind.imp fun y s2 F2 H2 as2 e2 t2 h2 w rw' => ?_)
  cases rv with
  | int i =>
    cases rw' with
    | int j =>
      obtain ⟨hj, h2⟩ := fin_if h2
      exact ⟨i, j, rfl, ⟨hj.1.1, hj.1.2, hj.2.1, hj.2.2⟩, h2.ok0 t2 _ itR_range⟩
    | _ => exact h2.elim
  | _ => exact h2.elim
theorem di_range3 {ia ib ic : IE} {cc : Expr} (c : CtxM X M W N sc k fl lb) (hg : sc.names.lookup ("range" : Str) = some .globalImplicit) (hs : isStar a = false) (hs2 : isStar b = false) (hs3 : isStar cc = false) (ha : DE X M W a (semE ia)) (hb : DE X M W b (semE ib)) (hc : DE X M W cc (semE ic)) :
    DI X M W tg (.Call (.Name "range" p) [a, b, cc] [] pos) (semI (.range3 ia ib ic)) := by
  obtain ⟨ta, pa, ha⟩ := ha
  obtain ⟨tb, pb, hb⟩ := hb
  obtain ⟨tc, pc, hc⟩ := hc
  refine ⟨iRng3 (tCons ta (tCons tb (tCons tc tNil))), fun m hm => pi_range3 (gl_of (c m hm) hg) ((c m hm).bi _ (by decide +kernel)) (pa_cons (pa m hm) (pa_cons (pb m hm) (pa_cons (pc m hm) pa_nil (star_cons hs3)) (star_cons hs2)) (star_cons hs)) ?_ ?_, fun ρ sto σ F H as Rr s5 he h => ?_⟩
  · first | (rw [star_cons hs, star_cons hs2, star_cons hs3]; rfl) | exact star_cons hs
  · first | (rw [star_cons hs2, star_cons hs3]; rfl) | (exact star_back (by show (!isStar b && (!isStar cc && true)) = true; rw [hs2, hs3]; rfl))
  simp only [semI] at h
  refine ha ρ sto σ F H as _ s5 he (h.bind.imp fun x s1 F1 H1 as1 e1 t1 h1 v rv => ?_)
  refine hb ρ s1 σ F1 H1 as1 _ t1 (he.ext e1) (h1.bind.imp fun y s2 F2 H2 as2 e2 t2 h2 w rw' => ?_)
  refine hc ρ s2 σ F2 H2 as2 _ t2 ((he.ext e1).ext e2) (h2.bind.imp fun z s3 F3 H3 as3 e3 t3 h3 u ru => ?_)
  cases rv with
  | int i =>
    cases rw' with
    | int j =>
      cases ru with
      | int l =>
        obtain ⟨hj, h3⟩ := fin_if h3
        obtain ⟨hi, hj, rfl⟩ := hj
        exact ⟨i, j, -1, _, rfl, RgC.neg hi.1 hi.2 hj.1 hj.2, h3.ok0 t3 _ itR_rangeC⟩
      | _ => exact h3.elim
    | _ => exact h3.elim
  | _ => exact h3.elim
theorem di_enum {ia : IE} {elts : List Expr} {kk : Nat} {tpos : Pos} (c : CtxM X M W N sc k fl lb) (hg : sc.names.lookup ("enumerate" : Str) = some .globalImplicit) (hs : isStar a = false) (ha : DE X M W a (semE ia)) : DI X M W (.Tuple elts kk tpos) (.Call (.Name "enumerate" p) [a] [] pos) (semI (.enum ia)) := by
  obtain ⟨ta, pa, ha⟩ := ha
  refine ⟨iEnum X.K (tCons ta tNil), fun m hm => pi_enum (gl_of (c m hm) hg) ((c m hm).bi _ (by decide +kernel)) (pa_cons (pa m hm) pa_nil (star_cons hs)) (star_cons hs), fun ρ sto σ F H as Rr s5 he h => ?_⟩
  simp only [semI] at h
  refine ha ρ sto σ F H as _ s5 he (h.bind.imp fun x s1 F1 H1 as1 e1 t1 h1 v rv => ?_)
  cases rv with
  | lst hF r => exact ⟨_, _, rfl, .of (t1.sub _ _ hF), h1.ok0 t1 _ (itR_enum (fun F' s' => .of (s' _ _ hF)) r)⟩
  | scr hF => exact ⟨_, _, rfl, t1.sub.seq hF, h1.ok0 t1 _ (itR_enum (fun F' s' => s'.seq hF) (repInts _))⟩
  | _ => exact h1.elim
end
end DV

namespace DV
open PySem PySem.Spec PyProof.Rows L2

/-! ### blocks of comprehensions -/
def blkM (X : Cx) (M : Md → Prop) (scope : Scope) : Md → Prop := fun m' => ∃ m, M m ∧ ∃ (s : Shared) (H : Hp) (C : Addr) (cl : List (Str × Addr)) (fp : List Addr),
  m' = ⟨s, H, compEnvC scope cl C m.env, m.stack, fp, fun x => scope.names.lookup x == some .cell, [], fun _ _ => False, m.A, m.stack⟩
theorem CtxM.blk {X : Cx} {M : Md → Prop} {W : WX} {N : List Str} {sc : Scope} {k : Nat} {fl lb : Bool} {scope : Scope} (c : CtxM X M W N sc k fl lb) (hk : scope.kind = .function) : CtxM X (blkM X M scope) (fun _ _ _ _ => False) N (relS scope sc) k false lb := by
  rintro m' ⟨m, hm, s, H, C, cl, fp, rfl⟩
  exact Ctx.blk (c m hm) s H scope hk C cl fp
section
variable {K : PySem.W.Frag} {mg : Str → Option Value} {F H : Hp} {as : List Addr} {sto : Sto}
theorem St5.other {p : Addr} {o : HO} (s : St5 K F H as sto) (h1 : F p = none) (h2 : p ∉ as) (h3 : H p = none ∨ ∃ xs, H p = some (.lst xs)) : St5 K F (upd H p o) as sto where
  tab := tabs_upd s.tab h3
  nof := s.nof
  sub := fun b u e => by
    rw [upd_ne (ne_of_none e h1)]
    exact s.sub b u e
  len := s.len
  nd := s.nd
  cell := fun n a c e1 e2 => (s.cell n a c e1 e2).mono (Same.refl F) (Pre.refl _) (fun ds hc => by subst hc; exact (s.cell n a _ e1 e2).1) fun u hu => by
    have ha : a ≠ p := fun z => h2 (by rw [← z]; exact List.mem_of_getElem? e1)
    rw [upd_ne ha]
    exact hu
theorem Ext.other {F0 H0 : Hp} {as0 : List Addr} {p : Addr} {o : HO} (x : Ext F0 H0 as0 F H as) (h : H0 p = none) : Ext F0 H0 as0 F (upd H p o) as :=
  ⟨x.fz, fun b u e1 e2 e3 => by
    obtain ⟨q1, q2, q3⟩ := x.oth b u e1 e2 e3
    exact ⟨by rw [upd_ne (ne_of_none e1 h)]; exact q1, q2, q3⟩, x.pre⟩
/-- a list that was being filled is data from now on -/
theorem St5.adopt {F0 H0 : Hp} {as0 : List Addr} {p : Addr} {xs : List V} (s : St5 K F H as sto) (x : Ext F0 H0 as0 F H as) (h0 : H0 p = none) (h : H p = some (.lst xs)) (h1 : F p = none) (h2 : p ∉ as) :
    St5 K (upd F p (.lst xs)) H as sto ∧ Ext F0 H0 as0 (upd F p (.lst xs)) H as := by
  have sF : Same F (upd F p (.lst xs)) := same_upd h1
  refine ⟨⟨fun b u e => ?_, s.len, s.nd, s.tab, s.nof.upd (fun ps z => by cases z), fun n a c e1 e2 => (s.cell n a c e1 e2).mono sF (Pre.refl _) (fun ds hc => ?_) fun u hu => hu⟩, ⟨x.fz.trans sF, fun b u e1 e2 e3 => ?_, x.pre⟩⟩
  · by_cases hb : b = p
    · subst hb
      rw [upd_same] at e
      rw [h]
      exact e
    · rw [upd_ne hb] at e
      exact s.sub b u e
  · subst hc
    have ha : a ≠ p := fun z => h2 (by rw [← z]; exact List.mem_of_getElem? e1)
    rw [upd_ne ha]
    exact (s.cell n a _ e1 e2).1
  · obtain ⟨q1, q2, q3⟩ := x.oth b u e1 e2 e3
    exact ⟨q1, by rw [upd_ne (ne_of_none e1 h0)]; exact q2, q3⟩
/-- .. a list of the store from now on -/
theorem St5.adoptC {F0 H0 : Hp} {as0 : List Addr} {p : Addr} {xs : List V} {ds : List D} (s : St5 K F H as sto) (x : Ext F0 H0 as0 F H as) (h0 : H0 p = none) (h : H p = some (.lst xs)) (h1 : F p = none) (h2 : p ∉ as) (r : RepAll K F as xs ds) :
    St5 K F H (as ++ [p]) (sto ++ [.lst ds]) ∧ Ext F0 H0 as0 F H (as ++ [p]) ∧ (as ++ [p])[sto.length]? = some p := by
  have hp := Pre.app as [p]
  refine ⟨⟨s.sub, by rw [List.length_append, List.length_append, s.len]; rfl, ?_, s.tab, s.nof, fun n a c e1 e2 => ?_⟩, ⟨x.fz, fun b u e1 e2 e3 => ?_, x.pre.trans hp⟩, ?_⟩
  · refine List.nodup_append.mpr ⟨s.nd, by simp, fun a ha b hb e => ?_⟩
    rw [List.mem_singleton] at hb
    exact h2 (by rw [← hb, ← e]; exact ha)
  · by_cases hlt : n < as.length
    · rw [List.getElem?_append_left hlt] at e1
      rw [List.getElem?_append_left (by rw [← s.len]; exact hlt)] at e2
      refine (s.cell n a c e1 e2).mono (Same.refl F) hp (fun ds hc => ?_) fun u hu => hu
      subst hc
      exact (s.cell n a _ e1 e2).1
    · have hn2 : n = as.length := by
        have := (List.getElem?_eq_some_iff.mp e1).1
        rw [List.length_append, List.length_singleton] at this
        omega
      subst hn2
      rw [List.getElem?_append_right (Nat.le_refl _), Nat.sub_self] at e1
      rw [s.len, List.getElem?_append_right (Nat.le_refl _), Nat.sub_self] at e2
      cases e1
      cases e2
      exact ⟨h1, xs, h, RepAll.mono (Same.refl F) hp _ _ r⟩
  · obtain ⟨q1, q2, q3⟩ := x.oth b u e1 e2 e3
    refine ⟨q1, q2, fun z => ?_⟩
    rcases List.mem_append.mp z with z | z
    · exact q3 z
    · exact ne_of_none e1 h0 (List.mem_singleton.mp z)
  · rw [← s.len, List.getElem?_append_right (Nat.le_refl _), Nat.sub_self]
    rfl
theorem EnvR.wipe {σ : L2.St} {ρ : Env} (h : EnvR K F as σ ρ) : ∀ vs : List Nat, EnvR K F as (L2.wipe σ vs) (wipeE ρ vs)
  | [] => h
  | v :: vs => by
    unfold L2.wipe wipeE
    exact (EnvR.wipe h vs).del
theorem wipe_at {σ : L2.St} {j : Nat} : ∀ {vs : List Nat}, j ∈ vs → j < σ.length → (L2.wipe σ vs)[j]? = some none
  | v :: vs, h, hl => by
    unfold L2.wipe
    by_cases hj : v = j
    · subst hj
      rw [List.getElem?_set_self (by rw [wipe_length]; exact hl)]
    · rw [List.getElem?_set_ne hj]
      rcases List.mem_cons.mp h with z | z
      · exact absurd z.symm hj
      · exact wipe_at z hl
theorem wipe_away {σ σ' : L2.St} {ts vs : List Nat} (h : Away (L2.wipe σ vs) σ' ts) (hs : ∀ j ∈ ts, j ∈ vs) : L2.wipe σ' vs = L2.wipe σ vs := by
  have hl : σ'.length = σ.length := by rw [h.1, wipe_length]
  apply List.ext_getElem?
  intro j
  by_cases hj : j ∈ vs
  · by_cases hlt : j < σ.length
    · rw [wipe_at hj (by rw [hl]; exact hlt), wipe_at hj hlt]
    · rw [List.getElem?_eq_none (by rw [wipe_length, hl]; omega), List.getElem?_eq_none (by rw [wipe_length]; omega)]
  · rw [wipe_out hj, h.2 j (fun z => hj (hs j z))]
end

/-- what a list that was filled is worth -/
theorem fin_adopt {K : PySem.W.Frag} {mg : Str → Option Value} {W : WX} {σ : L2.St} {F0 H0 F H : Hp} {as0 as : List Addr} {sto : Sto} {m : Bool} {p : Addr} {xs : List V} {ds : List D} {Q : VK}
    (s : St5 K F H as sto) (x : Ext F0 H0 as0 F H as) (h0 : H0 p = none) (hp : H p = some (.lst xs)) (h1 : F p = none) (h2 : p ∉ as) (r : RepAll K F as xs ds)
    (h : Fin K mg W σ F0 H0 as0 (newL m ds sto) (fun d _ F' H' as' => ∀ v, Rep K F' as' v d → Q v H')) : Q (.ref p) H := by
  unfold newL at h
  cases m with
  | true =>
    obtain ⟨s', x', a⟩ := s.adoptC x h0 hp h1 h2 r
    exact h _ _ _ x' s' _ (.obj a)
  | false =>
    obtain ⟨s', x'⟩ := s.adopt x h0 hp h1 h2
    exact h _ _ _ x' s' _ (.lst upd_same (RepAll.mono (same_upd h1) (Pre.refl _) _ _ r))

section
variable {X : Cx} {M M' : Md → Prop} {W W0 : WX}
/-- the meaning of the parts of a comprehension -/
def SemI (X : Cx) (W : WX) (wi : TI) (f : Env → Sto → R (List D)) : Prop := ∀ (ρ : Env) (sto : Sto) (σ : L2.St) (F H : Hp) (as : List Addr) (Rr : It → Hp → Prop), St5 X.K F H as sto → EnvR X.K F as σ ρ →
  Fin X.K X.mg W σ F H as (f ρ sto) (fun ds _ F1 H1 as1 => ∀ J, ItR X.K F1 as1 J ds → Rr J H1) → wi σ H Rr
def SemG (X : Cx) (g : TG) (t : Tg) : Prop := ∀ (d : D) (ρ ρ' : Env) (v : V) (σ : L2.St) (F H : Hp) (as : List Addr) (Q : L2.St → Hp → Prop), Same F H → EnvR X.K F as σ ρ → Rep X.K F as v d → tgSem t d ρ = some ρ' →
  (∀ σ', EnvR X.K F as σ' ρ' → Away σ σ' (tgSlots t) → Q σ' H) → g v σ H Q
def SemT (X : Cx) (W : WX) (t : TT) (f : Env → Sto → R Bool) : Prop := ∀ (ρ : Env) (sto : Sto) (σ : L2.St) (F H : Hp) (as : List Addr) (Q : Bool → Hp → Prop), St5 X.K F H as sto → EnvR X.K F as σ ρ →
  Fin X.K X.mg W σ F H as (f ρ sto) (fun b _ _ H' _ => Q b H') → t σ H Q
def SemE (X : Cx) (W : WX) (t : TE) (f : Env → Sto → R D) : Prop := ∀ (ρ : Env) (sto : Sto) (σ : L2.St) (F H : Hp) (as : List Addr) (Q : VK), St5 X.K F H as sto → EnvR X.K F as σ ρ →
  Fin X.K X.mg W σ F H as (f ρ sto) (fun d _ F' H' as' => ∀ v, Rep X.K F' as' v d → Q v H') → t σ H Q
/-- the element of a comprehension -/
def lcEl (tg : Tg) (vs : List Nat) (fc : Env → Sto → R Bool) (fe : Env → Sto → R D) (ρ : Env) : D → Sto → R (Option D) := fun x s2 => match tgSem tg x (wipeE ρ vs) with
  | some ρ1 => (fc ρ1 s2).bind fun k s3 => if k = true then (fe ρ1 s3).bind fun d s4 => .ok (some d) s4 else .ok none s3
  | none => .bad
theorem lcGo_nil (el : D → Sto → R (Option D)) (s : Sto) (acc : List D) : lcGo el [] s acc = .ok acc s := rfl
theorem lcGo_cons (el : D → Sto → R (Option D)) (x : D) (xs : List D) (s : Sto) (acc : List D) : lcGo el (x :: xs) s acc = (match el x s with
    | .ok (some d) s1 => lcGo el xs s1 (acc ++ [d])
    | .ok none s1 => lcGo el xs s1 acc
    | _ => .bad) := rfl
def LcInv (X : Cx) (el : D → Sto → R (Option D)) (xs : List D) (s1 : Sto) (F1 H1 : Hp) (as1 : List Addr) (Dd : Addr) (i : Nat) (H' : Hp) : Prop := ∃ s' F' as' acc vd, i ≤ xs.length ∧ Ext F1 H1 as1 F' H' as' ∧ St5 X.K F' H' as' s' ∧
  H' Dd = some (.lst vd) ∧ F' Dd = none ∧ Dd ∉ as' ∧ RepAll X.K F' as' vd acc ∧ acc.length ≤ i ∧ lcGo el xs s1 [] = lcGo el (xs.drop i) s' acc
theorem lc_sem {wi : TI} {g : TG} {tt : TT} {te : TE} {tg : Tg} {vs : List Nat} {fi : Env → Sto → R (List D)} {fc : Env → Sto → R Bool} {fe : Env → Sto → R D} {m : Bool}
    (hi : SemI X W wi fi) (hg : SemG X g tg) (ht : SemT X W0 tt fc) (he : SemE X W0 te fe) (hsl : ∀ j ∈ tgSlots tg, j ∈ vs) :
    SemE X W (tLc wi g tt te vs) (fun ρ s => (fi ρ s).bind fun xs s1 => if xs.length ≤ sizeLine then (lcGo (lcEl tg vs fc fe ρ) xs s1 []).bind fun ds s2 => newL m ds s2 else .bad) := by
  intro ρ sto σ F H as Q s5 hE h
  refine hi ρ sto σ F H as _ s5 hE (h.bind.imp fun xs s1 F1 H1 as1 e1 t1 h1 J hJ Dd hD => ?_)
  obtain ⟨hl, h1⟩ := fin_if h1
  have hE1 := hE.ext e1
  refine ⟨fun i m' H' => m' = xs.length - i ∧ LcInv X (lcEl tg vs fc fe ρ) xs s1 F1 H1 as1 Dd i H', ⟨xs.length, by simp, s1, F1, as1, [], [], Nat.zero_le _, ?_, ?_, upd_same, t1.fn hD, t1.nin hD, .nil, Nat.zero_le _, by simp⟩, ?_⟩
  · exact (Ext.refl _ _ _).other hD
  · exact t1.other (t1.fn hD) (t1.nin hD) (.inl hD)
  rintro i m' H' ⟨rfl, s', F', as', acc, vd, hi', x', t', hH', hF', hn', ra, hacc, heq⟩
  have hnb : lcGo (lcEl tg vs fc fe ρ) (xs.drop i) s' acc ≠ .bad := fun z => by
    rw [heq, z] at h1
    exact h1.elim
  by_cases hlt : i < xs.length
  · refine .inr ⟨hJ.go i F' H' x'.fz t'.sub hlt, LcInv X (lcEl tg vs fc fe ρ) xs s1 F1 H1 as1 Dd (i + 1), fun H2 q => ⟨xs.length - (i + 1), by omega, rfl, q⟩, fun y H2 hy => ?_⟩
    have hx : xs[i]? = some xs[i] := List.getElem?_eq_getElem hlt
    obtain ⟨F2, x2, t2, ry⟩ := hJ.yld i F' H' as' s' y H2 _ x'.fz x'.pre t' hy hx
    have hdrop : xs.drop i = xs[i] :: xs.drop (i + 1) := List.drop_eq_getElem_cons hlt
    rw [hdrop] at heq hnb
    rw [lcGo_cons] at heq hnb
    -- the element's answer
    have hE2 : EnvR X.K F2 as' (L2.wipe σ vs) (wipeE ρ vs) := ((hE1.ext x').ext x2).wipe vs
    obtain ⟨d2, f2, n2⟩ := x2.oth _ _ hH' hF' hn'
    cases hq : tgSem tg xs[i] (wipeE ρ vs) with
    | none =>
      have z : lcEl tg vs fc fe ρ xs[i] s' = .bad := by unfold lcEl; rw [hq]
      rw [z] at hnb
      exact absurd rfl hnb
    | some ρ1 =>
      refine hg _ _ ρ1 y _ F2 H2 as' _ t2.sub hE2 ry hq fun σ2 he2 aw => ⟨wipe_away aw hsl, ?_⟩
      have zel : lcEl tg vs fc fe ρ xs[i] s' = (fc ρ1 s').bind fun k s3 => if k = true then (fe ρ1 s3).bind fun d s4 => .ok (some d) s4 else .ok none s3 := by unfold lcEl; rw [hq]
      rw [zel] at heq hnb
      refine ht ρ1 s' σ2 F2 H2 as' _ t2 he2 ?_
      cases hc : fc ρ1 s' with
      | bad => rw [hc] at hnb; exact absurd rfl hnb
      | ex x s => rw [hc] at hnb; exact absurd rfl hnb
      | ok b s3 =>
        rw [hc, R.bind_ok] at heq hnb
        intro F3 H3 as3 x3 t3
        obtain ⟨d3, f3, n3⟩ := x3.oth _ _ d2 f2 n2
        have xx3 := (x'.trans x2).trans x3
        cases b with
        | false =>
          rw [if_neg Bool.false_ne_true] at heq hnb ⊢
          exact ⟨s3, F3, as3, acc, vd, hlt, xx3, t3, d3, f3, n3, RepAll.ext x3 (RepAll.ext x2 ra), by omega, heq⟩
        | true =>
          rw [if_pos rfl] at heq hnb ⊢
          refine he ρ1 s3 σ2 F3 H3 as3 _ t3 (he2.ext x3) ?_
          cases hv : fe ρ1 s3 with
          | bad => rw [hv] at hnb; exact absurd rfl hnb
          | ex x s => rw [hv] at hnb; exact absurd rfl hnb
          | ok d s4 =>
            rw [hv, R.bind_ok] at heq hnb
            intro F4 H4 as4 x4 t4 w rw'
            obtain ⟨d4, f4, n4⟩ := x4.oth _ _ d3 f3 n3
            have ra4 : RepAll X.K F4 as4 vd acc := RepAll.ext x4 (RepAll.ext x3 (RepAll.ext x2 ra))
            refine ⟨vd, d4, by rw [ra4.len]; omega, s4, F4, as4, acc ++ [d], vd ++ [w], hlt, (xx3.trans x4).other hD, t4.other f4 n4 (.inr ⟨_, d4⟩), upd_same, f4, n4, ra4.append (.cons rw' .nil), ?_, heq⟩
            rw [List.length_append, List.length_singleton]
            omega
  · have hd : xs.drop i = [] := List.drop_eq_nil_of_le (by omega)
    rw [hd] at heq
    rw [lcGo_nil] at heq
    rw [heq, R.bind_ok] at h1
    refine .inl ⟨hJ.stop i F' H' x'.fz t'.sub (by omega), ?_⟩
    exact fin_adopt t' x' hD hH' hF' hn' ra h1
def lc2El (tg1 : Tg) (vs1 : List Nat) (fe : Env → Sto → R D) (ρ1 : Env) : D → Sto → R (Option D) := fun y s4 => match tgSem tg1 y (wipeE ρ1 vs1) with
  | some ρ2 => (fe ρ2 s4).bind fun d s5 => .ok (some d) s5
  | none => .bad
def lc2In (tg : Tg) (vs : List Nat) (fi1 : Env → Sto → R (List D)) (tg1 : Tg) (vs1 : List Nat) (fe : Env → Sto → R D) (ρ : Env) : D → Sto → List D → R (List D) := fun x s2 acc => match tgSem tg x (wipeE ρ vs) with
  | some ρ1 => (fi1 ρ1 s2).bind fun ys s3 => if acc.length + ys.length ≤ sizeLine then lcGo (lc2El tg1 vs1 fe ρ1) ys s3 acc else .bad
  | none => .bad
theorem lc2Go_nil (f : D → Sto → List D → R (List D)) (s : Sto) (acc : List D) : lc2Go f [] s acc = .ok acc s := rfl
theorem lc2Go_cons (f : D → Sto → List D → R (List D)) (x : D) (xs : List D) (s : Sto) (acc : List D) : lc2Go f (x :: xs) s acc = (match f x s acc with
    | .ok acc1 s1 => lc2Go f xs s1 acc1
    | _ => .bad) := rfl
def Lc2Inv (X : Cx) (f : D → Sto → List D → R (List D)) (xs : List D) (s1 : Sto) (F1 H1 : Hp) (as1 : List Addr) (Dd : Addr) (i : Nat) (H' : Hp) : Prop := ∃ s' F' as' acc vd, i ≤ xs.length ∧ Ext F1 H1 as1 F' H' as' ∧ St5 X.K F' H' as' s' ∧
  H' Dd = some (.lst vd) ∧ F' Dd = none ∧ Dd ∉ as' ∧ RepAll X.K F' as' vd acc ∧ lc2Go f xs s1 [] = lc2Go f (xs.drop i) s' acc
def Lc2Inn (X : Cx) (el : D → Sto → R (Option D)) (ys : List D) (s3 : Sto) (acc0 : List D) (F0 H0 : Hp) (as0 : List Addr) (F1 H1 : Hp) (as1 : List Addr) (Dd : Addr) (j : Nat) (H' : Hp) : Prop := ∃ s' F' as' acc vd, j ≤ ys.length ∧ Ext F1 H1 as1 F' H' as' ∧ Same F0 F' ∧ Pre as0 as' ∧ St5 X.K F' H' as' s' ∧
  H' Dd = some (.lst vd) ∧ F' Dd = none ∧ Dd ∉ as' ∧ RepAll X.K F' as' vd acc ∧ acc.length ≤ acc0.length + j ∧ lcGo el ys s3 acc0 = lcGo el (ys.drop j) s' acc
theorem lc2_sem {wi wi1 : TI} {g g1 : TG} {te : TE} {tg tg1 : Tg} {vs vs1 : List Nat} {fi fi1 : Env → Sto → R (List D)} {fe : Env → Sto → R D} {m : Bool}
    (hi : SemI X W wi fi) (hg : SemG X g tg) (hi1 : SemI X W0 wi1 fi1) (hg1 : SemG X g1 tg1) (he : SemE X W0 te fe) (hsl : ∀ j ∈ tgSlots tg, j ∈ vs) (hsl1 : ∀ j ∈ tgSlots tg1, j ∈ vs1) :
    SemE X W (tLc2 wi g tYes wi1 g1 tYes te vs vs1) (fun ρ s => (fi ρ s).bind fun xs s1 => (lc2Go (lc2In tg vs fi1 tg1 vs1 fe ρ) xs s1 []).bind fun ds s2 => newL m ds s2) := by
  intro ρ sto σ F H as Q s5 hE h
  refine hi ρ sto σ F H as _ s5 hE (h.bind.imp fun xs s1 F1 H1 as1 e1 t1 h1 J hJ Dd hD => ?_)
  have hE1 := hE.ext e1
  refine ⟨fun i m' H' => m' = xs.length - i ∧ Lc2Inv X (lc2In tg vs fi1 tg1 vs1 fe ρ) xs s1 F1 H1 as1 Dd i H', ⟨xs.length, by simp, s1, F1, as1, [], [], Nat.zero_le _, ?_, ?_, upd_same, t1.fn hD, t1.nin hD, .nil, by simp⟩, ?_⟩
  · exact (Ext.refl _ _ _).other hD
  · exact t1.other (t1.fn hD) (t1.nin hD) (.inl hD)
  rintro i m' H' ⟨rfl, s', F', as', acc, vd, hi', x', t', hH', hF', hn', ra, heq⟩
  have hnb : lc2Go (lc2In tg vs fi1 tg1 vs1 fe ρ) (xs.drop i) s' acc ≠ .bad := fun z => by
    rw [heq, z] at h1
    exact h1.elim
  by_cases hlt : i < xs.length
  · refine .inr ⟨hJ.go i F' H' x'.fz t'.sub hlt, Lc2Inv X (lc2In tg vs fi1 tg1 vs1 fe ρ) xs s1 F1 H1 as1 Dd (i + 1), fun H2 q => ⟨xs.length - (i + 1), by omega, rfl, q⟩, fun y H2 hy => ?_⟩
    have hx : xs[i]? = some xs[i] := List.getElem?_eq_getElem hlt
    obtain ⟨F2, x2, t2, ry⟩ := hJ.yld i F' H' as' s' y H2 _ x'.fz x'.pre t' hy hx
    have hdrop : xs.drop i = xs[i] :: xs.drop (i + 1) := List.drop_eq_getElem_cons hlt
    rw [hdrop] at heq hnb
    rw [lc2Go_cons] at heq hnb
    have hE2 : EnvR X.K F2 as' (L2.wipe σ vs) (wipeE ρ vs) := ((hE1.ext x').ext x2).wipe vs
    obtain ⟨d2, f2, n2⟩ := x2.oth _ _ hH' hF' hn'
    cases hq : tgSem tg xs[i] (wipeE ρ vs) with
    | none =>
      have z : lc2In tg vs fi1 tg1 vs1 fe ρ xs[i] s' acc = .bad := by unfold lc2In; rw [hq]
      rw [z] at hnb
      exact absurd rfl hnb
    | some ρ1 =>
      refine hg _ _ ρ1 y _ F2 H2 as' _ t2.sub hE2 ry hq fun σ2 he2 aw => ⟨wipe_away aw hsl, ?_⟩
      simp only [tYes, ↓reduceIte]
      have zel : lc2In tg vs fi1 tg1 vs1 fe ρ xs[i] s' acc = (fi1 ρ1 s').bind fun ys s3 => if acc.length + ys.length ≤ sizeLine then lcGo (lc2El tg1 vs1 fe ρ1) ys s3 acc else .bad := by unfold lc2In; rw [hq]
      rw [zel] at heq hnb
      refine hi1 ρ1 s' σ2 F2 H2 as' _ t2 he2 ?_
      cases hc : fi1 ρ1 s' with
      | bad => rw [hc] at hnb; exact absurd rfl hnb
      | ex x s => rw [hc] at hnb; exact absurd rfl hnb
      | ok ys s3 =>
        rw [hc, R.bind_ok] at heq hnb
        intro F3 H3 as3 x3 t3 J1 hJ1
        obtain ⟨d3, f3, n3⟩ := x3.oth _ _ d2 f2 n2
        have xx3 := (x'.trans x2).trans x3
        by_cases hsz : acc.length + ys.length ≤ sizeLine
        case neg => rw [if_neg hsz] at hnb; exact absurd rfl hnb
        rw [if_pos hsz] at heq hnb
        refine ⟨fun j k' H' => k' = ys.length - j ∧ Lc2Inn X (lc2El tg1 vs1 fe ρ1) ys s3 acc F3 H3 as3 F1 H1 as1 Dd j H', ⟨ys.length, by simp, s3, F3, as3, acc, vd, Nat.zero_le _, xx3, Same.refl _, Pre.refl _, t3, d3, f3, n3, RepAll.ext x3 (RepAll.ext x2 ra), by omega, by simp⟩, ?_⟩
        rintro j k' H4 ⟨rfl, s4, F4, as4, acc4, vd4, hj, x4, sm4, pr4, t4, hH4, hF4, hn4, ra4, hacc4, heq4⟩
        have hnb4 : lcGo (lc2El tg1 vs1 fe ρ1) (ys.drop j) s4 acc4 ≠ .bad := fun z => by
          rw [heq4, z] at hnb
          exact hnb rfl
        by_cases hjt : j < ys.length
        · refine .inr ⟨hJ1.go j F4 H4 sm4 t4.sub hjt, Lc2Inn X (lc2El tg1 vs1 fe ρ1) ys s3 acc F3 H3 as3 F1 H1 as1 Dd (j + 1), fun H5 q => ⟨ys.length - (j + 1), by omega, rfl, q⟩, fun w H5 hw => ?_⟩
          have hyj : ys[j]? = some ys[j] := List.getElem?_eq_getElem hjt
          obtain ⟨F5, x5, t5, rw5⟩ := hJ1.yld j F4 H4 as4 s4 w H5 _ sm4 pr4 t4 hw hyj
          have hdr : ys.drop j = ys[j] :: ys.drop (j + 1) := List.drop_eq_getElem_cons hjt
          rw [hdr] at heq4 hnb4
          rw [lcGo_cons] at heq4 hnb4
          have he4 : EnvR X.K F4 as4 σ2 ρ1 := he2.mono (x3.fz.trans sm4) (x3.pre.trans pr4)
          have hE5 : EnvR X.K F5 as4 (L2.wipe σ2 vs1) (wipeE ρ1 vs1) := (he4.ext x5).wipe vs1
          obtain ⟨d5, f5, n5⟩ := x5.oth _ _ hH4 hF4 hn4
          cases hq1 : tgSem tg1 ys[j] (wipeE ρ1 vs1) with
          | none =>
            have z : lc2El tg1 vs1 fe ρ1 ys[j] s4 = .bad := by unfold lc2El; rw [hq1]
            rw [z] at hnb4
            exact absurd rfl hnb4
          | some ρ2 =>
            refine hg1 _ _ ρ2 w _ F5 H5 as4 _ t5.sub hE5 rw5 hq1 fun σ3 he3 aw3 => ⟨wipe_away aw3 hsl1, ?_⟩
            have z : lc2El tg1 vs1 fe ρ1 ys[j] s4 = (fe ρ2 s4).bind fun d s5 => .ok (some d) s5 := by unfold lc2El; rw [hq1]
            rw [z] at heq4 hnb4
            refine he ρ2 s4 σ3 F5 H5 as4 _ t5 he3 ?_
            cases hv : fe ρ2 s4 with
            | bad => rw [hv] at hnb4; exact absurd rfl hnb4
            | ex x s => rw [hv] at hnb4; exact absurd rfl hnb4
            | ok d s6 =>
              rw [hv, R.bind_ok] at heq4 hnb4
              intro F6 H6 as6 x6 t6 u ru
              obtain ⟨d6, f6, n6⟩ := x6.oth _ _ d5 f5 n5
              have ra6 : RepAll X.K F6 as6 vd4 acc4 := RepAll.ext x6 (RepAll.ext x5 ra4)
              refine ⟨vd4, d6, by rw [ra6.len]; omega, s6, F6, as6, acc4 ++ [d], vd4 ++ [u], hjt, ((x4.trans x5).trans x6).other hD, sm4.trans (x5.fz.trans x6.fz), pr4.trans (x5.pre.trans x6.pre), t6.other f6 n6 (.inr ⟨_, d6⟩), upd_same, f6, n6, ra6.append (.cons ru .nil), ?_, heq4⟩
              rw [List.length_append, List.length_singleton]
              omega
        · have hd : ys.drop j = [] := List.drop_eq_nil_of_le (by omega)
          rw [hd, lcGo_nil] at heq4
          rw [heq4] at heq
          exact .inl ⟨hJ1.stop j F4 H4 sm4 t4.sub (by omega), s4, F4, as4, acc4, vd4, hlt, x4, t4, hH4, hF4, hn4, ra4, heq⟩
  · have hd : xs.drop i = [] := List.drop_eq_nil_of_le (by omega)
    rw [hd, lc2Go_nil] at heq
    rw [heq, R.bind_ok] at h1
    refine .inl ⟨hJ.stop i F' H' x'.fz t'.sub (by omega), ?_⟩
    exact fin_adopt t' x' hD hH' hF' hn' ra h1
end
end DV

namespace DV
open PySem PySem.Spec PyProof.Rows L2

section
variable {X : Cx} {M : Md → Prop} {W : WX} {N : List Str} {sc scope : Scope} {k : Nat} {fl lb : Bool} {e a b tg iter elt : Expr} {es : List Expr} {pos p : Pos} {x y z : Str}
def notSet : Expr → Bool
  | .Set .. => false
  | _ => true
theorem folded_ok {env : PySem.Env} (h : notSet e = true) : ∀ v, foldedSetIterable e env v = Pure.pure v := by
  cases e <;> first | exact fun _ => rfl | cases h
def DC (X : Cx) (M : Md → Prop) (ifs : List Expr) (c : IC) : Prop := ∃ t, (∀ m, M m → PTs (X.wth m) ifs t) ∧ SemT X (fun _ _ _ _ => False) t (semC c)
theorem dc_none : DC X M [] .none := ⟨tYes, fun m hm => pts_nil, fun ρ sto σ F H as Q s5 he h => by
  simp only [semC] at h
  exact h.ok0 s5⟩
theorem dc_some {t : IT} (h : DT X M (fun _ _ _ _ => False) a (semT t)) : DC X M [a] (.some t) := by
  obtain ⟨tt, pt, h⟩ := h
  refine ⟨tt, fun m hm => pts_one (pt m hm), fun ρ sto σ F H as Q s5 he hh => ?_⟩
  simp only [semC] at hh
  exact h ρ sto σ F H as Q s5 he hh
theorem blk_ok {own : List (Str × Nat)} (c : CtxM X M W N sc k fl lb) (hb : blkC N sc scope own = true) {m : Md} (hm : M m) : BlkOk (X.wth m).N (X.wth m).env.scope scope own := by
  rw [(c m hm).hN, (c m hm).hsc]
  exact blkOk_by hb
/-- the pieces of a comprehension -/
structure LcP (X : Cx) (M : Md → Prop) (W : WX) (tg iter elt : Expr) (ifs : List Expr) (scope : Scope) (own : List (Str × Nat)) (m : Bool) (itg : Tg) (it : II) (c : IC) (ie : IE) (wi : TI) (g : TG) (tt : TT) (te : TE) : Prop where
  hi : ∀ m, M m → PI (X.wth m) tg iter wi
  hg : ∀ m, blkM X M scope m → PG (X.wth m) tg g
  ht : ∀ m, blkM X M scope m → PTs (X.wth m) ifs tt
  he : ∀ m, blkM X M scope m → PE (X.wth m) elt te
  sem : SemE X W (tLc wi g tt te (own.map (·.2))) (semE (.lc m own itg it c ie))
theorem lcP {own : List (Str × Nat)} {m : Bool} {itg : Tg} {it : II} {c : IC} {ie : IE} {ifs : List Expr} (hi : DI X M W tg iter (semI it)) (hg : DG X (blkM X M scope) tg itg) (hc : DC X (blkM X M scope) ifs c) (he : DE X (blkM X M scope) (fun _ _ _ _ => False) elt (semE ie))
    (hsl : ∀ j ∈ tgSlots itg, j ∈ own.map (·.2)) : ∃ wi g tt te, LcP X M W tg iter elt ifs scope own m itg it c ie wi g tt te := by
  obtain ⟨wi, p1, hi⟩ := hi
  obtain ⟨g, p2, hg⟩ := hg
  obtain ⟨tt, p3, hc⟩ := hc
  obtain ⟨te, p4, he⟩ := he
  refine ⟨wi, g, tt, te, p1, p2, p3, p4, ?_⟩
  have := lc_sem (m := m) hi hg hc he hsl
  simp only [semE]
  exact this
theorem LcP.de {own : List (Str × Nat)} {m : Bool} {itg : Tg} {it : II} {c : IC} {ie : IE} {ifs : List Expr} {wi : TI} {g : TG} {tt : TT} {te : TE} (h : LcP X M W tg iter elt ifs scope own m itg it c ie wi g tt te) (cc : CtxM X M W N sc k fl lb) (hb : blkC N sc scope own = true) (hns : notSet iter = true) :
    DE X M W (.ListComp elt [⟨tg, iter, ifs, 0⟩] scope pos) (semE (.lc m own itg it c ie)) :=
  ⟨_, fun m hm => pe_lc (X := X.wth m) (cc m hm).calm (by rw [(cc m hm).hN]; exact (cc m hm).nd) (h.hi m hm) (blk_ok cc hb hm) (fun s H C cl fp => h.hg _ ⟨m, hm, s, H, C, cl, fp, rfl⟩) (fun s H C cl fp => h.ht _ ⟨m, hm, s, H, C, cl, fp, rfl⟩)
    (fun s H C cl fp => h.he _ ⟨m, hm, s, H, C, cl, fp, rfl⟩) (folded_ok hns), h.sem⟩
structure LcP2 (X : Cx) (M : Md → Prop) (W : WX) (tg iter tg1 iter1 elt : Expr) (scope : Scope) (own : List (Str × Nat)) (vs1 : List Nat) (m : Bool) (itg : Tg) (it : II) (itg1 : Tg) (it1 : II) (ie : IE) (wi : TI) (g : TG) (wi1 : TI) (g1 : TG) (te : TE) : Prop where
  hi : ∀ m, M m → PI (X.wth m) tg iter wi
  hg : ∀ m, blkM X M scope m → PG (X.wth m) tg g
  hi1 : ∀ m, blkM X M scope m → PI (X.wth m) tg1 iter1 wi1
  hg1 : ∀ m, blkM X M scope m → PG (X.wth m) tg1 g1
  he : ∀ m, blkM X M scope m → PE (X.wth m) elt te
  sem : SemE X W (tLc2 wi g tYes wi1 g1 tYes te (own.map (·.2)) vs1) (semE (.lc2 m own vs1 itg it itg1 it1 ie))
theorem lcP2 {own : List (Str × Nat)} {vs1 : List Nat} {m : Bool} {itg itg1 : Tg} {it it1 : II} {ie : IE} {tg1 iter1 : Expr} (hi : DI X M W tg iter (semI it)) (hg : DG X (blkM X M scope) tg itg) (hi1 : DI X (blkM X M scope) (fun _ _ _ _ => False) tg1 iter1 (semI it1)) (hg1 : DG X (blkM X M scope) tg1 itg1)
    (he : DE X (blkM X M scope) (fun _ _ _ _ => False) elt (semE ie)) (hsl : ∀ j ∈ tgSlots itg, j ∈ own.map (·.2)) (hsl1 : ∀ j ∈ tgSlots itg1, j ∈ vs1) : ∃ wi g wi1 g1 te, LcP2 X M W tg iter tg1 iter1 elt scope own vs1 m itg it itg1 it1 ie wi g wi1 g1 te := by
  obtain ⟨wi, p1, hi⟩ := hi
  obtain ⟨g, p2, hg⟩ := hg
  obtain ⟨wi1, p3, hi1⟩ := hi1
  obtain ⟨g1, p4, hg1⟩ := hg1
  obtain ⟨te, p5, he⟩ := he
  refine ⟨wi, g, wi1, g1, te, p1, p2, p3, p4, p5, ?_⟩
  have := lc2_sem (m := m) hi hg hi1 hg1 he hsl hsl1
  simp only [semE]
  exact this
theorem LcP2.de {own : List (Str × Nat)} {vs1 : List Nat} {m : Bool} {itg itg1 : Tg} {it it1 : II} {ie : IE} {tg1 iter1 : Expr} {wi wi1 : TI} {g g1 : TG} {te : TE} (h : LcP2 X M W tg iter tg1 iter1 elt scope own vs1 m itg it itg1 it1 ie wi g wi1 g1 te) (cc : CtxM X M W N sc k fl lb)
    (hb : blkC N sc scope own = true) (hv : ∀ i ∈ vs1, i ∈ own.map (·.2)) (hns : notSet iter = true) (hns1 : notSet iter1 = true) : DE X M W (.ListComp elt [⟨tg, iter, [], 0⟩, ⟨tg1, iter1, [], 0⟩] scope pos) (semE (.lc2 m own vs1 itg it itg1 it1 ie)) :=
  ⟨_, fun m hm => pe_lc2 (X := X.wth m) (cc m hm).calm (by rw [(cc m hm).hN]; exact (cc m hm).nd) (h.hi m hm) (blk_ok cc hb hm) hv (fun s H C cl fp => h.hg _ ⟨m, hm, s, H, C, cl, fp, rfl⟩) (fun s H C cl fp => pts_nil)
    (fun s H C cl fp => h.hi1 _ ⟨m, hm, s, H, C, cl, fp, rfl⟩) (fun s H C cl fp => h.hg1 _ ⟨m, hm, s, H, C, cl, fp, rfl⟩) (fun s H C cl fp => pts_nil) (fun s H C cl fp => h.he _ ⟨m, hm, s, H, C, cl, fp, rfl⟩) (folded_ok hns) (fun env => folded_ok hns1), h.sem⟩

/-! ### statements -/
def CtxS (X : Cx) (M : Md → Prop) : Prop := ∀ m, M m → PassesOwn (model X.prog X.w) m.A m.env m.xe ∧ m.ex = [] ∧ m.stack = m.env :: m.outer ∧ m.env.frame = some m.env.locals ∧ ∃ pn xe, X.wth m = { X with pn := pn, xe := xe }
def notComp : Expr → Bool
  | .ListComp .. => false
  | .SetComp .. => false
  | .DictComp .. => false
  | _ => true
theorem sw_plain {t : Option Expr} {l : Nat} {env : PySem.Env} (h : notComp e = true) : swapsWith e t l env = Pure.pure false := by
  cases e <;> first | rfl | cases h
/-- a target that is no tuple, or a value that is none, or few or many places, or constants alone -/
def swNone (tg e : Expr) : Bool := match tg, e with
  | .Tuple ts _ _, .Tuple vs _ _ => !(ts.length == 2 || ts.length == 3) || (vs.length == ts.length && vs.all (foldedForSure 8) && vs.all fun v => !isStar v)
  | .List .., _ => false
  | _, _ => true
theorem ds_ret {ie : IE} (ha : DE X M W e (semE ie)) : DS X M W (.Return (some e) pos) (semS (.ret ie)) := by
  obtain ⟨ta, pa, ha⟩ := ha
  refine ⟨_, fun m hm => ps_ret (pa m hm), fun ρ sto σ F H as E s5 he h => ?_⟩
  simp only [semS] at h
  exact ha ρ sto σ F H as _ s5 he ((FinS.out he h).imp fun d s1 F1 H1 as1 e1 t1 h1 v rv => h1 v F1 H1 as1 (Ext.refl _ _ _) t1 rv)
theorem ds_retN : DS X M W (.Return none pos) (semS .retN) := ⟨_, fun m hm => ps_retN, fun ρ sto σ F H as E s5 he h => by
  simp only [semS] at h
  exact h _ F H as (Ext.refl _ _ _) s5 .non⟩
theorem ds_pass : DS X M W (.Pass pos) (semS .pass) := ⟨_, fun m hm => ps_pass, fun ρ sto σ F H as E s5 he h => by
  simp only [semS] at h
  exact h σ F H as (Ext.refl _ _ _) s5 he⟩
theorem ds_brk : DS X M W (.Break pos) (semS .brk) := ⟨_, fun m hm => ps_break, fun ρ sto σ F H as E s5 he h => by
  simp only [semS] at h
  exact h σ F H as (Ext.refl _ _ _) s5 he⟩
theorem ds_ct : DS X M W (.Continue pos) (semS .ct) := ⟨_, fun m hm => ps_continue, fun ρ sto σ F H as E s5 he h => by
  simp only [semS] at h
  exact h σ F H as (Ext.refl _ _ _) s5 he⟩
theorem ds_never {st : Stmt} : DS X M W st (semS .never) := ⟨_, fun m hm => ps_never, fun ρ sto σ F H as E s5 he h => h.elim⟩
theorem ds_ex {ie : IE} (hp : notComp e = true) (ha : DE X M W e (semE ie)) : DS X M W (.Expr e pos) (semS (.ex ie)) := by
  obtain ⟨ta, pa, ha⟩ := ha
  refine ⟨_, fun m hm => ps_expr (pa m hm) (sw_plain hp), fun ρ sto σ F H as E s5 he h => ?_⟩
  simp only [semS] at h
  exact ha ρ sto σ F H as _ s5 he ((FinS.out he h).imp fun d s1 F1 H1 as1 e1 t1 h1 v rv => h1 σ F1 H1 as1 (Ext.refl _ _ _) t1 (he.ext e1))
theorem isStar_m (a : Expr) : (match a with | .Starred _ _ => true | _ => false) = isStar a := by cases a <;> rfl
theorem sw_stores {tg e : Expr} {env : PySem.Env} (h : swNone tg e = true) : swappedStores [tg] e env = Pure.pure none := by
  unfold swappedStores
  split
  · rename_i ts vs heq
    split at heq
    · rename_i h1
      have h1 := (List.cons.inj h1).1
      subst h1
      cases heq
      have h : (!(ts.length == 2 || ts.length == 3) || (vs.length == ts.length && vs.all (foldedForSure 8) && vs.all fun v => !isStar v)) = true := h
      by_cases hl : (!(ts.length == 2 || ts.length == 3)) = true
      · rw [hl]
        rfl
      · rw [Bool.not_eq_true] at hl
        rw [hl, Bool.false_or, Bool.and_eq_true, Bool.and_eq_true] at h
        obtain ⟨⟨a1, a2⟩, a3⟩ := h
        split
        · rfl
        · split
          · rfl
          · simp only [a2, if_true]
            split <;> rfl
    · rename_i h1
      have h1 := (List.cons.inj h1).1
      subst h1
      cases h
    · cases heq
  · rfl
theorem sw2 {x y : Str} {a b : Expr} {px py pt pt2 : Pos} {kt k2 : Nat} {env : PySem.Env} (hk : env.scope.kind = .function) (h1 : isStar a = false) (h2 : isStar b = false) (hx : env.kindOf x = some .local) (hy : env.kindOf y = some .local) (hl : (py.line == px.line) = true) (hxy : x ≠ y)
   (hf : (foldedForSure 8 a && foldedForSure 8 b) = false) (hc : (constantsAlone 8 a && constantsAlone 8 b) = false) : swappedStores [.Tuple [.Name x px, .Name y py] kt pt] (.Tuple [a, b] k2 pt2) env = Pure.pure (some [x, y]) := by
  have hb : env.blockKind = .function := by unfold PySem.Env.blockKind; rw [hk]; rfl
  have hl' : py.line = px.line := by simpa using hl
  unfold swappedStores
  simp [hb, hx, hy, hl', hf, hc, isStar_m, h1, h2, List.filterMap_cons, Expr.pos, List.eraseDups_cons, hxy, Ne.symm hxy]
  intro hh
  exfalso
  rcases hh with hh | hh
  · cases a <;> first | exact Bool.noConfusion (show true = false from h1) | exact Bool.noConfusion (show false = true from hh)
  · cases b <;> first | exact Bool.noConfusion (show true = false from h2) | exact Bool.noConfusion (show false = true from hh)
theorem sw3 {x y z : Str} {a b c : Expr} {px py pz pt pt2 : Pos} {kt k2 : Nat} {env : PySem.Env} (hk : env.scope.kind = .function) (h1 : isStar a = false) (h2 : isStar b = false) (h3 : isStar c = false) (hx : env.kindOf x = some .local) (hy : env.kindOf y = some .local) (hz : env.kindOf z = some .local) (hl : (py.line == px.line) = true) (hl2 : (pz.line == px.line) = true) (hxy : x ≠ y) (hxz : x ≠ z) (hyz : y ≠ z)
   (hf : (foldedForSure 8 a && (foldedForSure 8 b && foldedForSure 8 c)) = false) (hc : (constantsAlone 8 a && (constantsAlone 8 b && constantsAlone 8 c)) = false) : swappedStores [.Tuple [.Name x px, .Name y py, .Name z pz] kt pt] (.Tuple [a, b, c] k2 pt2) env = Pure.pure (some [x, y, z]) := by
  have hb : env.blockKind = .function := by unfold PySem.Env.blockKind; rw [hk]; rfl
  have hl' : py.line = px.line := by simpa using hl
  have hl2' : pz.line = px.line := by simpa using hl2
  unfold swappedStores
  simp [hb, hx, hy, hz, hl', hl2', hf, hc, isStar_m, h1, h2, h3, List.filterMap_cons, Expr.pos, List.eraseDups_cons, hxy, Ne.symm hxy, hxz, Ne.symm hxz, hyz, Ne.symm hyz]
  intro hh
  exfalso
  rcases hh with hh | hh
  · cases a <;> first | exact Bool.noConfusion (show true = false from h1) | exact Bool.noConfusion (show false = true from hh)
  · rcases hh with hh | hh
    · cases b <;> first | exact Bool.noConfusion (show true = false from h2) | exact Bool.noConfusion (show false = true from hh)
    · cases c <;> first | exact Bool.noConfusion (show true = false from h3) | exact Bool.noConfusion (show false = true from hh)
/-- a tuple of names of which one is no local -/
def cellT (sc : Scope) : Expr → Bool
  | .Tuple ts _ _ => ts.any fun t => match t with
    | .Name id _ => !decide (sc.names.lookup id = some .local)
    | _ => true
  | _ => false
theorem fm_lt {α β : Type} {f : α → Option β} : ∀ {l : List α} {a : α}, a ∈ l → f a = none → (l.filterMap f).length < l.length
  | b :: l, a, h, e => by
    rcases List.mem_cons.mp h with rfl | h
    · rw [List.filterMap_cons_none e]
      exact Nat.lt_succ_of_le (List.length_filterMap_le ..)
    · have := fm_lt h e
      cases hb : f b with
      | none => rw [List.filterMap_cons_none hb, List.length_cons]; omega
      | some y => rw [List.filterMap_cons_some hb, List.length_cons, List.length_cons]; omega
theorem sw_cellT {tg e : Expr} {env : PySem.Env} (h : cellT env.scope tg = true) : swappedStores [tg] e env = Pure.pure none := by
  unfold cellT at h
  split at h
  · rename_i ts kt pt
    unfold swappedStores
    cases e <;> try rfl
    rename_i vs k2 p2
    dsimp only
    split
    · rfl
    split
    · rfl
    split
    · rfl
    · rename_i hn
      exfalso
      apply hn
      obtain ⟨t, ht, h⟩ := List.any_eq_true.mp h
      rw [Bool.or_eq_true]
      left
      refine bne_iff_ne.mpr (Nat.ne_of_lt (fm_lt ht ?_))
      cases t <;> try rfl
      rename_i id pos
      dsimp only at h ⊢
      rw [Bool.not_eq_true', decide_eq_false_iff_not] at h
      have : (env.kindOf id == some .local) = false := by
        show (env.scope.names.lookup id == some .local) = false
        cases hk : env.scope.names.lookup id with
        | none => rfl
        | some k =>
          cases k with
          | «local» => exact absurd hk h
          | _ => rfl
      simp [this]
  · cases h
theorem ds_setT {t : Tg} {ie : IE} (c : CtxM X M W N sc k fl lb) (hs : notComp e = true) (hw : cellT sc tg = true) (hst : isStar tg = false) (hg : DG X M tg t) (ha : DE X M W e (semE ie)) : DS X M W (.Assign [tg] e pos) (semS (.set t ie)) := by
  obtain ⟨ta, pa, ha⟩ := ha
  obtain ⟨g, pg, hg⟩ := hg
  refine ⟨_, fun m hm => ps_asg (pa m hm) (pg m hm) (sw_plain hs) (sw_cellT (by rw [(c m hm).hsc]; exact hw)) (by rw [assign_cons hst]; rfl), fun ρ sto σ F H as E s5 he h => ?_⟩
  simp only [semS] at h
  refine ha ρ sto σ F H as _ s5 he ((FinS.out he h).imp fun d s1 F1 H1 as1 e1 t1 h1 v rv => ?_)
  split at h1
  · rename_i ρ1 q
    exact hg d ρ ρ1 v σ F1 H1 as1 _ t1.sub (he.ext e1) rv q fun σ' he' _ => h1 σ' F1 H1 as1 (Ext.refl _ _ _) t1 he'
  · exact h1.elim
theorem ds_set {t : Tg} {ie : IE} (hs : notComp e = true) (hw : swNone tg e = true) (hst : isStar tg = false) (hg : DG X M tg t) (ha : DE X M W e (semE ie)) : DS X M W (.Assign [tg] e pos) (semS (.set t ie)) := by
  obtain ⟨ta, pa, ha⟩ := ha
  obtain ⟨g, pg, hg⟩ := hg
  refine ⟨_, fun m hm => ps_asg (pa m hm) (pg m hm) (sw_plain hs) (sw_stores hw) (by rw [assign_cons hst]; rfl), fun ρ sto σ F H as E s5 he h => ?_⟩
  simp only [semS] at h
  refine ha ρ sto σ F H as _ s5 he ((FinS.out he h).imp fun d s1 F1 H1 as1 e1 t1 h1 v rv => ?_)
  split at h1
  · rename_i ρ1 q
    exact hg d ρ ρ1 v σ F1 H1 as1 _ t1.sub (he.ext e1) rv q fun σ' he' _ => h1 σ' F1 H1 as1 (Ext.refl _ _ _) t1 he'
  · exact h1.elim
theorem sw_cell {gs : List Comprehension} {y : Str} {py : Pos} {l : Nat} {env : PySem.Env} (hy : env.kindOf y = some .cell) : swapsWith (.ListComp elt gs scope pos) (some (.Name y py)) l env = Pure.pure false := by
  unfold swapsWith
  simp only [hy, show (NameKind.cell == NameKind.local) = false from rfl, Bool.and_false, Bool.false_and, Option.getD_some, Option.some_beq_some]
/-- a list that a comprehension makes, for a name that others hold too -/
theorem ds_setCell {y : Str} {py spos : Pos} {gs : List Comprehension} {i : Nat} {ie : IE} (c : CtxM X M W N sc k fl lb) (hy : sc.names.lookup y = some .cell) (hg : DG X M (.Name y py) (.name i)) (ha : DE X M W (.ListComp elt gs scope pos) (semE ie)) :
    DS X M W (.Assign [.Name y py] (.ListComp elt gs scope pos) spos) (semS (.set (.name i) ie)) := by
  obtain ⟨ta, pa, ha⟩ := ha
  obtain ⟨g, pg, hg⟩ := hg
  refine ⟨_, fun m hm => ps_asg (pa m hm) (pg m hm) (sw_cell (l := spos.line) (by show (X.wth m).env.scope.names.lookup y = _; rw [(c m hm).hsc]; exact hy)) (sw_stores rfl) (by rw [assign_cons rfl]; rfl), fun ρ sto σ F H as E s5 he h => ?_⟩
  simp only [semS] at h
  refine ha ρ sto σ F H as _ s5 he ((FinS.out he h).imp fun d s1 F1 H1 as1 e1 t1 h1 v rv => ?_)
  split at h1
  · rename_i ρ1 q
    exact hg d ρ ρ1 v σ F1 H1 as1 _ t1.sub (he.ext e1) rv q fun σ' he' _ => h1 σ' F1 H1 as1 (Ext.refl _ _ _) t1 he'
  · exact h1.elim
theorem own_any {own : List (Str × Nat)} {y : Str} (h : (scope.names.any fun q => q.1 == y && (q.2 == .local || q.2 == .cell)) = false) : (scope.names.any fun (n, k) => n == y && (k == .local || k == .cell)) = false := h
theorem ds_setLc {i : Nat} {y : Str} {py spos : Pos} {own : List (Str × Nat)} {m : Bool} {itg : Tg} {it : II} {c : IC} {ie : IE} {ifs : List Expr} (cc : CtxM X M W N sc k fl lb) (hi : N[i]? = some y) (hy : sc.names.lookup y = some .local) (hl : (py.line == pos.line) = true)
    (ho : (scope.names.any fun (n, k) => n == y && (k == .local || k == .cell)) = false) (hb : blkC N sc scope own = true) (hns : notSet iter = true)
    (h : ∃ wi g tt te, LcP X M W tg iter elt ifs scope own m itg it c ie wi g tt te) : DS X M W (.Assign [.Name y py] (.ListComp elt [⟨tg, iter, ifs, 0⟩] scope pos) spos) (semS (.setLc i m own itg it c ie)) := by
  obtain ⟨wi, g, tt, te, h⟩ := h
  refine ⟨_, fun m hm => ps_setLc (X := X.wth m) (i := i) (cc m hm).calm (by rw [(cc m hm).hN]; exact (cc m hm).nd) (by rw [(cc m hm).hN]; exact hi) (by rw [(cc m hm).hsc]; exact hy) (sw_true (cc m hm).kind (by rw [(cc m hm).hsc]; exact hy) hl ho)
    (h.hi m hm) (blk_ok cc hb hm) (fun s H C cl fp => h.hg _ ⟨m, hm, s, H, C, cl, fp, rfl⟩) (fun s H C cl fp => h.ht _ ⟨m, hm, s, H, C, cl, fp, rfl⟩) (fun s H C cl fp => h.he _ ⟨m, hm, s, H, C, cl, fp, rfl⟩) (folded_ok hns), fun ρ sto σ F H as E s5 he hh => ?_⟩
  simp only [semS] at hh
  exact h.sem ρ sto σ F H as _ s5 he ((FinS.out he hh).imp fun d s1 F1 H1 as1 e1 t1 h1 v rv => h1 _ F1 H1 as1 (Ext.refl _ _ _) t1 ((he.ext e1).set rv))
theorem ds_setLc2 {i : Nat} {y : Str} {py spos : Pos} {own : List (Str × Nat)} {vs1 : List Nat} {m : Bool} {itg itg1 : Tg} {it it1 : II} {ie : IE} {tg1 iter1 : Expr} (cc : CtxM X M W N sc k fl lb) (hi : N[i]? = some y) (hy : sc.names.lookup y = some .local) (hl : (py.line == pos.line) = true)
    (ho : (scope.names.any fun (n, k) => n == y && (k == .local || k == .cell)) = false) (hb : blkC N sc scope own = true) (hv : ∀ i ∈ vs1, i ∈ own.map (·.2)) (hns : notSet iter = true) (hns1 : notSet iter1 = true)
    (h : ∃ wi g wi1 g1 te, LcP2 X M W tg iter tg1 iter1 elt scope own vs1 m itg it itg1 it1 ie wi g wi1 g1 te) : DS X M W (.Assign [.Name y py] (.ListComp elt [⟨tg, iter, [], 0⟩, ⟨tg1, iter1, [], 0⟩] scope pos) spos) (semS (.setLc2 i m own vs1 itg it itg1 it1 ie)) := by
  obtain ⟨wi, g, wi1, g1, te, h⟩ := h
  refine ⟨_, fun m hm => ps_setLc2 (X := X.wth m) (i := i) (cc m hm).calm (by rw [(cc m hm).hN]; exact (cc m hm).nd) (by rw [(cc m hm).hN]; exact hi) (by rw [(cc m hm).hsc]; exact hy) (sw_true (cc m hm).kind (by rw [(cc m hm).hsc]; exact hy) hl ho)
    (h.hi m hm) (blk_ok cc hb hm) hv (fun s H C cl fp => h.hg _ ⟨m, hm, s, H, C, cl, fp, rfl⟩) (fun s H C cl fp => pts_nil) (fun s H C cl fp => h.hi1 _ ⟨m, hm, s, H, C, cl, fp, rfl⟩) (fun s H C cl fp => h.hg1 _ ⟨m, hm, s, H, C, cl, fp, rfl⟩) (fun s H C cl fp => pts_nil)
    (fun s H C cl fp => h.he _ ⟨m, hm, s, H, C, cl, fp, rfl⟩) (folded_ok hns) (fun env => folded_ok hns1), fun ρ sto σ F H as E s5 he hh => ?_⟩
  simp only [semS] at hh
  exact h.sem ρ sto σ F H as _ s5 he ((FinS.out he hh).imp fun d s1 F1 H1 as1 e1 t1 h1 v rv => h1 _ F1 H1 as1 (Ext.refl _ _ _) t1 ((he.ext e1).set rv))
theorem ds_par2 {i j : Nat} {px py pt pt2 : Pos} {kt k2 : Nat} {ia ib : IE} (c : CtxM X M W N sc k fl lb) (hi : N[i]? = some x) (hj : N[j]? = some y) (hij : i ≠ j) (hx : sc.names.lookup x = some .local) (hy : sc.names.lookup y = some .local) (h1 : isStar a = false) (h2 : isStar b = false) (hl : (py.line == px.line) = true)
    (hf : (foldedForSure 8 a && foldedForSure 8 b) = false) (hc : (constantsAlone 8 a && constantsAlone 8 b) = false) (ha : DE X M W a (semE ia)) (hb : DE X M W b (semE ib)) : DS X M W (.Assign [.Tuple [.Name x px, .Name y py] kt pt] (.Tuple [a, b] k2 pt2) pos) (semS (.par2 i j ia ib)) := by
  obtain ⟨ta, pa, ha⟩ := ha
  obtain ⟨tb, pb, hb⟩ := hb
  refine ⟨tPar i j (tCons ta (tCons tb tNil)), fun m hm => ?_, fun ρ sto σ F H as E s5 he h => ?_⟩
  · have cm := c m hm
    have hxy : x ≠ y := fun z => hij (nd_ix cm.nd hi (by rw [z]; exact hj))
    have kx : (X.wth m).env.scope.names.lookup x = some .local := by rw [cm.hsc]; exact hx
    have ky : (X.wth m).env.scope.names.lookup y = some .local := by rw [cm.hsc]; exact hy
    exact ps_par cm.calm (by rw [cm.hN]; exact cm.nd) (by rw [cm.hN]; exact hi) (by rw [cm.hN]; exact hj) hij kx ky (pa_cons (pa m hm) (pa_cons (pb m hm) pa_nil (star_cons h2)) (star_cons h1)) (sw2 cm.kind h1 h2 kx ky hl hxy hf hc) rfl
  simp only [semS] at h
  refine ha ρ sto σ F H as _ s5 he ((FinS.out he h).imp fun d s1 F1 H1 as1 e1 t1 h1 v rv => ?_)
  refine hb ρ s1 σ F1 H1 as1 _ t1 (he.ext e1) ((FinS.out (he.ext e1) h1).imp fun d2 s2 F2 H2 as2 e2 t2 h2 w rw' => ?_)
  exact ⟨v, w, rfl, h2 _ F2 H2 as2 (Ext.refl _ _ _) t2 ((((he.ext e1).ext e2).set (rv.ext e2)).set rw')⟩
theorem ds_par3 {i j l : Nat} {cc : Expr} {px py pz pt pt2 : Pos} {kt k2 : Nat} {ia ib ic : IE} (c : CtxM X M W N sc k fl lb) (hi : N[i]? = some x) (hj : N[j]? = some y) (hk : N[l]? = some z) (hij : i ≠ j) (hil : i ≠ l) (hjl : j ≠ l) (hx : sc.names.lookup x = some .local) (hy : sc.names.lookup y = some .local) (hz : sc.names.lookup z = some .local)
    (h1 : isStar a = false) (h2 : isStar b = false) (h3 : isStar cc = false) (hl : (py.line == px.line) = true) (hl2 : (pz.line == px.line) = true)
    (hf : (foldedForSure 8 a && (foldedForSure 8 b && foldedForSure 8 cc)) = false) (hc : (constantsAlone 8 a && (constantsAlone 8 b && constantsAlone 8 cc)) = false) (ha : DE X M W a (semE ia)) (hb : DE X M W b (semE ib)) (hcc : DE X M W cc (semE ic)) :
    DS X M W (.Assign [.Tuple [.Name x px, .Name y py, .Name z pz] kt pt] (.Tuple [a, b, cc] k2 pt2) pos) (semS (.par3 i j l ia ib ic)) := by
  obtain ⟨ta, pa, ha⟩ := ha
  obtain ⟨tb, pb, hb⟩ := hb
  obtain ⟨tc, pc, hcc⟩ := hcc
  refine ⟨tPar3 i j l (tCons ta (tCons tb (tCons tc tNil))), fun m hm => ?_, fun ρ sto σ F H as E s5 he h => ?_⟩
  · have cm := c m hm
    have hxy : x ≠ y := fun q => hij (nd_ix cm.nd hi (by rw [q]; exact hj))
    have hxz : x ≠ z := fun q => hil (nd_ix cm.nd hi (by rw [q]; exact hk))
    have hyz : y ≠ z := fun q => hjl (nd_ix cm.nd hj (by rw [q]; exact hk))
    have kx : (X.wth m).env.scope.names.lookup x = some .local := by rw [cm.hsc]; exact hx
    have ky : (X.wth m).env.scope.names.lookup y = some .local := by rw [cm.hsc]; exact hy
    have kz : (X.wth m).env.scope.names.lookup z = some .local := by rw [cm.hsc]; exact hz
    exact ps_par3 cm.calm (by rw [cm.hN]; exact cm.nd) (by rw [cm.hN]; exact hi) (by rw [cm.hN]; exact hj) (by rw [cm.hN]; exact hk) hij hil hjl kx ky kz (pa_cons (pa m hm) (pa_cons (pb m hm) (pa_cons (pc m hm) pa_nil (star_cons h3)) (star_cons h2)) (star_cons h1)) (sw3 cm.kind h1 h2 h3 kx ky kz hl hl2 hxy hxz hyz hf hc) rfl
  simp only [semS] at h
  refine ha ρ sto σ F H as _ s5 he ((FinS.out he h).imp fun d s1 F1 H1 as1 e1 t1 h1 v rv => ?_)
  refine hb ρ s1 σ F1 H1 as1 _ t1 (he.ext e1) ((FinS.out (he.ext e1) h1).imp fun d2 s2 F2 H2 as2 e2 t2 h2 w rw' => ?_)
  refine hcc ρ s2 σ F2 H2 as2 _ t2 ((he.ext e1).ext e2) ((FinS.out ((he.ext e1).ext e2) h2).imp fun d3 s3 F3 H3 as3 e3 t3 h3 u ru => ?_)
  exact ⟨v, w, u, rfl, h3 _ F3 H3 as3 (Ext.refl _ _ _) t3 ((((((he.ext e1).ext e2).ext e3).set ((rv.ext e2).ext e3)).set (rw'.ext e3)).set ru)⟩
theorem ds_setIx {o i : Expr} {p1 : Pos} {io ii ie : IE} (hs : notComp e = true) (hn : notSlice i = true) (hw : swNone (.Subscript o i p1) e = true) (ho : DE X M W o (semE io)) (hi : DE X M W i (semE ii)) (ha : DE X M W e (semE ie)) :
    DS X M W (.Assign [.Subscript o i p1] e pos) (semS (.setIx io ii ie)) := by
  obtain ⟨ta, pa, ha⟩ := ha
  obtain ⟨to, po, ho⟩ := ho
  obtain ⟨ti, pi, hi⟩ := hi
  refine ⟨_, fun m hm => ps_asg (pa m hm) (pg_sub (po m hm) (pi m hm) set_list (fun v => by cases i <;> first | rfl | cases hn)) (show swapsWithSole [.Subscript o i p1] e pos.line (X.wth m).env = Pure.pure false from sw_plain (t := some (.Subscript o i p1)) (l := pos.line) (env := (X.wth m).env) hs) (sw_stores hw) (by rw [assign_cons rfl]; rfl), fun ρ sto σ F H as E s5 he h => ?_⟩
  simp only [semS] at h
  refine ha ρ sto σ F H as _ s5 he ((FinS.out he h).imp fun d s1 F1 H1 as1 e1 t1 h1 v rv => ?_)
  refine ho ρ s1 σ F1 H1 as1 _ t1 (he.ext e1) ((FinS.out (he.ext e1) h1).imp fun x s2 F2 H2 as2 e2 t2 h2 w rw' => ?_)
  refine hi ρ s2 σ F2 H2 as2 _ t2 ((he.ext e1).ext e2) ((FinS.out ((he.ext e1).ext e2) h2).imp fun y s3 F3 H3 as3 e3 t3 h3 u ru => ?_)
  split at h3
  · rename_i s4 q
    unfold stIx at q
    split at q
    · split at q
      · rename_i n kk _ xs hc
        obtain ⟨j, q1, rfl⟩ := Option.map_eq_some_iff.mp q
        cases rw' with
        | obj en =>
          obtain ⟨_, ws, hw1, hw2⟩ := t3.cell _ _ _ (e3.pre _ _ en) hc
          have rv3 := (rv.ext e2).ext e3
          obtain ⟨s', x'⟩ := t3.putC (e3.pre _ _ en) hc (hw2.set rv3 j)
          exact ⟨_, ws, kk, j, rfl, rep_int ru, hw1, by rw [hw2.len]; exact q1, h3 σ _ _ _ x' s' ((((he.ext e1).ext e2).ext e3).ext x')⟩
      · cases q
    · cases q
  · exact h3.elim
def ipA (o : Operator) : V → V → Hp → VK → Prop := match o with
  | .Add => rI0 fun i j => .int (i + j)
  | .Sub => rI0 fun i j => .int (i - j)
  | .FloorDiv => rI CDivW fun i j => .int (i / j)
  | .Mod => rI (fun _ j => 0 < j) fun i j => .int (i % j)
  | _ => fun _ _ _ _ => False
theorem ip_A {X : Cx} (o : Operator) : PIp X o (ipA o) := by
  cases o with
  | Add => exact iop_add
  | Sub => exact iop_sub
  | FloorDiv => exact iop_fdivW
  | Mod => exact iop_mod
  | _ => exact fun _ _ _ _ _ _ _ _ _ _ _ _ h => False.elim h
theorem ds_aug {i : Nat} {px : Pos} {o : Operator} {ie : IE} (c : CtxM X M W N sc k fl lb) (hi : N[i]? = some x) (hx : sc.names.lookup x = some .local ∨ (fl = true ∧ sc.names.lookup x = some .cell)) (ha : DE X M W e (semE ie)) : DS X M W (.AugAssign (.Name x px) o e pos) (semS (.aug i o ie)) := by
  obtain ⟨ta, pa, ha⟩ := ha
  refine ⟨tAug i ta (ipA o), fun m hm => ?_, fun ρ sto σ F H as E s5 he h => ?_⟩
  · have cm := c m hm
    have hl : Loc (X.wth m).env.scope x := by
      rw [cm.hsc]
      rcases hx with h | h
      · exact .inl h
      · exact .inr h.2
    refine ps_aug (by rw [cm.hN]; exact cm.nd) (by rw [cm.hN]; exact hi) hl (pa m hm) (ip_A o) ?_
    rcases hx with h | h
    · right
      rw [cm.hsc]
      exact h
    · exact .inl (cm.fn h.1 x)
  simp only [semS] at h
  split at h
  · rename_i d q
    obtain ⟨v, hv, rv⟩ := he.2 i d q
    refine ⟨v, hv, ha ρ sto σ F H as _ s5 he ((FinS.out he h).imp fun y s1 F1 H1 as1 e1 t1 h1 w rw' => ?_)⟩
    have h2 := FinS.out (he.ext e1) h1
    have rv1 := rv.ext e1
    unfold augSem at h2
    split at h2
    · rename_i a b
      have ev := rep_int rv1
      have ew := rep_int rw'
      split at h2
      · exact ⟨a, b, ev, ew, h2.ok0 t1 _ F1 H1 as1 (Ext.refl _ _ _) t1 ((he.ext e1).set (.int _))⟩
      · exact ⟨a, b, ev, ew, h2.ok0 t1 _ F1 H1 as1 (Ext.refl _ _ _) t1 ((he.ext e1).set (.int _))⟩
      · obtain ⟨hc, h2⟩ := fin_if h2
        exact ⟨a, b, ev, ew, hc, h2.ok0 t1 _ F1 H1 as1 (Ext.refl _ _ _) t1 ((he.ext e1).set (.int _))⟩
      · obtain ⟨hc, h2⟩ := fin_if h2
        exact ⟨a, b, ev, ew, hc, h2.ok0 t1 _ F1 H1 as1 (Ext.refl _ _ _) t1 ((he.ext e1).set (.int _))⟩
      · exact h2.elim
    · exact h2.elim
  · exact h.elim
end
end DV

namespace DV
open PySem PySem.Spec PyProof.Rows L2

/-! ### blocks -/
def Out.loop (o : Out) (k : Env → Sto → Out) : Out := match o with
  | .nx ρ s => k ρ s
  | .ct ρ s => k ρ s
  | .brk ρ s => .nx ρ s
  | o => o
theorem forGo_cons (bd : D → Env → Sto → Out) (x : D) (xs : List D) (ρ : Env) (s : Sto) : forGo bd (x :: xs) ρ s = (bd x ρ s).loop fun ρ' s' => forGo bd xs ρ' s' := by
  rw [forGo]
  cases bd x ρ s <;> rfl
theorem whileGo_succ (c : Env → Sto → R Bool) (bd : Env → Sto → Out) (n : Nat) (ρ : Env) (s : Sto) : whileGo c bd (n + 1) ρ s = (c ρ s).out ρ fun b s1 => if b = true then (bd ρ s1).loop (whileGo c bd n) else .nx ρ s1 := by
  rw [whileGo]
  cases c ρ s with
  | ok b s1 =>
    cases b with
    | true => cases h : bd ρ s1 <;> simp [h, Out.loop]
    | false => simp
  | ex x s1 => rfl
  | bad => rfl
section
variable {K : PySem.W.Frag} {mg : Str → Option Value} {W : WX} {σ : L2.St} {F H : Hp} {as : List Addr} {ρ : Env} {sto : Sto} {E : Ends}
theorem FinS.thn {o : Out} {k : Env → Sto → Out} {N : L2.St → Hp → Prop} (h : FinS K mg W F H as E (o.thn k))
    (q : ∀ ρ s σ F' H' as', Ext F H as F' H' as' → St5 K F' H' as' s → EnvR K F' as' σ ρ → FinS K mg W F' H' as' E (k ρ s) → N σ H') : FinS K mg W F H as { E with nx := N } o := by
  cases o with
  | nx ρ s => exact fun σ F' H' as' x s5 he => q ρ s σ F' H' as' x s5 he (FinS.mono x h)
  | ret d s => exact h
  | brk ρ s => exact h
  | ct ρ s => exact h
  | ex x ρ s => exact h
  | bad => exact h
theorem FinS.loop {o : Out} {k : Env → Sto → Out} {N : L2.St → Hp → Prop} (h : FinS K mg W F H as E (o.loop k))
    (q : ∀ ρ s σ F' H' as', Ext F H as F' H' as' → St5 K F' H' as' s → EnvR K F' as' σ ρ → FinS K mg W F' H' as' E (k ρ s) → N σ H') : FinS K mg W F H as { E with nx := N, ct := N, bk := E.nx } o := by
  cases o with
  | nx ρ s => exact fun σ F' H' as' x s5 he => q ρ s σ F' H' as' x s5 he (FinS.mono x h)
  | ret d s => exact h
  | brk ρ s => exact h
  | ct ρ s => exact fun σ F' H' as' x s5 he => q ρ s σ F' H' as' x s5 he (FinS.mono x h)
  | ex x ρ s => exact h
  | bad => exact h
end
section
variable {X : Cx} {M : Md → Prop} {W : WX} {N : List Str} {sc : Scope} {k : Nat} {fl lb : Bool} {st : Stmt} {rest a b : List Stmt} {c tg iter : Expr} {pos : Pos}
theorem dss_nil : DSs X M W [] (semB .nil) := ⟨tNext, fun m hm => pss_nil, fun ρ sto σ F H as E s5 he h => by
  simp only [semB] at h
  exact h σ F H as (Ext.refl _ _ _) s5 he⟩
theorem dss_cons {f : Env → Sto → Out} {ib : IB} (h1 : DS X M W st f) (h2 : DSs X M W rest (semB ib)) : DSs X M W (st :: rest) (fun ρ s => (f ρ s).thn (semB ib)) := by
  obtain ⟨t, pt, ht⟩ := h1
  obtain ⟨u, pu, hu⟩ := h2
  refine ⟨tSeq t u, fun m hm => pss_cons (pt m hm) (pu m hm), fun ρ sto σ F H as E s5 he h => ?_⟩
  exact ht ρ sto σ F H as _ s5 he (h.thn fun ρ1 s1 σ1 F1 H1 as1 x1 t1 e1 h1 => hu ρ1 s1 σ1 F1 H1 as1 E t1 e1 h1)
theorem ds_ifs {it : IT} {ia ib : IB} (hc : DT X M W c (semT it)) (ha : DSs X M W a (semB ia)) (hb : DSs X M W b (semB ib)) :
    DS X M W (.If c a b pos) (fun ρ s => (semT it ρ s).out ρ fun k s1 => if k = true then semB ia ρ s1 else semB ib ρ s1) := by
  obtain ⟨tc, pc, hc⟩ := hc
  obtain ⟨t, pt, ht⟩ := ha
  obtain ⟨u, pu, hu⟩ := hb
  refine ⟨tIfS tc t u, fun m hm => ps_if (pc m hm) (pt m hm) (pu m hm), fun ρ sto σ F H as E s5 he h => ?_⟩
  refine hc ρ sto σ F H as _ s5 he ((FinS.out he h).imp fun k s1 F1 H1 as1 x1 t1 h1 => ?_)
  cases k with
  | true => exact ht ρ s1 σ F1 H1 as1 E t1 (he.ext x1) h1
  | false => exact hu ρ s1 σ F1 H1 as1 E t1 (he.ext x1) h1
def forBd (t : Tg) (ib : IB) : D → Env → Sto → Out := fun x ρ1 s2 => match tgSem t x ρ1 with
  | some ρ2 => semB ib ρ2 s2
  | none => .bad
theorem ds_for {t : Tg} {it : II} {ib : IB} (cc : CtxM X M W N sc k fl lb) (cs : CtxS X M) (hns : notSet iter = true) (hi : DI X M W tg iter (semI it)) (hg : DG X M tg t) (hb : DSs X M W a (semB ib)) :
    DS X M W (.For tg iter a [] pos) (fun ρ s => (semI it ρ s).out ρ fun xs s1 => forGo (forBd t ib) xs ρ s1) := by
  obtain ⟨wi, pi, hi⟩ := hi
  obtain ⟨g, pg, hg⟩ := hg
  obtain ⟨tb, pb, hb⟩ := hb
  refine ⟨tFor wi g tb, fun m hm => ps_for (X := X.wth m) (cs m hm).1 (cc m hm).calm (pi m hm) (pg m hm) (pb m hm) (folded_ok hns), fun ρ sto σ F H as E s5 he h => ?_⟩
  refine hi ρ sto σ F H as _ s5 he ((FinS.out he h).imp fun ds s1 F1 H1 as1 x1 t1 h1 J hJ => ?_)
  refine ⟨fun i m σ H => ∃ F as ρ s, i + m = ds.length ∧ Same F1 F ∧ Pre as1 as ∧ St5 X.K F H as s ∧ EnvR X.K F as σ ρ ∧ FinS X.K X.mg W F H as E (forGo (forBd t ib) (ds.drop i) ρ s),
    ⟨ds.length, F1, as1, ρ, s1, by omega, Same.refl _, Pre.refl _, t1, he.ext x1, h1⟩, ?_⟩
  rintro i m σ2 H2 ⟨F2, as2, ρ2, s2, hlen, sm, pr, t2, e2, h2⟩
  by_cases hm : i < ds.length
  · right
    refine ⟨hJ.go i F2 H2 sm t2.sub hm, _, fun σ' H' hn => ⟨m - 1, by omega, hn⟩, fun x H' hy => ?_⟩
    obtain ⟨F3, x3, t3, r3⟩ := hJ.yld i F2 H2 as2 s2 x H' _ sm pr t2 hy (List.getElem?_eq_getElem hm)
    rw [List.drop_eq_getElem_cons hm, forGo_cons] at h2
    have h3 := FinS.mono x3 h2
    cases q : tgSem t ds[i] ρ2 with
    | none =>
      rw [show forBd t ib ds[i] ρ2 s2 = .bad from by rw [forBd, q]] at h3
      exact h3.elim
    | some ρ3 =>
      rw [show forBd t ib ds[i] ρ2 s2 = semB ib ρ3 s2 from by rw [forBd, q]] at h3
      refine hg _ ρ2 ρ3 x σ2 F3 H' as2 _ t3.sub (e2.ext x3) r3 q fun σ' he' _ => ?_
      refine hb ρ3 s2 σ' F3 H' as2 _ t3 he' (h3.loop fun ρ4 s4 σ4 F4 H4 as4 x4 t4 e4 h4 => ?_)
      exact ⟨F4, as4, ρ4, s4, by omega, (sm.trans x3.fz).trans x4.fz, (pr.trans x3.pre).trans x4.pre, t4, e4, h4⟩
  · left
    refine ⟨hJ.stop i F2 H2 sm t2.sub (by omega), ?_⟩
    rw [List.drop_eq_nil_of_le (by omega), forGo] at h2
    exact h2 σ2 F2 H2 as2 (Ext.refl _ _ _) t2 e2
theorem ds_while {it : IT} {ib : IB} {n : Nat} (cs : CtxS X M) (hc : DT X M W c (semT it)) (hb : DSs X M W a (semB ib)) :
    DS X M W (.While c a [] pos) (fun ρ s => whileGo (semT it) (fun ρ1 s1 => semB ib ρ1 s1) n ρ s) := by
  obtain ⟨tc, pc, hc⟩ := hc
  obtain ⟨tb, pb, hb⟩ := hb
  refine ⟨tWhile tc tb, fun m hm => ps_while (X := X.wth m) (cs m hm).1 (pc m hm) (pb m hm), fun ρ sto σ F H as E s5 he h => ?_⟩
  refine ⟨fun m σ H => ∃ F as ρ s, St5 X.K F H as s ∧ EnvR X.K F as σ ρ ∧ FinS X.K X.mg W F H as E (whileGo (semT it) (fun ρ1 s1 => semB ib ρ1 s1) m ρ s), ⟨n, F, as, ρ, sto, s5, he, h⟩, ?_⟩
  rintro m σ2 H2 ⟨F2, as2, ρ2, s2, t2, e2, h2⟩
  cases m with
  | zero => exact h2.elim
  | succ m =>
    rw [whileGo_succ] at h2
    refine hc ρ2 s2 σ2 F2 H2 as2 _ t2 e2 ((FinS.out e2 h2).imp fun b s3 F3 H3 as3 x3 t3 h3 => ?_)
    cases b with
    | true =>
      refine ⟨_, fun σ' H' hn => ⟨m, by omega, hn⟩, hb ρ2 s3 σ2 F3 H3 as3 _ t3 (e2.ext x3) (h3.loop fun ρ4 s4 σ4 F4 H4 as4 x4 t4 e4 h4 => ?_)⟩
      exact ⟨F4, as4, ρ4, s4, t4, e4, h4⟩
    | false => exact h3 σ2 F3 H3 as3 (Ext.refl _ _ _) t3 (e2.ext x3)
end
end DV

namespace DV
open PySem PySem.Spec PyProof.Rows L2

/-! ### sorted by an item of tuples: sorted(xs, key=lambda x: x[c]) -/
section
variable {prog : Program} {w : World} {A : Around} {s : Shared}
theorem lam_item {f c' t : Addr} {q x : Str} {params : Arguments} {scope : Scope} {pm ctv u : Value} {p1 p2 p3 : Pos} {c : Nat} {items : Array Value} {Q : Value → Shared → Prop} {E : Value → Shared → Prop} {jj : Nat}
    (hroom : A.depth < recursionLimit) (lim : s.heap.NoLimit)
    (hf : s.heap.get? f = some (PySem.W.kla_obj "<lambda>" q params (.Subscript (.Name x p1) (.Constant (.int c) jj p2) p3) scope [] pm c' ctv)) (hcd : s.heap.CodeRec (.ref c') q)
    (kind : scope.kind = .function) (co : scope.isCoroutine = false) (gen : scope.isGenerator = false) (nocell : ∀ y ∈ scope.names, y.2 ≠ .cell) (loc : scope.names.lookup x = some .local) (hd : (x == ("__debug__" : Str)) = false)
    (hbind : ∀ v : Value, bindArgs (PySem.W.kla_fn "<lambda>" q params (.Subscript (.Name x p1) (.Constant (.int c) jj p2) p3) scope [] pm (.ref c') ctv) ⟨[v], []⟩ = Pure.pure [(x, v)])
    (ht : IsTup s.heap t items) (hc : c < 2 ^ 62) (hu : items[c]? = some u)
    (h : ∀ h' tk', (∀ b o, s.heap.get? b = some o → h'.get? b = some o) → Q u { s with heap := h', toks := tk' }) :
    wpAny (model prog w) A (call (.ref f) [.ref t]) Q E s := by
  refine wpAny_call (PySem.W.kla_callFunE hroom hf rfl co gen rfl hcd ?_)
  rw [hbind]
  refine wpAny_pure (wpAny_newFunctionEnv (fun y hy => nocell y hy) (fun y hy => ?_) (fun h₁ hns hsb => ⟨lim.fresh _ hsb, ?_⟩) kind)
  · rw [List.mem_singleton.mp hy]
    exact loc
  have kp : ∀ b o, s.heap.get? b = some o → h₁.get? b = some o := fun b o e => hsb.extBut b o (Nat.ne_of_lt (Heap.lt_size e)) (Heap.get?_push_of_some _ e)
  refine PySem.W.kla_codeExpr ?_
  refine Subscript_ (wpAny_Name (wpAny_loadName_local kind loc hns (v := .ref t) ?_ ?_) hd)
  · show ([(x, Value.ref t)] : List (Str × Value)).reverse.lookup x = some (.ref t)
    simp
  · refine wpAny_Constant_int ?_
    have pl : IsTup h₁ t items := by
      obtain ⟨o, ho, r⟩ := ht
      exact ⟨o, kp _ _ ho, r⟩
    have hsz : c < items.size := (Array.getElem?_eq_some_iff.mp hu).1
    have hix : seqIndex? (c : Int) items.size = some c := by
      have h0 : ¬ ((c : Int) < 0) := by omega
      simp [seqIndex?, h0, hsz]
    refine subscriptTail_builtinR (x := u) pl.typeIs slot_tuple_getitem.lookup (getItem_tuple (j := c) (Q := fun r s' => r = u ∧ _) pl (by omega) (by omega) hix hu ⟨rfl, ?_⟩) (by with_unfolding_all rfl)
    exact h _ _ kp
end
theorem extN_T {K : PySem.W.Frag} {H H' : Hp} {a : Addr} {xs : List V} (e : LamX.ExtN H H') (h : SqT K H a xs) : SqT K H' a xs := by
  rcases h with (h | ⟨o, h⟩) | h
  · exact .inl (.inl (e _ _ h fun ps z => by cases z))
  · exact .inl (.inr ⟨o, e _ _ h fun ps z => by cases z⟩)
  · exact .inr h
theorem extN_L {K : PySem.W.Frag} {H H' : Hp} {a : Addr} {xs : List V} (e : LamX.ExtN H H') (h : SqL K H a xs) : SqL K H' a xs := by
  rcases h with (h | ⟨o, h⟩) | h
  · exact .inl (.inl (e _ _ h fun ps z => by cases z))
  · exact .inl (.inr ⟨o, e _ _ h fun ps z => by cases z⟩)
  · exact .inr h
/-- one parameter, nothing else of one's own -/
def lamSc (x : Str) (scope : Scope) : Bool := decide (scope.kind = .function) && (!scope.isCoroutine && (!scope.isGenerator && (decide (scope.names.lookup x = some .local) && ((scope.names.all fun y => !decide (y.2 = .cell) && !decide (y.2 = .free)) && !(x == ("__debug__" : Str))))))
def eachIs_of {f : Value → V → Prop} : ∀ {xs : List V} {us : List Value}, Vals xs us → PySem.W.EachIs (fun v x => RelV x v) us xs
  | _, _, .nil => .nil
  | _, _, .cons r t => .cons r (eachIs_of (f := f) t)
theorem vals_of_each : ∀ {xs : List V} {us : List Value}, PySem.W.EachIs (fun v x => RelV x v) us xs → Vals xs us
  | _, _, .nil => .nil
  | _, _, .cons r t => .cons r (vals_of_each t)
def rSortK (K : PySem.W.Frag) (c : Nat) : List V → Hp → VK → Prop := fun vs H1 Q => ∃ (a : Addr) (xs : List V) (κ : V → Int), vs = [.ref a] ∧ SqL K H1 a xs ∧ (∀ y ∈ xs, ∃ t ys, y = .ref t ∧ SqT K H1 t ys ∧ ys[c]? = some (.int (κ y))) ∧ LamX.Tabs (tabsOf K) H1 ∧
  ∀ H2, LamX.ExtN H1 H2 → LamX.Tabs (tabsOf K) H2 → ∀ p, H2 p = none → Q (.ref p) (upd H2 p (.lst (xs.mergeSort fun y z => decide (κ y ≤ κ z))))
def tSortK (K : PySem.W.Frag) (c : Nat) (ta : TA) : TE := fun σ H Q => ta σ H fun vs H1 => rSortK K c vs H1 Q
section
variable {X : Cx}
theorem pe_sortK {k : Nat} {e : Expr} {ta : TA} {x : Str} {params : Arguments} {scope : Scope} {c jj : Nat} {p p1 p2 p3 lpos kp pos : Pos} (hlam : LamC X) (hr : Room k X.A) (hg : Gl X "sorted") (hm : X.mg "sorted" = none) (ha : PA X [e] ta) (hst : isStar e = false) (hc : c < 2 ^ 62)
    (hs : lamSc x scope = true) (hdef : defaultsOf params X.env = ([], [])) (hbind : ∀ (q : Str) (body : Expr) (pm cv ctv v : Value), bindArgs (PySem.W.kla_fn "<lambda>" q params body scope [] pm cv ctv) ⟨[v], []⟩ = Pure.pure [(x, v)]) :
    PE X (.Call (.Name "sorted" p) [e] [⟨some "key", .Lambda params (.Subscript (.Name x p1) (.Constant (.int c) jj p2) p3) scope lpos, kp⟩] pos) (tSortK X.K c ta) := by
  refine ⟨fun pins s σ H Q I h => ?_⟩
  obtain ⟨cd, P, hcode, TB, hmT, hu⟩ := hlam
  unfold lamSc at hs
  simp only [Bool.and_eq_true, decide_eq_true_eq, Bool.not_eq_true', List.all_eq_true, decide_eq_false_iff_not] at hs
  obtain ⟨kind, co, gen, loc, own, hd⟩ := hs
  refine wpAny_Call_Name_kw (ld_blt I hg hm (show bootBuiltins "sorted" = some (.builtin "sorted") by decide +kernel) ?_ (by decide) (by decide))
  refine PyProof.Rows.callWith_kw (thn (ha.run pos pins s σ H _ I h) fun us s1 ⟨vs, H1, I1, r1, q1⟩ => ?_) (by rw [star_cons hst]; rfl) (by rw [star_cons hst]; rfl) (by rfl) (by rfl)
  obtain ⟨a, xs, κ, rfl, hL, hT, tabs, q⟩ := q1
  obtain ⟨u, rfl, ru⟩ := vals1 r1
  obtain rfl : u = Value.ref a := ru
  show wpAny _ _ (evalAll ((do let v ← eval (.Lambda params (.Subscript (.Name x p1) (.Constant (.int c) jj p2) p3) scope lpos) X.env; standAt pos; Pure.pure v) :: [])) _ _ s1
  have nofree : ∀ y ∈ scope.names, y.2 = .free → ∃ c, X.env.cells.lookup y.1 = some c := fun y hy z => absurd z (own y hy).2
  refine wpAny_evalAll_cons (wpAny_bind (LamX.lam_make2 I1 TB hcode hmT hu tabs hdef nofree fun f c' pm ctv H2 s2 I2 eN T2 hf hfn hfr hco => wpAny_bind (wpAny_standAt (wpAny_pure (wpAny_evalAll_nil ?_)))))
  show wpAny _ _ (call (.builtin "sorted") [.ref a] [(Str.ofString "key", .ref f)]) _ _ s2
  have hclo : cloFrom X.env.cells scope.names [] = [] := by
    cases z : cloFrom X.env.cells scope.names [] with
    | nil => rfl
    | cons y r =>
      have hm : y ∈ cloFrom X.env.cells scope.names [] := by rw [z]; exact List.mem_cons_self
      rcases cloFrom_mem (n := y.1) (c := y.2) hm with h1 | ⟨h1, _⟩
      · cases h1
      · exact absurd rfl (own _ h1).2
  rw [hclo] at hf
  obtain ⟨⟨oc, vc, tc, hoc, hdc, hvc⟩, _, _⟩ := I2.hok c' _ hco
  obtain ⟨its, rv, hl, hz⟩ := I2.list (extN_L eN hL)
  have hlen := rv.length
  have hdp : X.A.depth < recursionLimit := by have := hr.dp; omega
  have hun : X.A.units + 2 < cLine := by have := hr.un; omega
  refine PySem.W.sorted_key_data (R := fun v x => RelV x v) (bs := xs) (b := false) (fun y => .int (κ y)) hl.isList (eachIs_of (f := fun _ _ => True) rv) (fun d hd d' hd' => ?_) (.inr fun d hd => ?_) hz (fun y hy => ?_) (PyProof.Rows.ksk_s1 _ _) (fun _ => PyProof.Rows.ksk_l1 _ _) (fun _ => PyProof.Rows.ksk_t1 _ _) (fun v y hR hy h tk kp => ?_) fun out cc h' tk kp fr hD hlo he => ?_
  · obtain ⟨y, _, rfl⟩ := List.mem_map.mp hd
    obtain ⟨y', _, rfl⟩ := List.mem_map.mp hd'
    rfl
  · obtain ⟨y, _, rfl⟩ := List.mem_map.mp hd
    exact ⟨(fun z => by cases z), fun xs z => by cases z⟩
  · show _ + 0 < cLine
    omega
  · obtain ⟨t, ys, rfl, ht, hk⟩ := hT y hy
    obtain rfl : v = Value.ref t := hR
    obtain ⟨its2, r2, pl, hz2⟩ := I2.tuple (extN_T eN ht)
    obtain ⟨u, hu2, ru2⟩ := r2.get hk
    obtain ⟨tk2, rfl⟩ := ru2
    refine lam_item (A := X.A.in1.in1) (items := its2.toArray) hdp (I2.nolimit.keeps kp) (kp _ _ hf) ⟨c', oc, vc, tc, rfl, kp _ _ hoc, hdc, hvc⟩ kind co gen (fun y hy => (own y hy).1) loc hd (fun v => hbind _ _ _ _ _ v) ?_ hc (by simpa using hu2) fun h' tk' kp' => ⟨h', tk', rfl, kp', .int _ _⟩
    obtain ⟨o, ho, r⟩ := pl
    exact ⟨o, kp _ _ ho, r⟩
  · have e1 : (PySem.W.dataLe false fun y : V => PyData.int (κ y)) = fun y z => decide (κ y ≤ κ z) := PySem.W.dataLe_int κ
    rw [e1] at he
    have rv2 := vals_of_each he
    have hp : H2 (s2.heap.objs.size + 1) = none := I2.hok.fresh (Nat.le_succ _)
    refine ⟨.ref _, upd H2 (s2.heap.objs.size + 1) (.lst (xs.mergeSort fun y z => decide (κ y ≤ κ z))), I2.laid (t' := tk) kp (Nat.le_succ _) ⟨?_, out, cc, rv2, hD⟩, rfl, q H2 eN T2 _ hp⟩
    rw [List.length_mergeSort]
    exact hz
end
theorem St5.extN {K : PySem.W.Frag} {F H H' : Hp} {as : List Addr} {sto : Sto} (s : St5 K F H as sto) (e : LamX.ExtN H H') (t : LamX.Tabs (tabsOf K) H') : St5 K F H' as sto ∧ Ext F H as F H' as :=
  ⟨⟨fun b o q => e b o (s.sub b o q) fun ps z => s.nof b ps (by rw [q, z]), s.len, s.nd, t, s.nof, fun n a c e1 e2 => by
      have h := s.cell n a c e1 e2
      cases c with
      | lst ds =>
        obtain ⟨h1, xs, h2, h3⟩ := h
        exact ⟨h1, xs, e _ _ h2 (fun ps z => by cases z), h3⟩
      | dead =>
        obtain ⟨xs, h2⟩ := h
        exact ⟨xs, e _ _ h2 fun ps z => by cases z⟩⟩,
    ⟨Same.refl F, fun b o h1 h2 h3 => ⟨e b _ h1 (fun ps z => by cases z), h2, h3⟩, Pre.refl as⟩⟩
def paramB (ps : Arguments) (x : Str) : Bool := match ps with
  | ⟨[], [⟨y, none, _⟩], none, [], [], none, []⟩ => decide (y = x) && decide (x = ("row" : Str))
  | _ => false
section
variable {K : PySem.W.Frag} {F H : Hp} {as : List Addr}
theorem each_rep : ∀ {vs : List V} {ds : List D}, RepAll K F as vs ds → PySem.W.EachIs (Rep K F as) vs ds
  | _, _, .nil => .nil
  | _, _, .cons r t => .cons r (each_rep t)
theorem rep_each : ∀ {vs : List V} {ds : List D}, PySem.W.EachIs (Rep K F as) vs ds → RepAll K F as vs ds
  | _, _, .nil => .nil
  | _, _, .cons r t => .cons r (rep_each t)
theorem rep_zip : ∀ {vs : List V} {ds : List D}, RepAll K F as vs ds → ∀ p ∈ vs.zip ds, Rep K F as p.1 p.2 ∧ p.2 ∈ ds
  | _, _, .nil, p, h => by cases h
  | _, _, .cons r t, p, h => by
    rcases List.mem_cons.mp h with rfl | h
    · exact ⟨r, List.mem_cons_self ..⟩
    · obtain ⟨h1, h2⟩ := rep_zip t p h
      exact ⟨h1, List.mem_cons_of_mem _ h2⟩
theorem rep_mem : ∀ {vs : List V} {ds : List D}, RepAll K F as vs ds → ∀ v ∈ vs, ∃ d ∈ ds, Rep K F as v d
  | _, _, .nil, v, h => by cases h
  | _, _, .cons r t, v, h => by
    rcases List.mem_cons.mp h with rfl | h
    · exact ⟨_, List.mem_cons_self .., r⟩
    · obtain ⟨d, h1, h2⟩ := rep_mem t v h
      exact ⟨d, List.mem_cons_of_mem _ h1, h2⟩
/-- the key of a value -/
def keyV (F : Hp) (c : Nat) : V → Int
  | .ref t => (match F t with
    | some (.tup ys) => (match ys[c]? with
      | some (.int k) => k
      | _ => 0)
    | _ => 0)
  | _ => 0
theorem key_rep {v : V} {d : D} {c : Nat} {k : Int} (r : Rep K F as v d) (h : keyAt c d = some k) : ∃ t ys, v = .ref t ∧ F t = some (.tup ys) ∧ ys[c]? = some (.int k) ∧ keyV F c v = k := by
  unfold keyAt at h
  split at h
  · rename_i xs
    split at h
    · rename_i k' hk
      cases h
      cases r with
      | tup e ra =>
        obtain ⟨w, hw, rw'⟩ := ra.get hk
        cases rw'
        exact ⟨_, _, rfl, e, hw, by simp only [keyV, e, hw]⟩
    · cases h
  · cases h
end
section
variable {X : Cx} {M : Md → Prop} {W : WX} {N : List Str} {sc : Scope} {k : Nat} {fl : Bool} {e : Expr}
theorem de_sortK {ia : IE} {m : Bool} {x : Str} {params : Arguments} {scope : Scope} {c jj : Nat} {p p1 p2 p3 lpos kp pos : Pos} (cc : CtxM X M W N sc k fl true) (hg : sc.names.lookup ("sorted" : Str) = some .globalImplicit) (hst : isStar e = false) (hc : c < 2 ^ 62)
    (hs : lamSc x scope = true) (hp : paramB params x = true) (ha : DE X M W e (semE ia)) :
    DE X M W (.Call (.Name "sorted" p) [e] [⟨some "key", .Lambda params (.Subscript (.Name x p1) (.Constant (.int c) jj p2) p3) scope lpos, kp⟩] pos) (semE (.sortK m ia c)) := by
  obtain ⟨te, pe, ha⟩ := ha
  unfold paramB at hp
  split at hp
  · rename_i y ap
    rw [Bool.and_eq_true] at hp
    have hy := of_decide_eq_true hp.1
    have hx := of_decide_eq_true hp.2
    subst hy hx
    refine ⟨tSortK X.K c (tCons te tNil), fun m hm => pe_sortK (X := X.wth m) ((cc m hm).lam rfl) (cc m hm).room (gl_of (cc m hm) hg) ((cc m hm).bi _ (by decide +kernel)) (pa_cons (hs := star_cons hst) (pe m hm) pa_nil) hst hc hs rfl (fun _ _ _ _ _ _ => by rfl), fun ρ sto σ F H as Q s5 he h => ?_⟩
    simp only [semE] at h
    refine ha ρ sto σ F H as _ s5 he (h.bind.imp fun d s1 F1 H1 as1 e1 t1 h1 v rv => ?_)
    show rSortK X.K c [v] H1 Q
    unfold sortKSem at h1
    split at h1
    · rename_i ds hds
      obtain ⟨hall, h1⟩ := fin_if h1
      obtain ⟨a, xs, rfl, hL, ra⟩ := lst_at t1 rv hds
      refine ⟨a, xs, keyV F1 c, rfl, hL, fun y hy => ?_, t1.tab, fun H2 eN T2 p hp => ?_⟩
      · obtain ⟨d', hd', r'⟩ := rep_mem ra y hy
        obtain ⟨k', hk'⟩ := Option.isSome_iff_exists.mp (List.all_eq_true.mp hall d' hd')
        obtain ⟨t, ys, q1, q2, q3, q4⟩ := key_rep r' hk'
        exact ⟨t, ys, q1, .of (t1.sub _ _ q2), by rw [q4]; exact q3⟩
      · obtain ⟨t2, x2⟩ := t1.extN eN T2
        have rs : RepAll X.K F1 as1 (xs.mergeSort fun y z => decide (keyV F1 c y ≤ keyV F1 c z)) (ds.mergeSort (keyLe c)) := rep_each (PySem.W.sort_each (each_rep ra) fun p hp q hq => by
          obtain ⟨r1, m1⟩ := rep_zip ra p hp
          obtain ⟨r2, m2⟩ := rep_zip ra q hq
          obtain ⟨k1, hk1⟩ := Option.isSome_iff_exists.mp (List.all_eq_true.mp hall _ m1)
          obtain ⟨k2, hk2⟩ := Option.isSome_iff_exists.mp (List.all_eq_true.mp hall _ m2)
          obtain ⟨_, _, _, _, _, q1⟩ := key_rep r1 hk1
          obtain ⟨_, _, _, _, _, q2⟩ := key_rep r2 hk2
          rw [q1, q2]
          unfold keyLe
          rw [hk1, hk2]
          rfl)
        exact fin_newL (mg := X.mg) (W := W) (σ := σ) t2 rs (Fin.mono x2 h1) p hp
    · exact h1.elim
  · cases hp
end
end DV

namespace DV
open PySem PySem.Spec PyProof.Rows L2

/-! ### a caught exception is kept -/
section
variable {X : Cx} {pins : List (Addr × Obj)} {σ : L2.St} {H : Hp} {s : Shared}
/-- from then on the heap tracks it -/
theorem inv_keep {a : Addr} {oe : Obj} {cls : Value} {d : Option Addr} {vs : Array Value} (I : Inv X ((a, oe) :: pins) σ H s) (hz : Zc cls d oe) (hd : oe.data = .fields vs) (n0 : X.s_0.heap.get? a = none) (np : ∀ p ∈ X.pn ++ pins, p.1 ≠ a) :
    Inv X pins σ (upd H a (ExcO a cls d)) s := by
  obtain ⟨ha, na, nL, nF, nc⟩ := I.pin (a, oe) (List.mem_append_right _ (List.mem_cons_self ..))
  have ne : ∀ {b : Addr} {o : HO}, H b = some o → b ≠ a := fun e => ne_of_none e na
  have cell : ∀ {c : Addr} {v : Option Value}, s.heap.IsCell c v → c ≠ a := fun {c v} ⟨o, ho, hc⟩ z => by
    subst z
    have ha : s.heap.get? c = some oe := ha
    rw [ha] at ho
    cases ho
    exact nc v hc
  refine ⟨I.ok, I.os, I.bare, ⟨I.base.keep, I.base.slot, fun b o e n hx => ?_, I.base.there, fun b xs e => ?_, fun b o u e => ?_, fun b ps e => ?_⟩, I.loc, I.cell, ?_, fun x c e => ?_, fun p hp => ?_, fun b o e => ?_, I.len⟩
  · have : b ≠ a := fun z => by rw [z, n0] at e; cases e
    rw [upd_ne this]
    exact I.base.free b o e n hx
  · have := I.base.tups b xs e
    rw [upd_ne (ne this)]
    exact this
  · have := I.base.frzs b o u e
    rw [upd_ne (ne this)]
    exact this
  · obtain ⟨more, this⟩ := I.base.tbls b ps e
    exact ⟨more, by rw [upd_ne (ne this)]; exact this⟩
  · rw [upd_ne (Ne.symm nL)]
    exact I.free
  · obtain ⟨v, z⟩ := I.cell x c e
    rw [upd_ne (cell z)]
    exact I.freeC x c e
  · have hp' : p ∈ X.pn ++ ((a, oe) :: pins) := by
      rcases List.mem_append.mp hp with h | h
      · exact List.mem_append_left _ h
      · exact List.mem_append_right _ (List.mem_cons_of_mem _ h)
    obtain ⟨h1, h2, h3, h4, h5⟩ := I.pin p hp'
    exact ⟨h1, by rw [upd_ne (np p hp)]; exact h2, h3, h4, h5⟩
  · by_cases hb : b = a
    · subst hb
      rw [upd_same] at e
      cases e
      have ha : s.heap.get? b = some oe := ha
      exact ⟨⟨oe, vs, ha, hz, hd⟩, ⟨oe, ha⟩, fun h1 h2 ⟨oe', vs', a1, a2, a3⟩ st => ⟨oe', vs', st _ a1, a2, a3⟩⟩
    · rw [upd_ne hb] at e
      refine (I.hok b o e).stay (fun c v hc q => q) (fun d q => by rw [upd_ne (ne q)]; exact q) fun d xs q => by rw [upd_ne (ne q)]; exact q
end
/-- what 'except x as n: y = n' wishes of an exception of the body: slot i is n's, slot j is y's -/
def wKeep (K : PySem.W.Frag) (c : Value) (i j : Nat) (Wout : WX) (D : Ends) : WX := fun cls d σ H =>
  ∃ b, PySem.W.exmOne K cls c = some b ∧ (b = true → ∀ a, H a = none → D.nx (((σ.set i (some (.ref a))).set j (some (.ref a))).set i none) (upd H a (ExcO a cls d))) ∧ (b = false → Wout cls d σ H)
section
variable {X : Cx} {x n y : Str} {c : Value} {i j : Nat} {body : List Stmt} {np p1 p2 p3 pos pos' : Pos} {tb : WX → TS} {Wout : WX}
theorem ps_try_keep (hs : X.stack = X.env :: X.outer) (hf : X.env.frame = some X.env.locals) (hex : X.ex = []) (hN : X.N.Nodup) (hi : X.N[i]? = some n) (hln : X.env.kindOf n = some .local) (hj : X.N[j]? = some y) (hly : X.env.scope.names.lookup y = some .local)
    (hdn : (n == ("__debug__" : Str)) = false) (hcn : (n == ("__classdict__" : Str)) = false) (hc : Names X x c) (tk : Takes X Wout)
    (hb : ∀ (W : WX) (pn : List (Addr × Obj)) (xe : Value → Shared → Prop), Takes (X.tr pn xe) W → PassesOwn (model X.prog X.w) X.A X.env xe → PSs (X.tr pn xe) body (tb W)) :
    PS X (.Try body [.ExceptHandler (some (.Name x np)) (some n) [.Assign [.Name y p1] (.Name n p2) p3] pos'] [] [] pos) (fun D σ H => tb (wKeep X.K c i j Wout D) D σ H) := by
  refine ⟨fun pins s σ H D I h => ?_⟩
  have ok := I.ok
  have hfr : X.A.frames = some (X.env :: X.outer) := by rw [ok.frames, hs]
  have hloc : Loc X.env.scope n := .inl hln
  have hij : i < X.N.length := (List.getElem?_eq_some_iff.mp hi).1
  refine wpAny_Try_except ?_
  refine wpAny_mono ((hb (wKeep X.K c i j Wout D) (X.pn ++ pins) (fun e s₁ => wpAny (model X.prog X.w) X.A (noteFrame e X.env) (fun _ s₂ => wpAny (model X.prog X.w) X.A (setFlight e none) (fun _ s₃ =>
    wpAny (model X.prog X.w) X.A (handleBy e X.env [.ExceptHandler (some (.Name x np)) (some n) [.Assign [.Name y p1] (.Name n p2) p3] pos']) (SP X pins D) X.xe s₃) X.xe s₂) X.xe s₁) (fun u s' xx => ?_) PassesOwn.looking).run [] s σ H D (I.toTry _) h) (fun f s1 hsp => ?_) (fun e s1 he => he)
  · -- the catch
    obtain ⟨a, B, sI, pins', σ', H', cls, d, rfl, J', nb, up, sky, na, os, ag, b, hb1, hyes, hno⟩ := xx
    have J : Inv X pins σ' H' sI := J'.ofTry ok
    have sky' : Sky B (X.env :: X.outer) a (Zc cls d) X.env.locals s'.heap := by rw [← hs]; exact sky
    have nB : B.get? a = none := by
      rcases sky' with ⟨_, q, _⟩ | fl | hd
      · exact q
      · exact fl.2.1
      · exact hd.2.1
    show wpAny (model X.prog X.w) X.A (noteFrame (.ref a) X.env) _ _ _
    refine Sky.land Zc.steady hfr hf sky' fun h3 fl3 up3 => ?_
    have J3 : Inv X pins σ' H' { s' with heap := h3 } := J.landed nb fl3.1 (up.trans up3) os ag
    obtain ⟨oe3, vs3, he3, hz3, hd3⟩ := fl3.there
    have notFr : ∀ {h : Heap} {o : Obj} {vs : Array Value}, h.FunFrames B (X.env :: X.outer) → h.get? a = some o → o.data = .fields vs → a ∉ frs (X.env :: X.outer) := fun {h o vs} ff e dd hm => by
      obtain ⟨_, o', e', hnf⟩ := ff.mem hm
      rw [e] at e'; cases e'
      exact hnf _ dd
    have nfr := notFr fl3.2.2.1 he3 hd3
    have nL : a ≠ X.env.locals := fun z => nfr (List.mem_filterMap.mpr ⟨X.env, List.mem_cons_self, by rw [hf, z]⟩)
    have nF : a ∉ X.fs := fun hm => by
      obtain ⟨e, he, q⟩ := List.mem_filterMap.mp hm
      exact nfr (List.mem_filterMap.mpr ⟨e, List.mem_cons_of_mem _ he, q⟩)
    have n0 : X.s_0.heap.get? a = none := by
      cases q : X.s_0.heap.get? a with
      | none => rfl
      | some o =>
        obtain ⟨o', e'⟩ := J.base.there a o q (by rw [hex]; exact List.not_mem_nil)
        have := nb a o' e' (by rw [hs]; exact nfr)
        rw [nB] at this
        cases this
    have npn : ∀ p ∈ X.pn ++ pins, p.1 ≠ a := fun p hp z => by
      obtain ⟨e, _⟩ := J.pin p hp
      have := nb p.1 _ e (by rw [hs, z]; exact nfr)
      rw [z, nB] at this
      cases this
    have S3 := J3.suite he3 hd3 na nL nF
    refine wpAny_handleBy_cons (codeAny_handlers_test ?_) (by intro q; cases q)
    have LT : PySem.W.Looks (model X.prog X.w) h3 (typeOf (.ref a)) cls := fun A Q E s k q => wpAny_typeOf_ref (k _ _ he3) (by rw [hz3.1]; exact q)
    have LM := PySem.W.exm_one (M := model X.prog X.w) (J3.kIn) LT hb1
    have test : ∀ {Q : Value → Shared → Prop} {E : Value → Shared → Prop}, Q c { s' with heap := h3 } → wpAny (model X.prog X.w) (X.A.mark (some (.ref a))) (eval (.Name x np) X.env) Q E { s' with heap := h3 } := fun {Q E} q => by
      obtain ⟨hg, hdbg, hm | ⟨hm, hv, hnn⟩⟩ := hc
      · exact ld_glob (X := X.suite a ((a, oe3) :: (X.pn ++ pins))) S3 hg hm q hdbg
      · exact ld_blt (X := X.suite a ((a, oe3) :: (X.pn ++ pins))) S3 hg hm hv q hnn hdbg
    refine test (LM.here ?_)
    cases b with
    | true =>
      refine codeAny_handlers_suite_as ?_
      refine HandSPX.lands_againZ fl3 fun h4 fl4 up4 => ?_
      have J4 : Inv X pins σ' H' { s' with heap := h4 } := J.landed nb fl4.1 ((up.trans up3).trans up4) os ag
      obtain ⟨oe4, vs4, he4, hz4, hd4⟩ := fl4.there
      have S4 := J4.suite he4 hd4 na nL nF
      refine store_ok (X := X.suite a ((a, oe4) :: (X.pn ++ pins))) (v := .ref a) S4 hN hi hloc rfl (fun s5 S5 => ?_) (.inr hln)
      have hsu : PSs (X.suite a ((a, oe4) :: (X.pn ++ pins))) [.Assign [.Name y p1] (.Name n p2) p3] _ := pss_one (ps_asg (pos := p3) (pe_var (pos := p2) hi (.inl hln) hdn hcn) (pg_name (pos := p1) hN hj (.inl hly) (.inr hly)))
      have hiσ : i < σ'.length := by rw [J.len]; exact hij
      have at_i : (σ'.set i (some (V.ref a)))[i]? = some (some (.ref a)) := List.getElem?_set_self hiσ
      refine wpAny_mono (hsu.run [] s5 _ H' ⟨fun σ6 H6 => σ6 = (σ'.set i (some (.ref a))).set j (some (.ref a)) ∧ H6 = H', fun _ _ => False, fun _ _ => False, fun _ _ => False⟩ S5 ⟨.ref a, at_i, rfl, rfl⟩) (fun f s6 hsp => ?_) (fun _ _ z => False.elim z)
      cases f with
      | next =>
        obtain ⟨σ6, H6, S6, rfl, rfl⟩ := hsp
        have S7 : Inv X ((a, oe4) :: pins) ((σ'.set i (some (.ref a))).set j (some (.ref a))) H6 s6 := ⟨ok, S6.os, S6.bare, S6.base, S6.loc, S6.cell, S6.free, S6.freeC, fun p hp => S6.pin p (by
          rcases List.mem_append.mp hp with h | h
          · exact List.mem_append_left _ (List.mem_cons_of_mem _ (List.mem_append_left _ h))
          · rcases List.mem_cons.mp h with h | h
            · exact List.mem_append_left _ (h ▸ List.mem_cons_self ..)
            · exact List.mem_append_left _ (List.mem_cons_of_mem _ (List.mem_append_right _ h))), S6.hok, S6.len⟩
        exact gone_ok S7 hN hi hln fun s7 J7 => ⟨_, _, inv_keep J7 hz4 hd4 n0 npn, hyes rfl a na⟩
      | brk =>
        obtain ⟨σ6, H6, S6, q6⟩ := hsp
        exact q6.elim
      | cont =>
        obtain ⟨σ6, H6, S6, q6⟩ := hsp
        exact q6.elim
      | ret u =>
        obtain ⟨v6, σ6, H6, S6, r6, q6⟩ := hsp
        exact q6.elim
    | false =>
      show wpAny _ X.A (handleBy (.ref a) X.env []) _ _ _
      refine wpAny_handleBy_nil ?_
      obtain ⟨k1, k2, k3, oe, vs, T, oT, ts', he, hz, hd, h1, hr⟩ := id fl3
      unfold PySem.passOn
      refine wpAny_bind (wpAny_field he hd h1 ?_)
      rw [if_neg (show ¬ ((Value.ref T == Value.none) = true) from by simp)]
      have fin : wpAny (model X.prog X.w) X.A (setFlight (.ref a) X.env.frame) (fun _ s4 => wpAny (model X.prog X.w) X.A (throw (.ref a) : Sem Flow) (SP X pins D) X.xe s4) X.xe { s' with heap := h3 } := by
        rw [hf]
        refine HandSPX.setFlight_upZ fl3 fun h4 hh4 up4 => wpAny_throw (tk _ _ ?_)
        exact ⟨a, B, sI, pins, σ', H', cls, d, rfl, J, nb, (up.trans up3).trans up4, .inr (.inr (by rw [hs]; exact hh4)), na, os, ag, hno rfl⟩
      first
        | exact wpAny_bind (wpAny_pure (wpAny_bind fin))
        | exact wpAny_bind fin
  · cases f with
    | next =>
      obtain ⟨σ', H', J', q⟩ := hsp
      exact wpAny_execs_nil ⟨σ', H', J'.ofTry ok, q⟩
    | brk =>
      obtain ⟨σ', H', J', q⟩ := hsp
      exact ⟨σ', H', J'.ofTry ok, q⟩
    | cont =>
      obtain ⟨σ', H', J', q⟩ := hsp
      exact ⟨σ', H', J'.ofTry ok, q⟩
    | ret u =>
      obtain ⟨v, σ', H', J', r, q⟩ := hsp
      exact ⟨v, σ', H', J'.ofTry ok, r, q⟩
end
end DV

namespace DV
open PySem PySem.Spec PyProof.Rows L2

/-! ### exceptions of own classes -/
/-- a class that is made with a text, over ValueError -/
structure ExcN (K : PySem.W.Frag) (x : Str) : Prop where
  ex : PySem.W.excIn K (He.ga K x) He.veBase "ValueError.__new__" = true
  kp : PySem.W.keepIn K (.ref (He.ga K x)) = true
  be : PySem.W.subIn K (.ref (He.ga K x)) (.type "BaseException") = some true
  ty : PySem.W.typeIn K (.ref (He.ga K x)) = some (.type "type")
def RaiseOk (K : PySem.W.Frag) (mg : Str → Option Value) (c : Str) : Prop := mg c = some (.ref (He.ga K c)) ∧ ExcN K c
def IsxOk (K : PySem.W.Frag) (mg : Str → Option Value) (y : Str) (tbl : List (Str × Bool)) : Prop := mg y = some (.ref (He.ga K y)) ∧ PySem.W.kitOne K (.type "NoneType") (.ref (He.ga K y)) = some false ∧
  ∀ p ∈ tbl, ExcC K (He.ga K p.1) ∧ PySem.W.kitOne K (.ref (He.ga K p.1)) (.ref (He.ga K y)) = some p.2
def IsbOk (K : PySem.W.Frag) (mg : Str → Option Value) (y : String) (tbl : List (Str × Bool)) : Prop := mg (Str.ofString y) = none ∧ PySem.W.kitOne K (.type "NoneType") (.type y) = some false ∧
  ∀ p ∈ tbl, ExcC K (He.ga K p.1) ∧ PySem.W.kitOne K (.ref (He.ga K p.1)) (.type y) = some p.2
def FldOk (K : PySem.W.Frag) (f : Str) (cs : List Str) : Prop := ∀ c ∈ cs, XfC K (He.ga K c) ∧ PySem.W.findIn K (.ref (He.ga K c)) f = some none
def CatchOk (K : PySem.W.Frag) (mg : Str → Option Value) (x : Str) (tbl : List (Str × Bool)) : Prop := mg x = some (.ref (He.ga K x)) ∧ ∀ p ∈ tbl, PySem.W.exmOne K (.ref (He.ga K p.1)) (.ref (He.ga K x)) = some p.2
theorem tbl_mem {tbl : List (Str × Bool)} {c : Str} {b : Bool} (h : tbl.lookup c = some b) : (c, b) ∈ tbl := PySem.mem_of_lookup h

/-- isinstance(e, c), e a tracked exception -/
def rIsX (K : PySem.W.Frag) : List V → Hp → VK → Prop := fun xs H Q => ∃ (a D : Addr) (d : Option Addr) (c : V) (cv : Value) (b : Bool), xs = [.ref a, c] ∧ H a = some (ExcO a (.ref D) d) ∧ (d = none ∨ ∃ dd fv, d = some dd ∧ H dd = some (.xd fv)) ∧ ExcC K D ∧ ClsV c cv ∧ PySem.W.kitOne K (.ref D) cv = some b ∧ Q (.bl b) H
section
variable {X : Cx}
theorem inst_of {pins : List (Addr × Obj)} {σ : L2.St} {H : Hp} {s : Shared} {a D : Addr} {d : Option Addr} (I : Inv X pins σ H s) (h : H a = some (ExcO a (.ref D) d)) (hd : d = none ∨ ∃ dd fv, d = some dd ∧ H dd = some (.xd fv)) :
    ∃ oe od, PySem.W.InstAt s.heap a oe D od ∧ oe.dict = d ∧ (∀ dd, d = some dd → ∃ o, od = some o ∧ s.heap.get? dd = some o) := by
  obtain ⟨⟨oe, vs, ha, hz, hf⟩, _, _⟩ := (show ObjOk X.prog X.w H s.heap a (ExcO a (.ref D) d) from I.hok a _ h)
  have no : PySem.W.notCls oe = true := by unfold PySem.W.notCls; rw [hf] <;> rfl
  rcases hd with rfl | ⟨dd, fv, rfl, e⟩
  · exact ⟨oe, none, ⟨ha, hz.1, no, by rw [hz.2]; trivial⟩, hz.2, fun dd z => by cases z⟩
  · obtain ⟨o, ho⟩ := objOk_get (I.hok dd _ e)
    exact ⟨oe, some o, ⟨ha, hz.1, no, by rw [hz.2]; exact ho⟩, hz.2, fun d2 z => by cases z; exact ⟨o, rfl, ho⟩⟩
theorem call_isX : CallR X (.builtin "isinstance") (rIsX X.K) := by
  intro pins s σ H xs us Q I r h
  obtain ⟨a, D, d, c, cv, b, rfl, hh, hd, C, k, e, q⟩ := h
  obtain ⟨u1, u2, rfl, r1, r2⟩ := vals2 r
  obtain rfl : u1 = Value.ref a := r1
  have e2 := k.eq r2
  subst e2
  obtain ⟨oe, od, J, _⟩ := inst_of I hh hd
  have cl : (PySem.W.clsIn X.K D).isSome = true := by
    obtain ⟨cd, hc, _⟩ := PySem.W.any_some C.hd
    rw [hc] <;> rfl
  exact PySem.W.kia_one (PySem.W.kitx_exc cl C.hg C.hk C.hs C.ha C.hn C.ht C.hm) I.kIn J e (fun z => nomatch z) fun tk => ⟨.bl b, H, I.kept (t' := tk) fun _ _ z => z, rfl, q⟩
end
section
variable {X : Cx} {M : Md → Prop} {W : WX} {N : List Str} {sc : Scope} {k : Nat} {fl lb : Bool} {e a b : Expr} {p p2 p3 p4 pos : Pos}
/-- what a value stands for, an exception or None -/
theorem isx_at {K : PySem.W.Frag} {F H : Hp} {as : List Addr} {sto : Sto} {v : V} {c : Str} {ns : List Str} {ds : List D} (s : St5 K F H as sto) (r : Rep K F as v (.exc c ns ds)) : ∃ a d, v = .ref a ∧ H a = some (ExcO a (.ref (He.ga K c)) d) ∧ (d = none ∨ ∃ dd fv, d = some dd ∧ H dd = some (.xd fv)) := by
  cases r with
  | exc0 e => exact ⟨_, none, rfl, s.sub _ _ e, .inl rfl⟩
  | exc e1 e2 e3 e4 r => exact ⟨_, _, rfl, s.sub _ _ e1, .inr ⟨_, _, rfl, s.sub _ _ e2⟩⟩
theorem isx_fin {K : PySem.W.Frag} {mg : Str → Option Value} {σ : L2.St} {F H : Hp} {as : List Addr} {s : Sto} {d : D} {v cx : V} {cv : Value} {tbl : List (Str × Bool)} {Q : VK} (t1 : St5 K F H as s) (rv : Rep K F as v d) (k : ClsV cx cv)
    (hn : PySem.W.kitOne K (.type "NoneType") cv = some false) (ht : ∀ p ∈ tbl, ExcC K (He.ga K p.1) ∧ PySem.W.kitOne K (.ref (He.ga K p.1)) cv = some p.2)
    (h1 : Fin K mg W σ F H as (isxSem tbl d s) (fun d' _ F' H' as' => ∀ v, Rep K F' as' v d' → Q v H')) : (fun xs H Q => rIsi K xs H Q ∨ rIsX K xs H Q) [v, cx] H Q := by
  unfold isxSem at h1
  split at h1
  · rename_i c ns ds
    split at h1
    · rename_i b q
      obtain ⟨h2, h3⟩ := ht _ (tbl_mem q)
      obtain ⟨a, d, rfl, h4, h5⟩ := isx_at t1 rv
      exact .inr ⟨a, _, d, cx, cv, b, rfl, h4, h5, h2, k, h3, h1.ok0 t1 _ (.bl _)⟩
    · exact h1.elim
  · cases rv
    exact .inl ⟨.non, cx, _, cv, false, rfl, k, .base .non, hn, h1.ok0 t1 _ (.bl _)⟩
  · exact h1.elim
theorem callR_or {f : Value} {r1 r2 : List V → Hp → VK → Prop} (h1 : CallR X f r1) (h2 : CallR X f r2) : CallR X f (fun xs H Q => r1 xs H Q ∨ r2 xs H Q) := by
  intro pins s σ H xs us Q I r h
  rcases h with h | h
  · exact h1 pins s σ H xs us Q I r h
  · exact h2 pins s σ H xs us Q I r h
theorem de_isx {y : Str} {tbl : List (Str × Bool)} {ia : IE} (c : CtxM X M W N sc k fl lb) (ok : IsxOk X.K X.mg y tbl) (hg : sc.names.lookup ("isinstance" : Str) = some .globalImplicit) (hg2 : sc.names.lookup y = some .globalImplicit) (hdb : (y == ("__debug__" : Str)) = false) (hs : isStar a = false) (ha : DE X M W a (semE ia)) :
    DE X M W (.Call (.Name "isinstance" p) [a, .Name y p2] [] pos) (semE (.isx ia y tbl)) := by
  obtain ⟨ta, pa, ha⟩ := ha
  by_cases hex : ∃ m, M m
  case neg => exact de_none hex
  obtain ⟨m0, hm0⟩ := hex
  have hmi : X.mg "isinstance" = none := (c m0 hm0).bi _ (by decide +kernel)
  obtain ⟨o1, o2, o3⟩ := ok
  refine ⟨tCB (fun xs H Q => rIsi X.K xs H Q ∨ rIsX X.K xs H Q) (tCons ta (tCons (tC (.ref (He.ga X.K y))) tNil)), fun m hm => pe_callB (X := X.wth m) (callR_or call_isi call_isX) (gl_of (c m hm) hg) hmi (by decide +kernel) (pa_cons (pa m hm) (pa_cons (pe_glob (v := .ref (He.ga X.K y)) (gl_of (c m hm) hg2) o1 rfl hdb) pa_nil (star_cons rfl)) (star_cons hs)) (by decide +kernel) (by decide +kernel) (star_cons hs) (star_back rfl), fun ρ sto σ F H as Q s5 he h => ?_⟩
  simp only [semE] at h
  refine ha ρ sto σ F H as _ s5 he (h.bind.imp fun d s1 F1 H1 as1 e1 t1 h1 v rv => ?_)
  exact isx_fin t1 rv (.own _) o2 o3 h1
def excBis : List String := ["ValueError"]
theorem boot_ve : ∀ ty ∈ excBis, bootBuiltins (Str.ofString ty) = some (.type ty) ∧ Str.ofString ty ≠ "__name__" ∧ (Str.ofString ty == ("__debug__" : Str)) = false := by
  intro ty h
  simp only [excBis, List.mem_cons, List.not_mem_nil, or_false] at h
  rcases h with rfl
  exact ⟨by decide +kernel, by decide +kernel, by decide +kernel⟩
theorem de_isb {y : String} {tbl : List (Str × Bool)} {ia : IE} (c : CtxM X M W N sc k fl lb) (hty : y ∈ excBis) (ok : IsbOk X.K X.mg y tbl) (hg : sc.names.lookup ("isinstance" : Str) = some .globalImplicit) (hg2 : sc.names.lookup (Str.ofString y) = some .globalImplicit) (hs : isStar a = false) (ha : DE X M W a (semE ia)) :
    DE X M W (.Call (.Name "isinstance" p) [a, .Name (Str.ofString y) p2] [] pos) (semE (.isb ia y tbl)) := by
  obtain ⟨ta, pa, ha⟩ := ha
  obtain ⟨b1, b2, b3⟩ := boot_ve y hty
  by_cases hex : ∃ m, M m
  case neg => exact de_none hex
  obtain ⟨m0, hm0⟩ := hex
  have hmi : X.mg "isinstance" = none := (c m0 hm0).bi _ (by decide +kernel)
  obtain ⟨o1, o2, o3⟩ := ok
  refine ⟨tCB (fun xs H Q => rIsi X.K xs H Q ∨ rIsX X.K xs H Q) (tCons ta (tCons (tC (.ty y)) tNil)), fun m hm => pe_callB (X := X.wth m) (callR_or call_isi call_isX) (gl_of (c m hm) hg) hmi (by decide +kernel) (pa_cons (pa m hm) (pa_cons (pe_bltn (v := .ty y) (gl_of (c m hm) hg2) o1 b1 rfl b2 b3) pa_nil (star_cons rfl)) (star_cons hs)) (by decide +kernel) (by decide +kernel) (star_cons hs) (star_back rfl), fun ρ sto σ F H as Q s5 he h => ?_⟩
  simp only [semE] at h
  refine ha ρ sto σ F H as _ s5 he (h.bind.imp fun d s1 F1 H1 as1 e1 t1 h1 v rv => ?_)
  exact isx_fin t1 rv (.ty _) o2 o3 h1
/-- raise X('..') -/
theorem ds_raise {x m : Str} {j : Nat} (c : CtxM X M W N sc k fl lb) (ok : RaiseOk X.K X.mg x) (hg : sc.names.lookup x = some .globalImplicit) (hdb : (x == ("__debug__" : Str)) = false) : DS X M W (.Raise (some (.Call (.Name x p) [.Constant (.str m) j p2] [] p3)) none pos) (semS (.raise x)) := by
  obtain ⟨o1, o2⟩ := ok
  refine ⟨_, fun md hm => ps_raise (X := X.wth md) (c md hm).calm (c md hm).tk (pmk_own (X := X.wth md) PySem.F.excBase_ValueError o2.ex o1 o2.kp (raises_own o2.be o2.ty) (gl_of (c md hm) hg) hdb), fun ρ sto σ F H as E s5 he h => ?_⟩
  simp only [semS] at h
  exact h σ F H as _ none (Ext.refl _ _ _) s5 he ⟨rfl, .inl ⟨rfl, rfl, rfl⟩⟩
end
end DV

namespace DV
open PySem PySem.Spec PyProof.Rows L2

/-! ### a lambda handed to a def -/
section
variable {X : Cx} {pins : List (Addr × Obj)} {σ : L2.St} {H : Hp} {s : Shared}
/-- x(), in the def that got the lambda; what it raises is wished for at that def's slots -/
theorem pe_actS {CXg : CXT} {Eg : XK} {Ng : List Str} {qg : Str} {sg : Scope} {g f c' : Addr} {cdg pm ctv : Value} {params : Arguments} {body : Expr} {scope : Scope} {k i : Nat} {a : Str} {pn : List (Addr × Obj)} {xe : Value → Shared → Prop} {W : WX} {tb : XK → TE} {p1 p2 : Pos}
    (I : Inv X pins σ H s) (L : LamX.LamS X.env.scope scope) (hf : s.heap.get? f = some (PySem.W.kla_obj "<lambda>" (X.env.qual ++ "<lambda>") params body scope (cloFrom X.env.cells scope.names []) pm c' ctv)) (hfn : H f = none) (hfr : f ∉ frs X.stack)
    (hbind : bindArgs (PySem.W.kla_fn "<lambda>" (X.env.qual ++ "<lambda>") params body scope (cloFrom X.env.cells scope.names []) pm (.ref c') ctv) ⟨[], []⟩ = Pure.pure [])
    (tk : Takes ((cxOf CXg X.prog X.w X.K X.mg X.base Ng qg sg g cdg X.A X.stack s H Eg).tr pn xe) W) (hr : Room (k + 1) (X.A.deeper (envOfC qg sg s.heap.objs.size g cdg))) (gd : X.A.guards = some [])
    (hbody : ∀ (E : XK) (A : Around) (outer : List PySem.Env) (s : Shared) (H : Hp), Room k (A.deeper (LamX.lamEnv X scope s.heap.objs.size f c')) → A.guards = some [] → PE (LamX.lamCx X A outer s H E scope f c') body (tb E))
    (hN : Ng[i]? = some a) (hv : Vis sg a) (hd : (a == ("__debug__" : Str)) = false) (hcd : (a == ("__classdict__" : Str)) = false) :
    PE ((cxOf CXg X.prog X.w X.K X.mg X.base Ng qg sg g cdg X.A X.stack s H Eg).tr pn xe) (.Call (.Name a p1) [] [] p2)
      (fun σZ HZ Q => σZ[i]? = some (some (.ref f)) ∧ HZ c' = some (LamX.CodeO c' (X.env.qual ++ "<lambda>")) ∧ tb (WE W σZ) σ HZ Q) := by
  refine ⟨fun pinsZ sZ σZ HZ Q IZ h => ?_⟩
  obtain ⟨hs, hc, ht⟩ := h
  refine wpAny_Call_Name_kw (thn ((pe_var (pos := p1) (i := i) hN hv hd hcd).run pinsZ sZ σZ HZ (fun v H1 => v = .ref f ∧ H1 = HZ) IZ ⟨.ref f, hs, rfl, rfl⟩) fun u s1 ⟨v, H1, I1, r1, q1⟩ => ?_)
  obtain ⟨ev, eH⟩ := q1
  subst ev
  rw [eH] at I1
  obtain rfl : u = Value.ref f := r1
  have of1 : s1.heap.get? f = some (PySem.W.kla_obj "<lambda>" (X.env.qual ++ "<lambda>") params body scope (cloFrom X.env.cells scope.names []) pm c' ctv) := I1.base.keep f _ hf hfn hfr (fun z => nomatch (show f ∈ ([] : List Addr) from z))
  refine PySem.W.callWith_F0 ⟨_, _, _, _, of1⟩ ?_
  have un : Un (frs X.stack) [] H HZ s.heap s1.heap := I1.base
  obtain ⟨⟨oc, vs, t, hoc, hdc, hvc⟩, _, _⟩ := I1.hok c' _ hc
  have rc : codeAny (model X.prog X.w) (X.A.deeper (envOfC qg sg s.heap.objs.size g cdg)) (.call (.ref f) ⟨[], []⟩) (CR (L2.CX X.prog X.w) (envOfC qg sg s.heap.objs.size g cdg :: X.stack) X.prog X.w HZ s1 Q (WE W σZ)) s1 := by
    refine PySem.W.kla_callFunE hr.depth of1 rfl L.co L.gen rfl ⟨c', oc, vs, t, rfl, hoc, hdc, hvc⟩ ?_
    rw [hbind]
    refine wpAny_pure (wpAny_newFunctionEnv (fun y hy => (L.own y hy).2) (fun y hy => absurd hy (by simp)) (fun h₁ hns hsb => ⟨I1.nolimit.fresh _ hsb, ?_⟩) L.kind)
    show codeAny _ _ (.expr body (LamX.lamEnv X scope s1.heap.objs.size f c')) _ _
    have kp : ∀ b o, s1.heap.get? b = some o → h₁.get? b = some o := fun b o e => hsb.extBut b o (Nat.ne_of_lt (Heap.lt_size e)) (Heap.get?_push_of_some _ e)
    have J : Inv (LamX.lamCx X (X.A.deeper (envOfC qg sg s.heap.objs.size g cdg)) (envOfC qg sg s.heap.objs.size g cdg :: X.stack) s1 HZ (WE W σZ) scope f c') [] σ HZ { s1 with heap := h₁, toks := s1.toks + ([] : List (Str × Value)).length } :=
      LamX.lam_start2 I L I1.env0 hr.hd un hns kp
    refine PySem.W.kla_codeExpr (wpAny_mono ((hbody (WE W σZ) _ _ s1 HZ (hr.deeper _) gd).run [] _ _ HZ Q J ht) (fun v s' hq => ?_) fun e s' hq => hq)
    obtain ⟨w', H', J', rv, q⟩ := hq
    exact ⟨w', H', J'.os, J'.bare, J'.base, J'.hok, rv, q⟩
  refine wpAny_call (codeAny_mono rc fun r s' hq => ?_)
  cases r with
  | error e => exact passAt tk σZ pinsZ HZ s1 e s' I1 hq
  | ok fl =>
    cases fl with
    | ret u => exact I1.after hq
    | next => exact False.elim hq
    | brk => exact False.elim hq
    | cont => exact False.elim hq
end
/-- what the lambda's reading must grant -/
def TlOk (K : PySem.W.Frag) (mg : Str → Option Value) (t : Th) (T : Sto → R D) (tl : XK → Hp → VK → Prop) : Prop := ∀ (E : XK) (F H : Hp) (as : List Addr) (sto : Sto) (Q : VK), Same t.F0 F → Pre t.as0 as → St5 K F H as sto →
  Fin K mg (fun cls dd _ H' => E cls dd H') [] F H as (T sto) (fun d _ F' H' as' => ∀ v, Rep K F' as' v d → Q v H') → tl E H Q
/-- the calling of the lambda, in the def that got it -/
def ActR (P : Program) (w : World) (K : PySem.W.Frag) (mg : Str → Option Value) (base : Heap) (A : Around) (stack : List PySem.Env) (s : Shared) (H : Hp) (t : Th) (k : Nat) (tl : XK → Hp → VK → Prop) : Prop :=
  ∀ (Ng : List Str) (qg : Str) (sg : Scope) (g : Addr) (cdg : Value) (i : Nat) (a : Str) (pn : List (Addr × Obj)) (xe : Value → Shared → Prop) (CXg : CXT) (Eg : XK) (W : WX) (p1 p2 : Pos), Ng[i]? = some a → Vis sg a → (a == ("__debug__" : Str)) = false → (a == ("__classdict__" : Str)) = false →
    Room (k + 1) (A.deeper (envOfC qg sg s.heap.objs.size g cdg)) → Takes ((cxOf CXg P w K mg base Ng qg sg g cdg A stack s H Eg).tr pn xe) W →
    PE ((cxOf CXg P w K mg base Ng qg sg g cdg A stack s H Eg).tr pn xe) (.Call (.Name a p1) [] [] p2) (fun σZ HZ Q => σZ[i]? = some (some (.ref t.f)) ∧ HZ t.c = some (LamX.CodeO t.c t.q) ∧ tl (WE W σZ) HZ Q)
/-- a def that takes a lambda -/
def CalleeT (P : Program) (w : World) (K : PySem.W.Frag) (mg : Str → Option Value) (base : Heap) (k : Nat) (f : Str) (h : (Sto → R D) → Sto → R D) : Prop := ∃ (fa : Addr) (fd : FuncData) (a : Str), mg f = some (.ref fa) ∧ PySem.W.keepIn K (.ref fa) = true ∧ Binds K fd [a] [] ∧
  ∀ (A : Around) (outer : List PySem.Env) (s : Shared) (H : Hp) (args : Args) (t : Th) (T : Sto → R D) (tl : XK → Hp → VK → Prop) (Q : VK) (E : XK) (F : Hp) (as : List Addr) (sto : Sto), Room (k + 2) A → A.guards = some [] →
    Env0 P w K mg base A outer s H → BindsTo s fd args [(a, .ref t.f)] → St5 K F H as sto → Rep K F as (.ref t.f) (.fnv t) → TlOk K mg t T tl → ActR P w K mg base A outer s H t k tl →
    Fin K mg (fun cls dd _ H' => E cls dd H') [] F H as (h T sto) (fun d _ F' H' as' => ∀ v, Rep K F' as' v d → Q v H') → codeAny (model P w) A (.call (.ref fa) args) (CR (L2.CX P w) outer P w H s Q E) s
theorem fin_flat {α : Type} {K : PySem.W.Frag} {mg : Str → Option Value} {E : XK} {W : WX} {σ σ' : L2.St} {F H : Hp} {as : List Addr} {r : R α} {P : α → Sto → Hp → Hp → List Addr → Prop} (hE : ∀ cls dd H', W cls dd σ H' → E cls dd H') (h : Fin K mg W σ F H as r P) : Fin K mg (fun cls dd _ H' => E cls dd H') σ' F H as r P := by
  cases r with
  | ok a s => exact h
  | ex x s => exact fun F' H' as' cls dd e s5 er => hE _ _ _ (h F' H' as' cls dd e s5 er)
  | bad => exact h
section
variable {X : Cx} {M : Md → Prop} {W : WX} {N : List Str} {sc : Scope} {k : Nat} {fl lb : Bool} {e a b : Expr} {p p2 p3 p4 pos lpos : Pos}
/-- the contexts of the lambda's body -/
def lamM (X : Cx) (M : Md → Prop) (E : XK) (scope : Scope) (k : Nat) : Md → Prop := fun m' => ∃ m, M m ∧ ∃ (A : Around) (outer : List PySem.Env) (s : Shared) (H : Hp) (f c' : Addr), Room k (A.deeper (LamX.lamEnv (X.wth m) scope s.heap.objs.size f c')) ∧ A.guards = some [] ∧
  m' = ⟨s, H, LamX.lamEnv (X.wth m) scope s.heap.objs.size f c', outer, [], fun _ => false, [], fun e s' => wpAny (model X.prog X.w) (A.deeper (LamX.lamEnv (X.wth m) scope s.heap.objs.size f c')) (leaving (LamX.lamEnv (X.wth m) scope s.heap.objs.size f c') e) (fun _ s'' => L2.CX X.prog X.w outer H s E e s'') (fun e' s'' => L2.CX X.prog X.w outer H s E e' s'') s', A.deeper (LamX.lamEnv (X.wth m) scope s.heap.objs.size f c'), LamX.lamEnv (X.wth m) scope s.heap.objs.size f c' :: outer⟩
theorem lam_ctx {E : XK} {scope : Scope} {j : Nat} (c : CtxM X M W N sc k fl lb) (hk : scope.kind = .function) : CtxM X (lamM X M E scope j) (fun cls d _ H => E cls d H) N scope j false false := by
  rintro m' ⟨m, hm, A, outer, s, H, f, c', hr, gd, rfl⟩
  have cm := c m hm
  exact { hsc := rfl, hN := cm.hN, nd := cm.nd, calm := cm.calm, tk := takes_of (X := X.wth _) (E := E) (E₁ := fun e' s'' => L2.CX X.prog X.w outer H s E e' s'') rfl rfl rfl rfl, room := hr, gd := guards_deeper gd, fn := fun z => (nomatch z), kind := hk, bi := cm.bi, lam := fun z => (nomatch z), sysb := cm.sysb }
theorem st_lam {K : PySem.W.Frag} {F H H1 : Hp} {as : List Addr} {sto : Sto} {c : Addr} {q : Str} (s5 : St5 K F H as sto) (e : LamX.ExtN H H1) (t : LamX.Tabs (tabsOf K) H1) (hc : H1 c = some (LamX.CodeO c q)) :
    St5 K (upd F c (LamX.CodeO c q)) H1 as sto ∧ Ext F H as (upd F c (LamX.CodeO c q)) H1 as := by
  obtain ⟨s1, x1⟩ := s5.extN e t
  have sF : Same F (upd F c (LamX.CodeO c q)) := fun b o h => by
    by_cases hb : b = c
    · subst hb
      rw [upd_same]
      have := s1.sub b o h
      rw [hc] at this
      exact this
    · rw [upd_ne hb]
      exact h
  have nl : ∀ {b : Addr} {xs : List V}, H1 b = some (.lst xs) → b ≠ c := fun {b xs} h z => by
    rw [z, hc] at h
    unfold LamX.CodeO at h
    cases h
  refine ⟨⟨fun b o h => ?_, s1.len, s1.nd, s1.tab, s1.nof.upd fun ps z => LamX.codeO_ne ps z, fun n a cc e1 e2 => ?_⟩, ⟨sF, fun b xs h1 h2 h3 => ?_, Pre.refl as⟩⟩
  · by_cases hb : b = c
    · subst hb
      rw [upd_same] at h
      cases h
      exact hc
    · rw [upd_ne hb] at h
      exact s1.sub b o h
  · refine (s1.cell n a cc e1 e2).mono sF (Pre.refl _) (fun ds hds => ?_) fun u hu => hu
    subst hds
    obtain ⟨g1, xs, g2, _⟩ := s1.cell n a _ e1 e2
    rw [upd_ne (nl g2)]
    exact g1
  · obtain ⟨q1, q2, q3⟩ := x1.oth b xs h1 h2 h3
    exact ⟨q1, by rw [upd_ne (nl q1)]; exact q2, q3⟩
theorem lam_eq {m : Md} {A : Around} {outer : List PySem.Env} {s : Shared} {H : Hp} {E : XK} {scope : Scope} {f c' : Addr} (hc : X.calm = true) :
    X.wth ⟨s, H, LamX.lamEnv (X.wth m) scope s.heap.objs.size f c', outer, [], fun _ => false, [], fun e s' => wpAny (model X.prog X.w) (A.deeper (LamX.lamEnv (X.wth m) scope s.heap.objs.size f c')) (leaving (LamX.lamEnv (X.wth m) scope s.heap.objs.size f c') e) (fun _ s'' => L2.CX X.prog X.w outer H s E e s'') (fun e' s'' => L2.CX X.prog X.w outer H s E e' s'') s', A.deeper (LamX.lamEnv (X.wth m) scope s.heap.objs.size f c'), LamX.lamEnv (X.wth m) scope s.heap.objs.size f c' :: outer⟩
      = LamX.lamCx (X.wth m) A outer s H E scope f c' := by
  cases X
  dsimp only at hc
  subst hc
  rfl
/-- f(lambda: body) -/
theorem de_callT {f : Str} {h : (Sto → R D) → Sto → R D} {ib : IE} {params : Arguments} {body : Expr} {scope : Scope} {j : Nat} (c : CtxM X M W N sc (j + 2) fl true) (hG : CalleeT X.prog X.w X.K X.mg X.base j f h) (hg : sc.names.lookup f = some .globalImplicit) (hdb : (f == ("__debug__" : Str)) = false)
    (hL : LamX.lamSB sc scope = true) (hdef : ∀ env, defaultsOf params env = ([], [])) (hbind : ∀ (q : Str) (cl : List (Str × Addr)) (pm cv ctv : Value), bindArgs (PySem.W.kla_fn "<lambda>" q params body scope cl pm cv ctv) ⟨[], []⟩ = Pure.pure [])
    (hb : ∀ E : XK, DE X (lamM X M E scope j) (fun cls d _ H => E cls d H) body (semE ib)) : DE X M W (.Call (.Name f p) [.Lambda params body scope lpos] [] pos) (semE (.callT f h ib)) := by
  refine ⟨fun σ H Q => ∃ (F : Hp) (as : List Addr) (sto : Sto) (ρ : Env), St5 X.K F H as sto ∧ EnvR X.K F as σ ρ ∧ Fin X.K X.mg W σ F H as (h (fun s1 => semE ib ρ s1) sto) (fun d _ F' H' as' => ∀ v, Rep X.K F' as' v d → Q v H'), fun m hm => ?_, fun ρ sto σ F H as Q s5 he z => ?_⟩
  · have cm := c m hm
    obtain ⟨cd, P, hcode, TB, hmT, hu⟩ := cm.lam rfl
    obtain ⟨fa, fd, a, g1, g2, g3, G⟩ := hG
    have L : LamX.LamS (X.wth m).env.scope scope := by rw [cm.hsc]; exact LamX.lamS_by hL
    refine ⟨fun pins s σ H Q I ⟨F, as, sto, ρ, s5, he, fin⟩ => ?_⟩
    refine wpAny_Call_Name_kw (ld_glob I (gl_of cm hg) g1 ?_ hdb)
    refine PySem.W.callWith_K (h₀ := X.base) I.ok.mod.kin g2 ?_ (by rfl) (by rfl)
    show wpAny _ _ (spliced ((false, eval (.Lambda params body scope lpos) (X.wth m).env) :: backTo pos (starEach [] (X.wth m).env))) _ _ s
    refine Calls.spliced_cons (LamX.lam_make2 (X := X.wth m) I TB hcode hmT hu s5.tab (hdef _) (L.has I.ok) fun f1 c' pm' ctv H1 s' I1 eN T1 hf hfn hfr hco => ?_)
    refine Calls.spliced_nil ⟨I1.kIn, ?_⟩
    obtain ⟨s6, x6⟩ := st_lam s5 eN T1 hco
    have hF : upd F c' (LamX.CodeO c' ((X.wth m).env.qual ++ "<lambda>")) c' = some (LamX.CodeO c' ((X.wth m).env.qual ++ "<lambda>")) := upd_same
    generalize upd F c' (LamX.CodeO c' ((X.wth m).env.qual ++ "<lambda>")) = F1 at *
    have bnd := g3 s' [.ref f1] I1.kIn rfl
    refine wpAny_call (codeAny_mono (G (X.wth m).A (X.wth m).stack s' H1 ⟨[.ref f1], []⟩ ⟨f1, c', (X.wth m).env.qual ++ "<lambda>", F1, as⟩ (fun s1 => semE ib ρ s1) (fun E H' Q' => (hb E).choose σ H' Q') Q (WE W σ) F1 as sto cm.room cm.gd I1.env0 bnd s6 (.fnv hF (Same.refl _) (Pre.refl _)) ?_ ?_ ?_) fun r s2 hq => ?_)
    · intro E F2 H2 as2 sto2 Q2 e1 e2 s7 fin2
      refine (hb E).choose_spec.2 ρ sto2 σ F2 H2 as2 Q2 s7 ((he.ext x6).mono e1 e2) ?_
      exact fin_flat (σ := []) (fun _ _ _ z => z) fin2
    · intro Ng qg sg g cdg i a pn xe CXg Eg W' p1 p2 hN hv hd hcd hr tk
      exact pe_actS (X := X.wth m) I1 L hf hfn hfr (hbind _ _ _ _ _) tk hr cm.gd (fun E A outer s H hr2 gd2 => by
        have := (hb E).choose_spec.1 _ ⟨m, hm, A, outer, s, H, f1, c', hr2, gd2, rfl⟩
        rw [lam_eq cm.calm] at this
        exact this) hN hv hd hcd
    · exact fin_flat (σ' := []) (fun _ _ _ z => z) (Fin.mono x6 fin)
    · cases r with
      | error e => exact passAt cm.tk σ pins H1 s' e s2 I1 hq
      | ok fl =>
        cases fl with
        | ret u => exact I1.after hq
        | next => exact False.elim hq
        | brk => exact False.elim hq
        | cont => exact False.elim hq
  · simp only [semE] at z
    exact ⟨F, as, sto, ρ, s5, he, z⟩
end
end DV

namespace DV
open PySem PySem.Spec PyProof.Rows L2

/-! ### a field of a caught exception -/
def tFld (K : PySem.W.Frag) (f : Str) (te : TE) : TE := fun σ H Q => te σ H fun x H1 => ∃ (a C dd : Addr) (fs : List (Str × V)) (v : V), x = .ref a ∧ H1 a = some (ExcO a (.ref C) (some dd)) ∧ H1 dd = some (.xd fs) ∧ XfC K C ∧ PySem.W.findIn K (.ref C) f = some none ∧ fs.lookup f = some v ∧ Q v H1
section
variable {X : Cx}
theorem pe_fld {e : Expr} {te : TE} {pos : Pos} {n : Str} (he : PE X e te) (hb : attributeBase e n X.env (eval e X.env) = eval e X.env) : PE X (.Attribute e n pos) (tFld X.K n te) := by
  refine ⟨fun pins s σ H Q I h => ?_⟩
  refine attr_of hb (thn (he.run pins s σ H _ I h) fun u s1 hh => ?_)
  obtain ⟨x, H1, I1, rx, a, C, dd, fs, v, ex, e1, e2, T, hno, l, q⟩ := hh
  subst ex
  obtain rfl : u = Value.ref a := rx
  obtain ⟨⟨oe, vs, ha, hz, hd⟩, _, _⟩ := (show ObjOk X.prog X.w H1 s1.heap a (ExcO a (.ref C) (some dd)) from I1.hok a _ e1)
  have hx : ObjOk X.prog X.w H1 s1.heap dd (.xd fs) := I1.hok dd _ e2
  obtain ⟨mA, hns, hr⟩ := hx
  obtain ⟨od, ho, hl⟩ := lookIn_ns hns
  obtain ⟨u, hu, ru⟩ := RelO.some_of (v := v) (o := mA n) (by rw [← l]; exact hr n)
  have J : PySem.W.InstAt s1.heap a oe C (some od) := ⟨ha, hz.1, by unfold PySem.W.notCls; rw [hd] <;> rfl, by rw [hz.2]; exact ho⟩
  exact HandSPX.exc_get I1.kIn J T.ga T.gg T.exC (PySem.W.findObj_own T.hdC hno rfl (by rw [hl, hu])) (handed_of ru) ⟨v, H1, I1.tok _, ru, q⟩
end
theorem zip_look : ∀ {fv : List (Str × V)} {K : PySem.W.Frag} {F : Hp} {as : List Addr} {ns : List Str} {ds : List D} {f : Str} {d : D}, fv.map (·.1) = ns → RepAll K F as (fv.map (·.2)) ds → (ns.zip ds).lookup f = some d → ∃ v, fv.lookup f = some v ∧ Rep K F as v d
  | [], _, _, _, _, _, _, _, h1, h2, h3 => by subst h1; cases h3
  | (x, v) :: r, K, F, as, ns, ds, f, d, h1, h2, h3 => by
    subst h1
    cases h2 with
    | cons a b =>
      rename_i e es
      rw [List.map_cons, List.zip_cons_cons, List.lookup_cons] at h3
      rw [List.lookup_cons]
      split at h3
      · rename_i q
        cases h3
        rw [q]
        exact ⟨v, rfl, a⟩
      · rename_i q
        rw [q]
        exact zip_look rfl b h3
section
variable {X : Cx} {M : Md → Prop} {W : WX} {N : List Str} {sc : Scope} {k : Nat} {fl lb : Bool} {e a b : Expr} {p np p1 p2 p3 p4 pos pos' : Pos}
theorem de_fld {f : Str} {cs : List Str} {ia : IE} (ok : FldOk X.K f cs) (hp : plainO a = true) (ha : DE X M W a (semE ia)) : DE X M W (.Attribute a f pos) (semE (.fld ia f cs)) := by
  obtain ⟨ta, pa, ha⟩ := ha
  refine ⟨tFld X.K f ta, fun m hm => pe_fld (X := X.wth m) (pa m hm) (attr_base hp), fun ρ sto σ F H as Q s5 he h => ?_⟩
  simp only [semE] at h
  refine ha ρ sto σ F H as _ s5 he (h.bind.imp fun d s1 F1 H1 as1 e1 t1 h1 v rv => ?_)
  unfold fldSem at h1
  split at h1
  · rename_i c ns ds
    split at h1
    · rename_i hc
      split at h1
      · rename_i d' q
        obtain ⟨o1, o2⟩ := ok c (by simpa using hc)
        cases rv with
        | exc0 e => simp at q
        | exc z1 z2 z3 z4 r =>
          subst z4
          obtain ⟨v, l, r1⟩ := zip_look z3 r q
          exact ⟨_, _, _, _, v, rfl, t1.sub _ _ z1, t1.sub _ _ z2, o1, o2, l, h1.ok0 t1 _ r1⟩
      · exact h1.elim
    · exact h1.elim
  · exact h1.elim

theorem de_emp : DE X M W (.Dict [] [] pos) (semE .emp) := by
  refine ⟨tDNewK, fun m hm => pe_dnewK, fun ρ sto σ F H as Q s5 he h => ?_⟩
  simp only [semE] at h
  intro p hp
  obtain ⟨s', e⟩ := s5.newF (o := .dK []) hp
  exact h _ _ _ e s' _ (.dic (us := []) (vs := []) upd_same rfl .nil rfl .nil)
/-! ### try: the lambda is called; except x as n: y = n -/
/-- the contexts of a try's body -/
def trM (X : Cx) (M : Md → Prop) (W' : WX) : Md → Prop := fun m' => ∃ m, M m ∧ ∃ (pn : List (Addr × Obj)) (xe : Value → Shared → Prop), m' = { m with pn := pn, xe := xe } ∧ Takes (X.wth m') W' ∧ PassesOwn (model X.prog X.w) m.A m.env xe
theorem fin_catch {K : PySem.W.Frag} {mg : Str → Option Value} {F H : Hp} {as : List Addr} {E : Ends} {x : Str} {tbl : List (Str × Bool)} {i j : Nat} {o : Out} (ok : CatchOk K mg x tbl) (h : FinS K mg W F H as E (catchO tbl i j o)) : FinS K mg (wKeep K (.ref (He.ga K x)) i j W E) F H as E o := by
  cases o with
  | ex e ρ s =>
    intro σ F' H' as' cls dd xx s5 he er
    unfold catchO at h
    split at h
    · rename_i e' ρ' s' heq
      cases heq
      split at h
      · rename_i q
        have em := ok.2 _ (tbl_mem q)
        obtain ⟨c1, c2⟩ := er
        subst c1
        refine ⟨true, em, fun _ a na => ?_, fun z => (nomatch z)⟩
        obtain ⟨s6, x6⟩ := s5.newF (o := ExcO a (.ref (He.ga K e.cls)) dd) na (fun ps z => by unfold ExcO at z; cases z)
        have rp : Rep K (upd F' a (ExcO a (.ref (He.ga K e.cls)) dd)) as' (.ref a) (.exc e.cls e.ns e.ds) := by
          rcases c2 with ⟨z1, z2, z3⟩ | ⟨d2, fv, z1, z2, z3, z4⟩
          · rw [z2, z3]
            subst z1
            exact .exc0 upd_same
          · subst z1
            exact .exc upd_same (x6.fz _ _ z2) z3 rfl (RepAll.ext x6 z4)
        exact h _ _ _ _ (xx.trans x6) s6 ((((he.ext x6).set rp).set rp).del)
      · rename_i q
        have em := ok.2 _ (tbl_mem q)
        have c1 := er.1
        refine ⟨false, by rw [c1]; exact em, (fun z => nomatch z), fun _ => h σ F' H' as' cls dd xx s5 he er⟩
      · exact h.elim
    · rename_i hne
      exact (hne _ _ _ rfl).elim
  | nx ρ s => exact h
  | ret d s => exact h
  | brk ρ s => exact h
  | ct ρ s => exact h
  | bad => exact h
theorem ds_try {x n y : Str} {tbl : List (Str × Bool)} {i j : Nat} {body : List Stmt} {f : Env → Sto → Out} (c : CtxM X M W N sc k fl lb) (cs : CtxS X M) (ok : CatchOk X.K X.mg x tbl) (hgx : sc.names.lookup x = some .globalImplicit) (hdx : (x == ("__debug__" : Str)) = false)
    (hi : N[i]? = some n) (hln : sc.names.lookup n = some .local) (hj : N[j]? = some y) (hly : sc.names.lookup y = some .local) (hdn : (n == ("__debug__" : Str)) = false) (hcn : (n == ("__classdict__" : Str)) = false) (hb : ∀ W', DSs X (trM X M W') W' body f) :
    DS X M W (.Try body [.ExceptHandler (some (.Name x np)) (some n) [.Assign [.Name y p1] (.Name n p2) p3] pos'] [] [] pos) (fun ρ s => catchO tbl i j (f ρ s)) := by
  refine ⟨fun D σ H => (hb (wKeep X.K (.ref (He.ga X.K x)) i j W D)).choose D σ H, fun m hm => ?_, fun ρ sto σ F H as E s5 he h => ?_⟩
  · have cm := c m hm
    obtain ⟨_, z1, z2, z3, _⟩ := cs m hm
    exact ps_try_keep (X := X.wth m) (tb := fun W' => (hb W').choose) (Wout := W) z2 z3 z1 (by rw [cm.hN]; exact cm.nd) (by rw [cm.hN]; exact hi) (by show (X.wth m).env.scope.names.lookup n = _; rw [cm.hsc]; exact hln) (by rw [cm.hN]; exact hj) (by rw [cm.hsc]; exact hly) hdn hcn
      ⟨gl_of cm hgx, hdx, .inl ok.1⟩ cm.tk fun W' pn xe tk po => (hb W').choose_spec.1 { m with pn := pn, xe := xe } ⟨m, hm, pn, xe, rfl, tk, po⟩
  · exact (hb (wKeep X.K (.ref (He.ga X.K x)) i j W E)).choose_spec.2 ρ sto σ F H as E s5 he (fin_catch ok h)
/-- the calling of the lambda that the def got -/
def ActOk (X : Cx) (a : Str) (pi : Nat) (T : Th → Sto → R D) : Prop := ∀ (M : Md → Prop) (W : WX) (p1 p2 : Pos), (∀ m, M m → (∃ pn xe, X.wth m = { X with pn := pn, xe := xe }) ∧ Takes (X.wth m) W) → DE X M W (.Call (.Name a p1) [] [] p2) (actSem pi T)
theorem dss_act {pi : Nat} {T : Th → Sto → R D} {call : Expr} (hc : notComp call = true) (hd : DE X M W call (actSem pi T)) : DSs X M W [.Expr call pos] (fun ρ s => (actSem pi T ρ s).out ρ fun d s1 => .nx ρ s1) := by
  obtain ⟨ta, pa, ha⟩ := hd
  refine ⟨_, fun m hm => pss_one (ps_expr (pa m hm) (sw_plain hc)), fun ρ sto σ F H as E s5 he h => ?_⟩
  exact ha ρ sto σ F H as _ s5 he ((FinS.out he h).imp fun d s1 F1 H1 as1 e1 t1 h1 v rv => h1 σ F1 H1 as1 (Ext.refl _ _ _) t1 (he.ext e1))
theorem dss_actSet {pi z : Nat} {v : Str} {T : Th → Sto → R D} {call : Expr} (c : CtxM X M W N sc k fl lb) (hz : N[z]? = some v) (hl : sc.names.lookup v = some .local) (hc : notComp call = true) (hw : swNone (.Name v p1) call = true) (hd : DE X M W call (actSem pi T)) :
    DSs X M W [.Assign [.Name v p1] call pos] (fun ρ s => (actSem pi T ρ s).out ρ fun d s1 => .nx (ρ.set z (some d)) s1) := by
  obtain ⟨ta, pa, ha⟩ := hd
  obtain ⟨g, pg, hg⟩ := dg_name (X := X) (M := M) (pos := p1) c hz (.inl hl)
  refine ⟨_, fun m hm => pss_one (ps_asg (X := X.wth m) (pa m hm) (pg m hm) (by unfold swapsWithSole; exact sw_plain hc) (sw_stores hw) (by rw [assign_cons rfl]; rfl)), fun ρ sto σ F H as E s5 he h => ?_⟩
  refine ha ρ sto σ F H as _ s5 he ((FinS.out he h).imp fun d s1 F1 H1 as1 e1 t1 h1 v rv => ?_)
  exact hg d ρ _ v σ F1 H1 as1 _ t1.sub (he.ext e1) rv rfl fun σ' he' _ => h1 σ' F1 H1 as1 (Ext.refl _ _ _) t1 he'
end
/-- from the rule of the call -/
theorem act_of {P : Program} {w : World} {K : PySem.W.Frag} {mg : Str → Option Value} {base : Heap} {A : Around} {outer : List PySem.Env} {s : Shared} {H0 : Hp} {t : Th} {k i : Nat} {tl : XK → Hp → VK → Prop} {T : Sto → R D} {X : Cx} {Ng : List Str} {qg a : Str} {sg : Scope} {g : Addr} {cdg : Value} {CXg : CXT} {Eg : XK}
    (hX : X = cxOf CXg P w K mg base Ng qg sg g cdg A outer s H0 Eg) (hact : ActR P w K mg base A outer s H0 t k tl) (htl : TlOk K mg t T tl) (hN : Ng[i]? = some a) (hv : Vis sg a) (hd : (a == ("__debug__" : Str)) = false) (hcd : (a == ("__classdict__" : Str)) = false)
    (hr : Room (k + 1) (A.deeper (envOfC qg sg s.heap.objs.size g cdg))) {T' : Th → Sto → R D} (hT : ∀ t' s', T' t' s' ≠ .bad → t' = t ∧ T' t' s' = T s') : ActOk X a i T' := by
  intro M W p1 p2 hM
  subst hX
  refine ⟨fun σZ HZ Q => σZ[i]? = some (some (.ref t.f)) ∧ HZ t.c = some (LamX.CodeO t.c t.q) ∧ tl (WE W σZ) HZ Q, fun m hm => ?_, fun ρ sto σ F H as Q s5 he h => ?_⟩
  · obtain ⟨⟨pn, xe, e⟩, tk⟩ := hM m hm
    rw [e] at tk ⊢
    exact hact Ng qg sg g cdg i a pn xe CXg Eg W p1 p2 hN hv hd hcd hr tk
  · unfold actSem at h
    split at h
    · rename_i t' q
      by_cases hb : T' t' sto = .bad
      · rw [hb] at h
        exact h.elim
      · obtain ⟨rfl, e⟩ := hT _ _ hb
        rw [e] at h
        obtain ⟨v, hv, rv⟩ := he.2 _ _ q
        cases rv with
        | fnv r1 r2 r3 =>
          refine ⟨hv, s5.sub _ _ r1, htl _ F H as sto Q r2 r3 s5 ?_⟩
          exact fin_flat (σ' := []) (fun _ _ _ z => z) h
    · exact h.elim
end DV

namespace DV
open PySem PySem.Spec PyProof.Rows L2

/-! ### does a term stand for this text? -/
def visB (sc : Scope) (x : Str) : Bool := match sc.names.lookup x with
  | some .local => true | some .cell => true | some .free => true | _ => false
def glB (sc : Scope) (x : Str) : Bool := match sc.names.lookup x with
  | some .globalImplicit => true | _ => false
def locB (fl : Bool) (sc : Scope) (x : Str) : Bool := match sc.names.lookup x with
  | some .local => true | some .cell => fl | _ => false
def oneB (sc : Scope) (x : Str) : Bool := match sc.names.lookup x with
  | some .local => true | _ => false
def cellB (sc : Scope) (x : Str) : Bool := match sc.names.lookup x with
  | some .cell => true | _ => false
def dbgB (x : Str) : Bool := !(x == ("__debug__" : Str))
def arB (o : Operator) : Bool := match o with
  | .Add => true | .Sub => true | .Mult => true | .FloorDiv => true | .Mod => true | .Pow => true | _ => false
def tgsLen : Tgs → Nat
  | .nil => 0
  | .cons _ ts => tgsLen ts + 1
mutual
def chkTg (N : List Str) (fl : Bool) (sc : Scope) : Tg → Expr → Bool
  | .name i, e => match e with
    | .Name x _ => decide (N[i]? = some x) && locB fl sc x
    | _ => false
  | .tup ts, e => match e with
    | .Tuple es _ _ => noStars es && (decide (tgsLen ts = es.length) && chkTgs N fl sc ts es)
    | _ => false
def chkTgs (N : List Str) (fl : Bool) (sc : Scope) : Tgs → List Expr → Bool
  | .nil, es => match es with
    | [] => true
    | _ => false
  | .cons t ts, es => match es with
    | e :: r => !isStar e && (chkTg N fl sc t e && chkTgs N fl sc ts r)
    | _ => false
end
def noParams : Arguments → Bool
  | ⟨[], [], none, [], [], none, []⟩ => true
  | _ => false
def subB (xs ys : List Nat) : Bool := xs.all fun j => decide (j ∈ ys)
mutual
def chkE (N : List Str) (lb : Bool) : IE → Scope → Expr → Bool
  | .var i, sc, e => match e with
    | .Name x _ => decide (N[i]? = some x) && (visB sc x && (dbgB x && !(x == ("__classdict__" : Str))))
    | _ => false
  | .int i, sc, e => match e with
    | .Constant (.int j) _ _ => decide (i = j)
    | _ => false
  | .bl b, sc, e => match e with
    | .Constant (.bool j) _ _ => decide (b = j)
    | _ => false
  | .non, sc, e => match e with
    | .Constant .none _ _ => true
    | _ => false
  | .str x, sc, e => match e with
    | .Constant (.str j) _ _ => decide (x = j)
    | _ => false
  | .glob y i, sc, e => match e with
    | .Name x _ => decide (y = x) && (glB sc x && dbgB x)
    | _ => false
  | .bin o m a b, sc, e => match e with
    | .BinOp x p y _ => decide (o = p) && (arB p && (chkE N lb a sc x && chkE N lb b sc y))
    | _ => false
  | .neg a, sc, e => match e with
    | .UnaryOp .USub x _ => chkE N lb a sc x
    | _ => false
  | .tst t, sc, e => chkV N lb t sc e
  | .ife t a b, sc, e => match e with
    | .IfExp c x y _ => chkT N lb t sc c && (chkE N lb a sc x && chkE N lb b sc y)
    | _ => false
  | .tup es, sc, e => match e with
    | .Tuple xs _ _ => chkEs N lb es sc xs
    | _ => false
  | .lst m es, sc, e => match e with
    | .List xs _ => chkEs N lb es sc xs
    | _ => false
  | .ix a i, sc, e => match e with
    | .Subscript x y _ => notSlice y && (chkE N lb a sc x && chkE N lb i sc y)
    | _ => false
  | .slc m a lo hi, sc, e => match e with
    | .Subscript x (.Slice l h none _) _ => chkE N lb a sc x && (chkO N lb lo sc l && chkO N lb hi sc h)
    | _ => false
  | .rev m a, sc, e => match e with
    | .Subscript x (.Slice none none (some (.UnaryOp .USub (.Constant (.int i) _ _) _)) _) _ => decide (i = 1) && chkE N lb a sc x
    | _ => false
  | .call f n g es, sc, e => match e with
    | .Call (.Name x _) (y :: ys) [] _ => decide (f = x) && (glB sc x && (dbgB x && (noStars (y :: ys) && chkEs N lb es sc (y :: ys))))
    | _ => false
  | .callK f ks pm n g es, sc, e => match e with
    | .Call (.Name x _) [] kws _ => decide (f = x) && (glB sc x && (dbgB x && (kwNames kws ks && chkKs N lb es sc kws)))
    | _ => false
  | .bi b m es, sc, e => match e with
    | .Call (.Name x _) (y :: ys) [] _ => decide (x = biName b) && (glB sc x && (noStars (y :: ys) && chkEs N lb es sc (y :: ys)))
    | _ => false
  | .isi a ty, sc, e => match e with
    | .Call (.Name x _) [y, .Name z _] [] _ => decide (x = ("isinstance" : Str)) && (decide (z = Str.ofString ty) && (decide (ty ∈ tyNames) && (glB sc x && (glB sc z && (!isStar y && chkE N lb a sc y)))))
    | _ => false
  | .meth mt o es, sc, e => match e with
    | .Call (.Attribute x nm ap) (y :: ys) [] pos => decide (nm = meName mt) && (plainO x && (decide ((y :: ys).length < 30) && ((ap.endLine == pos.line) && (noStars (y :: ys) && (chkE N lb o sc x && chkEs N lb es sc (y :: ys))))))
    | _ => false
  | .lc m own tg it c el, sc, e => match e with
    | .ListComp elt [⟨t, iter, ifs, n⟩] scope _ => decide (n = 0) && (notSet iter && (blkC N sc scope own && (subB (tgSlots tg) (own.map (·.2)) && (chkI N lb it sc t iter && (chkTg N false (relS scope sc) tg t && (chkC N lb c (relS scope sc) ifs && chkE N lb el (relS scope sc) elt))))))
    | _ => false
  | .lc2 m own vs1 tg it tg1 it1 el, sc, e => match e with
    | .ListComp elt [⟨t, iter, [], n⟩, ⟨t1, iter1, [], n1⟩] scope _ => decide (n = 0) && (decide (n1 = 0) && (notSet iter && (notSet iter1 && (blkC N sc scope own && (subB (tgSlots tg) (own.map (·.2)) && (subB (tgSlots tg1) vs1 && (subB vs1 (own.map (·.2)) &&
       (chkI N lb it sc t iter && (chkTg N false (relS scope sc) tg t && (chkI N lb it1 (relS scope sc) t1 iter1 && (chkTg N false (relS scope sc) tg1 t1 && chkE N lb el (relS scope sc) elt)))))))))))
    | _ => false
  | .fz a, sc, e => chkE N lb a sc e
  | .fzl a, sc, e => chkE N lb a sc e
  | .sortK m a c, sc, e => match e with
    | .Call (.Name f _) [x] [⟨some kw, .Lambda params (.Subscript (.Name y _) (.Constant (.int j) _ _) _) scope _, _⟩] _ => lb && (decide (f = ("sorted" : Str)) && (decide (kw = ("key" : Str)) && (glB sc f && (!isStar x && (decide (j = c) && (decide (c < 2 ^ 62) && (lamSc y scope && (paramB params y && chkE N lb a sc x))))))))
    | _ => false
  | .isx a y tbl, sc, e => match e with
    | .Call (.Name x _) [w, .Name z _] [] _ => decide (x = ("isinstance" : Str)) && (decide (z = y) && (glB sc x && (glB sc z && (dbgB z && (!isStar w && chkE N lb a sc w)))))
    | _ => false
  | .isb a y tbl, sc, e => match e with
    | .Call (.Name x _) [w, .Name z _] [] _ => decide (x = ("isinstance" : Str)) && (decide (z = Str.ofString y) && (decide (y ∈ excBis) && (glB sc x && (glB sc z && (!isStar w && chkE N lb a sc w)))))
    | _ => false
  | .fld a f cs, sc, e => match e with
    | .Attribute x n _ => decide (n = f) && (plainO x && chkE N lb a sc x)
    | _ => false
  | .emp, sc, e => match e with
    | .Dict [] [] _ => true
    | _ => false
  | .callT f h b, sc, e => match e with
    | .Call (.Name x _) [.Lambda params body scope _] [] _ => lb && (decide (f = x) && (glB sc x && (dbgB x && (noParams params && (LamX.lamSB sc scope && chkE N false b scope body)))))
    | _ => false
def chkEs (N : List Str) (lb : Bool) : IEs → Scope → List Expr → Bool
  | .nil, sc, es => match es with
    | [] => true
    | _ => false
  | .cons e es, sc, xs => match xs with
    | x :: r => !isStar x && (chkE N lb e sc x && chkEs N lb es sc r)
    | _ => false
def chkKs (N : List Str) (lb : Bool) : IEs → Scope → List Keyword → Bool
  | .nil, sc, es => match es with
    | [] => true
    | _ => false
  | .cons e es, sc, xs => match xs with
    | ⟨_, x, _⟩ :: r => chkE N lb e sc x && chkKs N lb es sc r
    | _ => false
def chkT (N : List Str) (lb : Bool) : IT → Scope → Expr → Bool
  | .cmp o a b, sc, e => match e with
    | .Compare x [p] [y] _ => decide (o = p) && (!behindInMarks p y && (chkE N lb a sc x && chkE N lb b sc y))
    | _ => false
  | .chain o1 o2 a b c, sc, e => match e with
    | .Compare x [p, q] [y, z] _ => decide (o1 = p) && (decide (o2 = q) && (!behindInMarks q z && (chkE N lb a sc x && (chkE N lb b sc y && chkE N lb c sc z))))
    | _ => false
  | .val a, sc, e => plainT e && chkE N lb a sc e
  | .and ts, sc, e => match e with
    | .BoolOp .And es _ => chkTs N lb ts sc es
    | _ => false
  | .or ts, sc, e => match e with
    | .BoolOp .Or es _ => chkTs N lb ts sc es
    | _ => false
  | .not t, sc, e => match e with
    | .UnaryOp .Not x _ => chkT N lb t sc x
    | _ => false
def chkV (N : List Str) (lb : Bool) : IT → Scope → Expr → Bool
  | .cmp o a b, sc, e => match e with
    | .Compare x [p] [y] _ => decide (o = p) && (!behindInMarks p y && (chkE N lb a sc x && chkE N lb b sc y))
    | _ => false
  | .chain o1 o2 a b c, sc, e => match e with
    | .Compare x [p, q] [y, z] _ => decide (o1 = p) && (decide (o2 = q) && (!behindInMarks q z && (chkE N lb a sc x && (chkE N lb b sc y && chkE N lb c sc z))))
    | _ => false
  | .val a, sc, e => chkE N lb a sc e
  | .and ts, sc, e => match e with
    | .BoolOp .And es _ => chkVs N lb ts sc es
    | _ => false
  | .or ts, sc, e => match e with
    | .BoolOp .Or es _ => chkVs N lb ts sc es
    | _ => false
  | .not t, sc, e => match e with
    | .UnaryOp .Not x _ => chkV N lb t sc x
    | _ => false
def chkTs (N : List Str) (lb : Bool) : ITs → Scope → List Expr → Bool
  | .one t, sc, es => match es with
    | [e] => chkT N lb t sc e
    | _ => false
  | .cons t ts, sc, es => match es with
    | e :: b :: r => chkT N lb t sc e && chkTs N lb ts sc (b :: r)
    | _ => false
def chkVs (N : List Str) (lb : Bool) : ITs → Scope → List Expr → Bool
  | .one t, sc, es => match es with
    | [e] => chkV N lb t sc e
    | _ => false
  | .cons t ts, sc, es => match es with
    | e :: b :: r => chkV N lb t sc e && chkVs N lb ts sc (b :: r)
    | _ => false
def chkO (N : List Str) (lb : Bool) : IO → Scope → Option Expr → Bool
  | .none, sc, e => match e with
    | none => true
    | _ => false
  | .some a, sc, e => match e with
    | some x => chkE N lb a sc x
    | _ => false
def chkC (N : List Str) (lb : Bool) : IC → Scope → List Expr → Bool
  | .none, sc, e => match e with
    | [] => true
    | _ => false
  | .some t, sc, e => match e with
    | [x] => chkT N lb t sc x
    | _ => false
def chkI (N : List Str) (lb : Bool) : II → Scope → Expr → Expr → Bool
  | .seq a, sc, tg, e => chkE N lb a sc e
  | .range1 a, sc, tg, e => match e with
    | .Call (.Name f _) [x] [] _ => decide (f = ("range" : Str)) && (glB sc f && (!isStar x && chkE N lb a sc x))
    | _ => false
  | .range2 a b, sc, tg, e => match e with
    | .Call (.Name f _) [x, y] [] _ => decide (f = ("range" : Str)) && (glB sc f && (!isStar x && (!isStar y && (chkE N lb a sc x && chkE N lb b sc y))))
    | _ => false
  | .range3 a b c, sc, tg, e => match e with
    | .Call (.Name f _) [x, y, z] [] _ => decide (f = ("range" : Str)) && (glB sc f && (!isStar x && (!isStar y && (!isStar z && (chkE N lb a sc x && (chkE N lb b sc y && chkE N lb c sc z))))))
    | _ => false
  | .enum a, sc, tg, e => match tg, e with
    | .Tuple _ _ _, .Call (.Name f _) [x] [] _ => decide (f = ("enumerate" : Str)) && (glB sc f && (!isStar x && chkE N lb a sc x))
    | _, _ => false
end
def chkS (N : List Str) (lb : Bool) (sc : Scope) : IS → Stmt → Bool
  | .set t a, st => match st with
    | .Assign [.Name y py] (.ListComp elt gs scope q) _ => cellB sc y && (chkTg N true sc t (.Name y py) && chkE N lb a sc (.ListComp elt gs scope q))
    | .Assign [.Subscript _ _ _] _ _ => false
    | .Assign [tg] e _ => notComp e && ((swNone tg e || cellT sc tg) && (!isStar tg && (chkTg N true sc t tg && chkE N lb a sc e)))
    | _ => false
  | .setLc i m own tg it c el, st => match st with
    | .Assign [.Name y py] (.ListComp elt [⟨t, iter, ifs, n⟩] scope pos) _ => decide (n = 0) && (decide (N[i]? = some y) && (oneB sc y && ((py.line == pos.line) && (!(scope.names.any fun (n, k) => n == y && (k == .local || k == .cell)) &&
       (notSet iter && (blkC N sc scope own && (subB (tgSlots tg) (own.map (·.2)) && (chkI N lb it sc t iter && (chkTg N false (relS scope sc) tg t && (chkC N lb c (relS scope sc) ifs && chkE N lb el (relS scope sc) elt))))))))))
    | _ => false
  | .setLc2 i m own vs1 tg it tg1 it1 el, st => match st with
    | .Assign [.Name y py] (.ListComp elt [⟨t, iter, [], n⟩, ⟨t1, iter1, [], n1⟩] scope pos) _ => decide (n = 0) && (decide (n1 = 0) && (decide (N[i]? = some y) && (oneB sc y && ((py.line == pos.line) && (!(scope.names.any fun (n, k) => n == y && (k == .local || k == .cell)) &&
       (notSet iter && (notSet iter1 && (blkC N sc scope own && (subB (tgSlots tg) (own.map (·.2)) && (subB (tgSlots tg1) vs1 && (subB vs1 (own.map (·.2)) &&
       (chkI N lb it sc t iter && (chkTg N false (relS scope sc) tg t && (chkI N lb it1 (relS scope sc) t1 iter1 && (chkTg N false (relS scope sc) tg1 t1 && chkE N lb el (relS scope sc) elt)))))))))))))))
    | _ => false
  | .par2 i j a b, st => match st with
    | .Assign [.Tuple [.Name x px, .Name y py] _ _] (.Tuple [e1, e2] _ _) _ => decide (N[i]? = some x) && (decide (N[j]? = some y) && (decide (i ≠ j) && (oneB sc x && (oneB sc y && (!isStar e1 && (!isStar e2 && ((py.line == px.line) &&
       (!(foldedForSure 8 e1 && foldedForSure 8 e2) && (!(constantsAlone 8 e1 && constantsAlone 8 e2) && (chkE N lb a sc e1 && chkE N lb b sc e2))))))))))
    | _ => false
  | .par3 i j l a b c, st => match st with
    | .Assign [.Tuple [.Name x px, .Name y py, .Name z pz] _ _] (.Tuple [e1, e2, e3] _ _) _ => decide (N[i]? = some x) && (decide (N[j]? = some y) && (decide (N[l]? = some z) && (decide (i ≠ j) && (decide (i ≠ l) && (decide (j ≠ l) && (oneB sc x && (oneB sc y && (oneB sc z &&
       (!isStar e1 && (!isStar e2 && (!isStar e3 && ((py.line == px.line) && ((pz.line == px.line) && (!(foldedForSure 8 e1 && (foldedForSure 8 e2 && foldedForSure 8 e3)) && (!(constantsAlone 8 e1 && (constantsAlone 8 e2 && constantsAlone 8 e3)) &&
       (chkE N lb a sc e1 && (chkE N lb b sc e2 && chkE N lb c sc e3)))))))))))))))))
    | _ => false
  | .setIx o i a, st => match st with
    | .Assign [.Subscript x y p] e _ => notComp e && (notSlice y && (swNone (.Subscript x y p) e && (chkE N lb o sc x && (chkE N lb i sc y && chkE N lb a sc e))))
    | _ => false
  | .aug i o a, st => match st with
    | .AugAssign (.Name x _) p e _ => decide (o = p) && (decide (N[i]? = some x) && (locB true sc x && chkE N lb a sc e))
    | _ => false
  | .ex a, st => match st with
    | .Expr e _ => notComp e && chkE N lb a sc e
    | _ => false
  | .ret a, st => match st with
    | .Return (some e) _ => chkE N lb a sc e
    | _ => false
  | .retN, st => match st with
    | .Return none _ => true
    | _ => false
  | .pass, st => match st with
    | .Pass _ => true
    | _ => false
  | .brk, st => match st with
    | .Break _ => true
    | _ => false
  | .ct, st => match st with
    | .Continue _ => true
    | _ => false
  | .never, _ => true
  | .raise c, st => match st with
    | .Raise (some (.Call (.Name x _) [.Constant (.str m) _ _] [] _)) none _ => decide (x = c) && (glB sc x && dbgB x)
    | _ => false
def tryB (N : List Str) (sc : Scope) (pi : Nat) (z : Option Nat) (body : List Stmt) : Bool := match z, body with
  | none, [.Expr (.Call (.Name a _) [] [] _) _] => decide (N[pi]? = some a) && (visB sc a && (dbgB a && !(a == ("__classdict__" : Str))))
  | some k, [.Assign [.Name v _] (.Call (.Name a _) [] [] _) _] => decide (N[pi]? = some a) && (visB sc a && (dbgB a && (!(a == ("__classdict__" : Str)) && (decide (N[k]? = some v) && oneB sc v))))
  | _, _ => false
def chkB (N : List Str) (lb : Bool) (sc : Scope) : IB → List Stmt → Bool
  | .nil, sts => match sts with
    | [] => true
    | _ => false
  | .cons s b, sts => match sts with
    | st :: r => chkS N lb sc s st && chkB N lb sc b r
    | _ => false
  | .ifs t a c b, sts => match sts with
    | .If e x y _ :: r => chkT N lb t sc e && (chkB N lb sc a x && (chkB N lb sc c y && chkB N lb sc b r))
    | _ => false
  | .for_ tg it a b, sts => match sts with
    | .For t e x [] _ :: r => notSet e && (chkI N lb it sc t e && (chkTg N true sc tg t && (chkB N lb sc a x && chkB N lb sc b r)))
    | _ => false
  | .while_ n t a b, sts => match sts with
    | .While e x [] _ :: r => chkT N lb t sc e && (chkB N lb sc a x && chkB N lb sc b r)
    | _ => false
  | .tryA pi T z x tbl i j b, sts => match sts with
    | .Try body [.ExceptHandler (some (.Name y _)) (some n) [.Assign [.Name v _] (.Name n2 _) _] _] [] [] _ :: r => decide (y = x) && (decide (n2 = n) && (decide (N[i]? = some n) && (decide (N[j]? = some v) && (glB sc y && (oneB sc n && (oneB sc v && (dbgB y && (dbgB n && (!(n == ("__classdict__" : Str)) && (tryB N sc pi z body && chkB N lb sc b r))))))))))
    | _ => false
/-! ### what a term leans on -/
inductive Need where
  | call (f : Str) (n : Nat) (g : Fn) | callK (f : Str) (ks : List Str) (pm : List Nat) (n : Nat) (g : Fn) | glob (x : Str) (i : Int)
  | raise (c : Str) | isx (y : Str) (tbl : List (Str × Bool)) | isb (y : String) (tbl : List (Str × Bool)) | fld (f : Str) (cs : List Str) | catch_ (x : Str) (tbl : List (Str × Bool))
  | callT (f : Str) (h : (Sto → R D) → Sto → R D) | at2 (n : Need) | act (pi : Nat) (T : Th → Sto → R D)
mutual
def needE : IE → List Need
  | .glob y i => [.glob y i]
  | .bin _ _ a b => needE a ++ needE b
  | .neg a => needE a
  | .tst t => needT t
  | .ife t a b => needT t ++ (needE a ++ needE b)
  | .tup es => needEs es
  | .lst _ es => needEs es
  | .ix a i => needE a ++ needE i
  | .slc _ a lo hi => needE a ++ (needO lo ++ needO hi)
  | .rev _ a => needE a
  | .call f n g es => .call f n g :: needEs es
  | .callK f ks pm n g es => .callK f ks pm n g :: needEs es
  | .bi _ _ es => needEs es
  | .isi a _ => needE a
  | .meth _ o es => needE o ++ needEs es
  | .lc _ _ _ it c e => needI it ++ (needC c ++ needE e)
  | .lc2 _ _ _ _ it _ it1 e => needI it ++ (needI it1 ++ needE e)
  | .fz a => needE a
  | .fzl a => needE a
  | .sortK _ a _ => needE a
  | .isx a y tbl => .isx y tbl :: needE a
  | .emp => []
  | .isb a y tbl => .isb y tbl :: needE a
  | .fld a f cs => .fld f cs :: needE a
  | .callT f h b => .callT f h :: (needE b).map .at2
  | .var _ => []
  | .int _ => []
  | .bl _ => []
  | .non => []
  | .str _ => []
def needEs : IEs → List Need
  | .nil => []
  | .cons e es => needE e ++ needEs es
def needT : IT → List Need
  | .cmp _ a b => needE a ++ needE b
  | .chain _ _ a b c => needE a ++ (needE b ++ needE c)
  | .val a => needE a
  | .and ts => needTs ts
  | .or ts => needTs ts
  | .not t => needT t
def needTs : ITs → List Need
  | .one t => needT t
  | .cons t ts => needT t ++ needTs ts
def needO : IO → List Need
  | .none => []
  | .some a => needE a
def needC : IC → List Need
  | .none => []
  | .some t => needT t
def needI : II → List Need
  | .seq a => needE a
  | .range1 a => needE a
  | .range2 a b => needE a ++ needE b
  | .range3 a b c => needE a ++ (needE b ++ needE c)
  | .enum a => needE a
end
def needS : IS → List Need
  | .set _ a => needE a
  | .setLc _ _ _ _ it c e => needI it ++ (needC c ++ needE e)
  | .setLc2 _ _ _ _ _ it _ it1 e => needI it ++ (needI it1 ++ needE e)
  | .par2 _ _ a b => needE a ++ needE b
  | .par3 _ _ _ a b c => needE a ++ (needE b ++ needE c)
  | .setIx o i a => needE o ++ (needE i ++ needE a)
  | .aug _ _ a => needE a
  | .ex a => needE a
  | .ret a => needE a
  | .raise c => [.raise c]
  | _ => []
def needB : IB → List Need
  | .nil => []
  | .cons s b => needS s ++ needB b
  | .ifs t a c b => needT t ++ (needB a ++ (needB c ++ needB b))
  | .for_ _ it a b => needI it ++ (needB a ++ needB b)
  | .while_ _ t a b => needT t ++ (needB a ++ needB b)
  | .tryA pi T _ x tbl _ _ b => .act pi T :: .catch_ x tbl :: needB b
def NeedOk (X : Cx) : Nat → Need → Prop := fun k n => match n with
  | .call f n g => CalleeOk X k f n g
  | .callK f ks pm n g => CalleeKOk X k f ks pm n g
  | .glob x i => ∃ t, X.mg x = some (.int i t)
  | .raise c => RaiseOk X.K X.mg c
  | .isx y tbl => IsxOk X.K X.mg y tbl
  | .isb y tbl => IsbOk X.K X.mg y tbl
  | .fld f cs => FldOk X.K f cs
  | .catch_ x tbl => CatchOk X.K X.mg x tbl
  | .callT f h => ∃ j, k = j + 2 ∧ CalleeT X.prog X.w X.K X.mg X.base j f h
  | .at2 n => ∃ j, k = j + 2 ∧ NeedOk X j n
  | .act pi T => ∀ a, X.N[pi]? = some a → Vis X.env.scope a → (a == ("__debug__" : Str)) = false → (a == ("__classdict__" : Str)) = false → ActOk X a pi T
def Needs (X : Cx) (k : Nat) (l : List Need) : Prop := ∀ c ∈ l, NeedOk X k c
theorem Needs.app {X : Cx} {k : Nat} {a b : List Need} (h : Needs X k (a ++ b)) : Needs X k a ∧ Needs X k b :=
  ⟨fun c hc => h c (List.mem_append_left _ hc), fun c hc => h c (List.mem_append_right _ hc)⟩
end DV

namespace DV
open PySem PySem.Spec PyProof.Rows L2

theorem an {a b : Bool} (h : (a && b) = true) : a = true ∧ b = true := by rwa [Bool.and_eq_true] at h
theorem nt {a : Bool} (h : (!a) = true) : a = false := by rwa [Bool.not_eq_true'] at h
theorem dc {p : Prop} [Decidable p] (h : decide p = true) : p := of_decide_eq_true h
section
variable {sc : Scope} {x : Str} {fl lb : Bool}
theorem vis_of (h : visB sc x = true) : Vis sc x := by
  unfold visB at h
  split at h
  · rename_i q; exact .inl q
  · rename_i q; exact .inr (.inl q)
  · rename_i q; exact .inr (.inr q)
  · cases h
theorem gl_of' (h : glB sc x = true) : sc.names.lookup x = some .globalImplicit := by
  unfold glB at h
  split at h
  · assumption
  · cases h
theorem loc_of (h : locB fl sc x = true) : sc.names.lookup x = some .local ∨ (fl = true ∧ sc.names.lookup x = some .cell) := by
  unfold locB at h
  split at h
  · rename_i q; exact .inl q
  · rename_i q; exact .inr ⟨h, q⟩
  · cases h
theorem one_of (h : oneB sc x = true) : sc.names.lookup x = some .local := by
  unfold oneB at h
  split at h
  · assumption
  · cases h
theorem cell_of (h : cellB sc x = true) : sc.names.lookup x = some .cell := by
  unfold cellB at h
  split at h
  · assumption
  · cases h
theorem dbg_of (h : dbgB x = true) : (x == ("__debug__" : Str)) = false := nt h
theorem ar_of {o : Operator} (h : arB o = true) : o = .Add ∨ o = .Sub ∨ o = .Mult ∨ o = .FloorDiv ∨ o = .Mod ∨ o = .Pow := by
  cases o <;> first | (cases h; done) | simp
theorem sub_of {xs ys : List Nat} (h : subB xs ys = true) : ∀ j ∈ xs, j ∈ ys := fun j hj => dc (List.all_eq_true.mp h j hj)
theorem blk_kind {N : List Str} {scope : Scope} {own : List (Str × Nat)} (h : blkC N sc scope own = true) : scope.kind = .function := by
  unfold blkC at h
  have h1 := (an (an (an h).1).1).1
  split at h1
  · assumption
  · cases h1
end
theorem tgs_len : ∀ (ts : Tgs) (ds : List D) (ρ ρ' : Env), tgsSem ts ds ρ = some ρ' → ds.length = tgsLen ts
  | .nil, ds, ρ, ρ', h => by
    rw [tgsSem.eq_def] at h; dsimp only at h
    split at h
    · rfl
    · cases h
  | .cons t ts, ds, ρ, ρ', h => by
    rw [tgsSem.eq_def] at h; dsimp only at h
    split at h
    · rename_i d r
      split at h
      · rename_i ρ1 q
        rw [List.length_cons, tgs_len ts _ _ _ h, tgsLen]
      · cases h
    · cases h
mutual
theorem sndTg {X : Cx} {M : Md → Prop} {W : WX} {N : List Str} {sc : Scope} {k : Nat} {fl lb : Bool} (c : CtxM X M W N sc k fl lb) : ∀ (t : Tg) (e : Expr), chkTg N fl sc t e = true → DG X M e t
  | .name i, e, h => by
    rw [chkTg.eq_def] at h; dsimp only at h
    split at h
    · obtain ⟨h1, h2⟩ := an h
      exact dg_name c (dc h1) (loc_of h2)
    · cases h
  | .tup ts, e, h => by
    rw [chkTg.eq_def] at h; dsimp only at h
    split at h
    · obtain ⟨h1, h2⟩ := an h
      obtain ⟨h2, h3⟩ := an h2
      exact dg_tup c h1 (fun ds ρ ρ' q => by rw [tgs_len ts ds ρ ρ' q]; exact dc h2) (sndTgs c ts _ h3)
    · cases h
theorem sndTgs {X : Cx} {M : Md → Prop} {W : WX} {N : List Str} {sc : Scope} {k : Nat} {fl lb : Bool} (c : CtxM X M W N sc k fl lb) : ∀ (t : Tgs) (e : List Expr), chkTgs N fl sc t e = true → DGs X M e t
  | .nil, e, h => by
    rw [chkTgs.eq_def] at h; dsimp only at h
    split at h
    · exact dgs_nil
    · cases h
  | .cons t ts, e, h => by
    rw [chkTgs.eq_def] at h; dsimp only at h
    split at h
    · obtain ⟨h1, h2⟩ := an h
      obtain ⟨h2, h3⟩ := an h2
      exact dgs_cons (nt h1) (sndTg c t _ h2) (sndTgs c ts _ h3)
    · cases h
end
theorem bi_ty {X : Cx} {M : Md → Prop} {W : WX} {N : List Str} {sc : Scope} {k : Nat} {fl lb : Bool} (c : CtxM X M W N sc k fl lb) {ty : String} (h : ty ∈ tyNames) {m : Md} (hm : M m) : X.mg (Str.ofString ty) = none := by
  refine (c m hm).bi _ ?_
  simp only [tyNames, List.mem_cons, List.not_mem_nil, or_false] at h
  rcases h with rfl | rfl | rfl | rfl | rfl | rfl <;> decide +kernel
theorem Needs.cons {X : Cx} {k : Nat} {a : Need} {l : List Need} (h : Needs X k (a :: l)) : NeedOk X k a ∧ Needs X k l := ⟨h a (List.mem_cons_self ..), fun c hc => h c (List.mem_cons_of_mem _ hc)⟩
theorem noP_def {ps : Arguments} (h : noParams ps = true) : ∀ env, defaultsOf ps env = ([], []) := by
  unfold noParams at h
  split at h
  · exact fun _ => rfl
  · cases h
theorem noP_bind {params : Arguments} {body : Expr} {scope : Scope} (h : noParams params = true) : ∀ (q : Str) (cl : List (Str × Addr)) (pm cv ctv : Value), bindArgs (PySem.W.kla_fn "<lambda>" q params body scope cl pm cv ctv) ⟨[], []⟩ = Pure.pure [] := by
  unfold noParams at h
  split at h
  · exact fun _ _ _ _ _ => rfl
  · cases h
set_option maxHeartbeats 8000000 in
mutual
theorem sndE (X : Cx) (N : List Str) (k : Nat) (lb : Bool) : ∀ (i : IE) (M : Md → Prop) (W : WX) (sc : Scope) (fl : Bool) (c : CtxM X M W N sc k fl lb) (e : Expr), Needs X k (needE i) → chkE N lb i sc e = true → DE X M W e (semE i)
  | .var i, M, W, sc, fl, c, e, nd, h => by
    rw [chkE.eq_def] at h; dsimp only at h
    split at h
    · obtain ⟨h1, h2⟩ := an h
      obtain ⟨h2, h3⟩ := an h2
      obtain ⟨h3, h4⟩ := an h3
      exact de_var c (dc h1) (vis_of h2) (dbg_of h3) (nt h4)
    · cases h
  | .int i, M, W, sc, fl, c, e, nd, h => by
    rw [chkE.eq_def] at h; dsimp only at h
    split at h
    · cases dc h
      exact de_int
    · cases h
  | .bl i, M, W, sc, fl, c, e, nd, h => by
    rw [chkE.eq_def] at h; dsimp only at h
    split at h
    · cases dc h
      exact de_bl
    · cases h
  | .non, M, W, sc, fl, c, e, nd, h => by
    rw [chkE.eq_def] at h; dsimp only at h
    split at h
    · exact de_non
    · cases h
  | .str i, M, W, sc, fl, c, e, nd, h => by
    rw [chkE.eq_def] at h; dsimp only at h
    split at h
    · cases dc h
      exact de_str
    · cases h
  | .glob y i, M, W, sc, fl, c, e, nd, h => by
    rw [chkE.eq_def] at h; dsimp only at h
    split at h
    · obtain ⟨h1, h2⟩ := an h
      obtain ⟨h2, h3⟩ := an h2
      cases dc h1
      exact de_glob c (gl_of' h2) (nd (.glob _ i) (by rw [needE]; exact List.mem_singleton_self _)) (dbg_of h3)
    · cases h
  | .bin o m a b, M, W, sc, fl, c, e, nd, h => by
    rw [chkE.eq_def] at h; dsimp only at h
    rw [needE] at nd
    split at h
    · obtain ⟨h1, h2⟩ := an h
      obtain ⟨h2, h3⟩ := an h2
      obtain ⟨h3, h4⟩ := an h3
      cases dc h1
      exact de_bin (sndE X N k lb a M W sc fl c _ nd.app.1 h3) (sndE X N k lb b M W sc fl c _ nd.app.2 h4) (ar_of h2)
    · cases h
  | .neg a, M, W, sc, fl, c, e, nd, h => by
    rw [chkE.eq_def] at h; dsimp only at h
    rw [needE] at nd
    split at h
    · exact de_neg (sndE X N k lb a M W sc fl c _ nd h)
    · cases h
  | .tst t, M, W, sc, fl, c, e, nd, h => by
    rw [chkE.eq_def] at h; dsimp only at h
    rw [needE] at nd
    exact sndV X N k lb t M W sc fl c _ nd h
  | .ife t a b, M, W, sc, fl, c, e, nd, h => by
    rw [chkE.eq_def] at h; dsimp only at h
    rw [needE] at nd
    split at h
    · obtain ⟨h1, h2⟩ := an h
      obtain ⟨h2, h3⟩ := an h2
      exact de_ife (sndT X N k lb t M W sc fl c _ nd.app.1 h1) (sndE X N k lb a M W sc fl c _ nd.app.2.app.1 h2) (sndE X N k lb b M W sc fl c _ nd.app.2.app.2 h3)
    · cases h
  | .tup es, M, W, sc, fl, c, e, nd, h => by
    rw [chkE.eq_def] at h; dsimp only at h
    rw [needE] at nd
    split at h
    · exact de_tup (sndEs X N k lb es M W sc fl c _ nd h)
    · cases h
  | .lst m es, M, W, sc, fl, c, e, nd, h => by
    rw [chkE.eq_def] at h; dsimp only at h
    rw [needE] at nd
    split at h
    · exact de_lst (sndEs X N k lb es M W sc fl c _ nd h)
    · cases h
  | .ix a i, M, W, sc, fl, c, e, nd, h => by
    rw [chkE.eq_def] at h; dsimp only at h
    rw [needE] at nd
    split at h
    · obtain ⟨h1, h2⟩ := an h
      obtain ⟨h2, h3⟩ := an h2
      exact de_ix h1 (sndE X N k lb a M W sc fl c _ nd.app.1 h2) (sndE X N k lb i M W sc fl c _ nd.app.2 h3)
    · cases h
  | .slc m a lo hi, M, W, sc, fl, c, e, nd, h => by
    rw [chkE.eq_def] at h; dsimp only at h
    rw [needE] at nd
    split at h
    · obtain ⟨h1, h2⟩ := an h
      obtain ⟨h2, h3⟩ := an h2
      exact de_slc (sndE X N k lb a M W sc fl c _ nd.app.1 h1) (sndO X N k lb lo M W sc fl c _ nd.app.2.app.1 h2) (sndO X N k lb hi M W sc fl c _ nd.app.2.app.2 h3)
    · cases h
  | .rev m a, M, W, sc, fl, c, e, nd, h => by
    rw [chkE.eq_def] at h; dsimp only at h
    rw [needE] at nd
    split at h
    · obtain ⟨h1, h2⟩ := an h
      cases dc h1
      exact de_rev (sndE X N k lb a M W sc fl c _ nd h2)
    · cases h
  | .call f n g es, M, W, sc, fl, c, e, nd, h => by
    rw [chkE.eq_def] at h; dsimp only at h
    rw [needE] at nd
    split at h
    · obtain ⟨h1, h2⟩ := an h
      obtain ⟨h2, h3⟩ := an h2
      obtain ⟨h3, h4⟩ := an h3
      obtain ⟨h4, h5⟩ := an h4
      cases dc h1
      exact de_call c (nd (.call _ n g) (List.mem_cons_self ..)) (gl_of' h2) (dbg_of h3) h4 (sndEs X N k lb es M W sc fl c _ (fun c hc => nd c (List.mem_cons_of_mem _ hc)) h5)
    · cases h
  | .callK f ks pm n g es, M, W, sc, fl, c, e, nd, h => by
    rw [chkE.eq_def] at h; dsimp only at h
    rw [needE] at nd
    split at h
    · obtain ⟨h1, g1⟩ := an h
      obtain ⟨h2, g2⟩ := an g1
      obtain ⟨h3, g3⟩ := an g2
      obtain ⟨h4, g4⟩ := an g3
      cases dc h1
      exact de_callK c (nd (.callK _ ks pm n g) (List.mem_cons_self ..)) (gl_of' h2) (dbg_of h3) h4 (sndKs X N k lb es M W sc fl c _ (fun c hc => nd c (List.mem_cons_of_mem _ hc)) g4)
    · cases h
  | .bi b m es, M, W, sc, fl, c, e, nd, h => by
    rw [chkE.eq_def] at h; dsimp only at h
    rw [needE] at nd
    split at h
    · obtain ⟨h1, h2⟩ := an h
      obtain ⟨h2, h3⟩ := an h2
      obtain ⟨h3, h4⟩ := an h3
      exact de_bi c (dc h1) (gl_of' h2) h3 (sndEs X N k lb es M W sc fl c _ nd h4)
    · cases h
  | .isi a ty, M, W, sc, fl, c, e, nd, h => by
    rw [chkE.eq_def] at h; dsimp only at h
    rw [needE] at nd
    split at h
    · obtain ⟨h1, g1⟩ := an h
      obtain ⟨h2, g2⟩ := an g1
      obtain ⟨h3, g3⟩ := an g2
      obtain ⟨h4, g4⟩ := an g3
      obtain ⟨h5, g5⟩ := an g4
      obtain ⟨h6, h7⟩ := an g5
      have e1 := dc h1
      have e2 := dc h2
      subst e1 e2
      by_cases hex : ∃ m, M m
      case neg => exact de_none hex
      obtain ⟨m0, hm0⟩ := hex
      exact de_isi c (dc h3) (gl_of' h4) (gl_of' h5) (bi_ty c (dc h3) hm0) (nt h6) (sndE X N k lb a M W sc fl c _ nd h7)
    · cases h
  | .meth mt o es, M, W, sc, fl, c, e, nd, h => by
    rw [chkE.eq_def] at h; dsimp only at h
    rw [needE] at nd
    split at h
    · obtain ⟨h1, h2⟩ := an h
      obtain ⟨h2, h3⟩ := an h2
      obtain ⟨h3, h4⟩ := an h3
      obtain ⟨h4, h5⟩ := an h4
      obtain ⟨h5, h6⟩ := an h5
      obtain ⟨h6, h7⟩ := an h6
      exact de_meth c (dc h1) h2 (dc h3) h4 h5 (sndE X N k lb o M W sc fl c _ nd.app.1 h6) (sndEs X N k lb es M W sc fl c _ nd.app.2 h7)
    · cases h
  | .lc m own tg it cc el, M, W, sc, fl, c, e, nd, h => by
    rw [chkE.eq_def] at h; dsimp only at h
    rw [needE] at nd
    split at h
    · obtain ⟨h1, h2⟩ := an h
      obtain ⟨h2, h3⟩ := an h2
      obtain ⟨h3, h4⟩ := an h3
      obtain ⟨h4, h5⟩ := an h4
      obtain ⟨h5, h6⟩ := an h5
      obtain ⟨h6, h7⟩ := an h6
      obtain ⟨h7, h8⟩ := an h7
      cases dc h1
      have c2 := c.blk (blk_kind h3)
      obtain ⟨wi, g, tt, te, z⟩ := lcP (m := m) (sndI X N k lb it M W sc fl c _ _ nd.app.1 h5) (sndTg c2 tg _ h6) (sndC X N k lb cc _ _ _ c2 _ nd.app.2.app.1 h7) (sndE X N k lb el _ _ _ _ c2 _ nd.app.2.app.2 h8) (sub_of h4)
      exact z.de c h3 h2
    · cases h
  | .lc2 m own vs1 tg it tg1 it1 el, M, W, sc, fl, c, e, nd, h => by
    rw [chkE.eq_def] at h; dsimp only at h
    rw [needE] at nd
    split at h
    · obtain ⟨h1, h⟩ := an h
      obtain ⟨h2, h⟩ := an h
      obtain ⟨h3, h⟩ := an h
      obtain ⟨h4, h⟩ := an h
      obtain ⟨h5, h⟩ := an h
      obtain ⟨h6, h⟩ := an h
      obtain ⟨h7, h⟩ := an h
      obtain ⟨h8, h⟩ := an h
      obtain ⟨h9, h⟩ := an h
      obtain ⟨ha, h⟩ := an h
      obtain ⟨hb, h⟩ := an h
      obtain ⟨hc, hd⟩ := an h
      cases dc h1
      cases dc h2
      have c2 := c.blk (blk_kind h5)
      obtain ⟨wi, g, wi1, g1, te, z⟩ := lcP2 (m := m) (sndI X N k lb it M W sc fl c _ _ nd.app.1 h9) (sndTg c2 tg _ ha) (sndI X N k lb it1 _ _ _ _ c2 _ _ nd.app.2.app.1 hb) (sndTg c2 tg1 _ hc) (sndE X N k lb el _ _ _ _ c2 _ nd.app.2.app.2 hd) (sub_of h6) (sub_of h7)
      exact z.de c h5 (sub_of h8) h3 h4
    · cases h
  | .fz a, M, W, sc, fl, c, e, nd, h => by
    rw [chkE.eq_def] at h; dsimp only at h
    rw [needE] at nd
    exact de_fz (sndE X N k lb a M W sc fl c _ nd h)
  | .fzl a, M, W, sc, fl, c, e, nd, h => by
    rw [chkE.eq_def] at h; dsimp only at h
    rw [needE] at nd
    exact de_fzl (sndE X N k lb a M W sc fl c _ nd h)
  | .sortK m a cc, M, W, sc, fl, c, e, nd, h => by
    rw [chkE.eq_def] at h; dsimp only at h
    split at h
    · rename_i f px x kw params y p1 j jj p2 p3 scope lpos kp pos
      obtain ⟨hl, g1⟩ := an h
      obtain ⟨h1, g2⟩ := an g1
      obtain ⟨h2, g3⟩ := an g2
      obtain ⟨h3, g4⟩ := an g3
      obtain ⟨h4, g5⟩ := an g4
      obtain ⟨h5, g6⟩ := an g5
      obtain ⟨h6, g7⟩ := an g6
      obtain ⟨h7, g8⟩ := an g7
      obtain ⟨h8, g9⟩ := an g8
      have c2 : CtxM X M W N sc k fl true := by rw [← hl]; exact c
      rw [needE] at nd
      have q1 := dc h1
      have q2 := dc h2
      have q5 := dc h5
      subst q1 q2 q5
      exact de_sortK c2 (gl_of' h3) (nt h4) (dc h6) h7 h8 (sndE X N k lb a M W sc fl c _ nd g9)
    · cases h
  | .emp, M, W, sc, fl, c, e, nd, h => by
    rw [chkE.eq_def] at h; dsimp only at h
    split at h
    · exact de_emp
    · cases h
  | .isx a y tbl, M, W, sc, fl, c, e, nd, h => by
    rw [chkE.eq_def] at h; dsimp only at h
    rw [needE] at nd
    obtain ⟨n1, n2⟩ := Needs.cons nd
    split at h
    · obtain ⟨h1, h⟩ := an h
      obtain ⟨h2, h⟩ := an h
      obtain ⟨h3, h⟩ := an h
      obtain ⟨h4, h⟩ := an h
      obtain ⟨h5, h⟩ := an h
      obtain ⟨h6, h7⟩ := an h
      cases dc h1
      cases dc h2
      exact de_isx c n1 (gl_of' h3) (gl_of' h4) (dbg_of h5) (nt h6) (sndE X N k lb a M W sc fl c _ n2 h7)
    · cases h
  | .isb a y tbl, M, W, sc, fl, c, e, nd, h => by
    rw [chkE.eq_def] at h; dsimp only at h
    rw [needE] at nd
    obtain ⟨n1, n2⟩ := Needs.cons nd
    split at h
    · obtain ⟨h1, h⟩ := an h
      obtain ⟨h2, h⟩ := an h
      obtain ⟨h3, h⟩ := an h
      obtain ⟨h4, h⟩ := an h
      obtain ⟨h5, h⟩ := an h
      obtain ⟨h6, h7⟩ := an h
      cases dc h1
      cases dc h2
      exact de_isb c (dc h3) n1 (gl_of' h4) (gl_of' h5) (nt h6) (sndE X N k lb a M W sc fl c _ n2 h7)
    · cases h
  | .fld a f cs, M, W, sc, fl, c, e, nd, h => by
    rw [chkE.eq_def] at h; dsimp only at h
    rw [needE] at nd
    obtain ⟨n1, n2⟩ := Needs.cons nd
    split at h
    · obtain ⟨h1, h⟩ := an h
      obtain ⟨h2, h3⟩ := an h
      cases dc h1
      exact de_fld n1 h2 (sndE X N k lb a M W sc fl c _ n2 h3)
    · cases h
  | .callT f g b, M, W, sc, fl, c, e, nd, h => by
    rw [chkE.eq_def] at h; dsimp only at h
    rw [needE] at nd
    obtain ⟨⟨j, rfl, n1⟩, n2⟩ := Needs.cons nd
    have n3 : Needs X j (needE b) := fun q hq => by
      obtain ⟨j', e, n3⟩ := n2 (.at2 q) (List.mem_map.mpr ⟨q, hq, rfl⟩)
      have e : j = j' := by omega
      rw [e]
      exact n3
    split at h
    · obtain ⟨h1, h⟩ := an h
      obtain ⟨h2, h⟩ := an h
      obtain ⟨h3, h⟩ := an h
      obtain ⟨h4, h⟩ := an h
      obtain ⟨h5, h⟩ := an h
      obtain ⟨h6, h7⟩ := an h
      subst h1
      cases dc h2
      exact de_callT c n1 (gl_of' h3) (dbg_of h4) h6 (noP_def h5) (noP_bind h5) fun E => sndE X N j false b _ _ _ _ (lam_ctx c (LamX.lamS_by h6).kind) _ n3 h7
    · cases h
theorem sndEs (X : Cx) (N : List Str) (k : Nat) (lb : Bool) : ∀ (i : IEs) (M : Md → Prop) (W : WX) (sc : Scope) (fl : Bool) (c : CtxM X M W N sc k fl lb) (e : List Expr), Needs X k (needEs i) → chkEs N lb i sc e = true → DA X M W e (semEs i)
  | .nil, M, W, sc, fl, c, e, nd, h => by
    rw [chkEs.eq_def] at h; dsimp only at h
    split at h
    · exact da_nil
    · cases h
  | .cons a es, M, W, sc, fl, c, e, nd, h => by
    rw [chkEs.eq_def] at h; dsimp only at h
    rw [needEs] at nd
    split at h
    · obtain ⟨h1, h2⟩ := an h
      obtain ⟨h2, h3⟩ := an h2
      exact da_cons (nt h1) (sndE X N k lb a M W sc fl c _ nd.app.1 h2) (sndEs X N k lb es M W sc fl c _ nd.app.2 h3)
    · cases h
theorem sndKs (X : Cx) (N : List Str) (k : Nat) (lb : Bool) : ∀ (i : IEs) (M : Md → Prop) (W : WX) (sc : Scope) (fl : Bool) (c : CtxM X M W N sc k fl lb) (e : List Keyword), Needs X k (needEs i) → chkKs N lb i sc e = true → DK X M W e (semEs i)
  | .nil, M, W, sc, fl, c, e, nd, h => by
    rw [chkKs.eq_def] at h; dsimp only at h
    split at h
    · exact dk_nil
    · cases h
  | .cons a es, M, W, sc, fl, c, e, nd, h => by
    rw [chkKs.eq_def] at h; dsimp only at h
    rw [needEs] at nd
    split at h
    · obtain ⟨h2, h3⟩ := an h
      exact dk_cons (sndE X N k lb a M W sc fl c _ nd.app.1 h2) (sndKs X N k lb es M W sc fl c _ nd.app.2 h3)
    · cases h
theorem sndT (X : Cx) (N : List Str) (k : Nat) (lb : Bool) : ∀ (i : IT) (M : Md → Prop) (W : WX) (sc : Scope) (fl : Bool) (c : CtxM X M W N sc k fl lb) (e : Expr), Needs X k (needT i) → chkT N lb i sc e = true → DT X M W e (semT i)
  | .cmp o a b, M, W, sc, fl, c, e, nd, h => by
    rw [chkT.eq_def] at h; dsimp only at h
    rw [needT] at nd
    split at h
    · obtain ⟨h1, h2⟩ := an h
      obtain ⟨h2, h3⟩ := an h2
      obtain ⟨h3, h4⟩ := an h3
      cases dc h1
      exact dt_cmp c (nt h2) (sndE X N k lb a M W sc fl c _ nd.app.1 h3) (sndE X N k lb b M W sc fl c _ nd.app.2 h4)
    · cases h
  | .chain o1 o2 a b cc, M, W, sc, fl, c, e, nd, h => by
    rw [chkT.eq_def] at h; dsimp only at h
    rw [needT] at nd
    split at h
    · obtain ⟨h1, h2⟩ := an h
      obtain ⟨h2, h3⟩ := an h2
      obtain ⟨h3, h4⟩ := an h3
      obtain ⟨h4, h5⟩ := an h4
      obtain ⟨h5, h6⟩ := an h5
      cases dc h1
      cases dc h2
      exact dt_chain c (nt h3) (sndE X N k lb a M W sc fl c _ nd.app.1 h4) (sndE X N k lb b M W sc fl c _ nd.app.2.app.1 h5) (sndE X N k lb cc M W sc fl c _ nd.app.2.app.2 h6)
    · cases h
  | .val a, M, W, sc, fl, c, e, nd, h => by
    rw [chkT.eq_def] at h; dsimp only at h
    rw [needT] at nd
    obtain ⟨h1, h2⟩ := an h
    exact dt_val h1 (sndE X N k lb a M W sc fl c _ nd h2)
  | .and ts, M, W, sc, fl, c, e, nd, h => by
    rw [chkT.eq_def] at h; dsimp only at h
    rw [needT] at nd
    split at h
    · show DT X M W _ (fun ρ s => semT (.and ts) ρ s)
      simp only [semT]
      exact ((sndTs X N k lb ts M W sc fl c _ nd h).1 _).dt
    · cases h
  | .or ts, M, W, sc, fl, c, e, nd, h => by
    rw [chkT.eq_def] at h; dsimp only at h
    rw [needT] at nd
    split at h
    · show DT X M W _ (fun ρ s => semT (.or ts) ρ s)
      simp only [semT]
      exact ((sndTs X N k lb ts M W sc fl c _ nd h).2 _).dt
    · cases h
  | .not t, M, W, sc, fl, c, e, nd, h => by
    rw [chkT.eq_def] at h; dsimp only at h
    rw [needT] at nd
    split at h
    · exact dt_not (sndT X N k lb t M W sc fl c _ nd h)
    · cases h
theorem sndV (X : Cx) (N : List Str) (k : Nat) (lb : Bool) : ∀ (i : IT) (M : Md → Prop) (W : WX) (sc : Scope) (fl : Bool) (c : CtxM X M W N sc k fl lb) (e : Expr), Needs X k (needT i) → chkV N lb i sc e = true → DE X M W e (semE (.tst i))
  | .cmp o a b, M, W, sc, fl, c, e, nd, h => by
    rw [chkV.eq_def] at h; dsimp only at h
    rw [needT] at nd
    split at h
    · obtain ⟨h1, h2⟩ := an h
      obtain ⟨h2, h3⟩ := an h2
      obtain ⟨h3, h4⟩ := an h3
      cases dc h1
      exact de_cmp c (nt h2) (sndE X N k lb a M W sc fl c _ nd.app.1 h3) (sndE X N k lb b M W sc fl c _ nd.app.2 h4)
    · cases h
  | .chain o1 o2 a b cc, M, W, sc, fl, c, e, nd, h => by
    rw [chkV.eq_def] at h; dsimp only at h
    rw [needT] at nd
    split at h
    · obtain ⟨h1, h2⟩ := an h
      obtain ⟨h2, h3⟩ := an h2
      obtain ⟨h3, h4⟩ := an h3
      obtain ⟨h4, h5⟩ := an h4
      obtain ⟨h5, h6⟩ := an h5
      cases dc h1
      cases dc h2
      exact de_chain c (nt h3) (sndE X N k lb a M W sc fl c _ nd.app.1 h4) (sndE X N k lb b M W sc fl c _ nd.app.2.app.1 h5) (sndE X N k lb cc M W sc fl c _ nd.app.2.app.2 h6)
    · cases h
  | .val a, M, W, sc, fl, c, e, nd, h => by
    rw [chkV.eq_def] at h; dsimp only at h
    rw [needT] at nd
    exact de_val (sndE X N k lb a M W sc fl c _ nd h)
  | .and ts, M, W, sc, fl, c, e, nd, h => by
    rw [chkV.eq_def] at h; dsimp only at h
    rw [needT] at nd
    split at h
    · refine DV'.to ?_
      show DV' X M W _ (fun ρ s => semT (.and ts) ρ s)
      simp only [semT]
      exact (sndVs X N k lb ts M W sc fl c _ nd h).1 _
    · cases h
  | .or ts, M, W, sc, fl, c, e, nd, h => by
    rw [chkV.eq_def] at h; dsimp only at h
    rw [needT] at nd
    split at h
    · refine DV'.to ?_
      show DV' X M W _ (fun ρ s => semT (.or ts) ρ s)
      simp only [semT]
      exact (sndVs X N k lb ts M W sc fl c _ nd h).2 _
    · cases h
  | .not t, M, W, sc, fl, c, e, nd, h => by
    rw [chkV.eq_def] at h; dsimp only at h
    rw [needT] at nd
    split at h
    · exact de_not (sndV X N k lb t M W sc fl c _ nd h)
    · cases h
theorem sndTs (X : Cx) (N : List Str) (k : Nat) (lb : Bool) : ∀ (i : ITs) (M : Md → Prop) (W : WX) (sc : Scope) (fl : Bool) (c : CtxM X M W N sc k fl lb) (e : List Expr), Needs X k (needTs i) → chkTs N lb i sc e = true → (∀ pos, DW X M W (.BoolOp .And e pos) (semAnd i)) ∧ ∀ pos, DW X M W (.BoolOp .Or e pos) (semOr i)
  | .one t, M, W, sc, fl, c, e, nd, h => by
    rw [chkTs.eq_def] at h; dsimp only at h
    rw [needTs] at nd
    split at h
    · have := sndT X N k lb t M W sc fl c _ nd h
      exact ⟨fun _ => dw_and1 this, fun _ => dw_or1 this⟩
    · cases h
  | .cons t ts, M, W, sc, fl, c, e, nd, h => by
    rw [chkTs.eq_def] at h; dsimp only at h
    rw [needTs] at nd
    split at h
    · obtain ⟨h1, h2⟩ := an h
      have a := sndT X N k lb t M W sc fl c _ nd.app.1 h1
      have b := sndTs X N k lb ts M W sc fl c _ nd.app.2 h2
      exact ⟨fun _ => dw_and a (b.1 _), fun _ => dw_or a (b.2 _)⟩
    · cases h
theorem sndVs (X : Cx) (N : List Str) (k : Nat) (lb : Bool) : ∀ (i : ITs) (M : Md → Prop) (W : WX) (sc : Scope) (fl : Bool) (c : CtxM X M W N sc k fl lb) (e : List Expr), Needs X k (needTs i) → chkVs N lb i sc e = true → (∀ pos, DV' X M W (.BoolOp .And e pos) (semAnd i)) ∧ ∀ pos, DV' X M W (.BoolOp .Or e pos) (semOr i)
  | .one t, M, W, sc, fl, c, e, nd, h => by
    rw [chkVs.eq_def] at h; dsimp only at h
    rw [needTs] at nd
    split at h
    · have := DV'.of (sndV X N k lb t M W sc fl c _ nd h)
      exact ⟨fun _ => dv_and1 this, fun _ => dv_or1 this⟩
    · cases h
  | .cons t ts, M, W, sc, fl, c, e, nd, h => by
    rw [chkVs.eq_def] at h; dsimp only at h
    rw [needTs] at nd
    split at h
    · obtain ⟨h1, h2⟩ := an h
      have a := DV'.of (sndV X N k lb t M W sc fl c _ nd.app.1 h1)
      have b := sndVs X N k lb ts M W sc fl c _ nd.app.2 h2
      exact ⟨fun _ => dv_and a (b.1 _), fun _ => dv_or a (b.2 _)⟩
    · cases h
theorem sndO (X : Cx) (N : List Str) (k : Nat) (lb : Bool) : ∀ (i : IO) (M : Md → Prop) (W : WX) (sc : Scope) (fl : Bool) (c : CtxM X M W N sc k fl lb) (e : Option Expr), Needs X k (needO i) → chkO N lb i sc e = true → DO X M W e (semO i)
  | .none, M, W, sc, fl, c, e, nd, h => by
    rw [chkO.eq_def] at h; dsimp only at h
    split at h
    · exact do_none
    · cases h
  | .some a, M, W, sc, fl, c, e, nd, h => by
    rw [chkO.eq_def] at h; dsimp only at h
    rw [needO] at nd
    split at h
    · exact do_some (sndE X N k lb a M W sc fl c _ nd h)
    · cases h
theorem sndC (X : Cx) (N : List Str) (k : Nat) (lb : Bool) : ∀ (i : IC) (M : Md → Prop) (sc : Scope) (fl : Bool) (c : CtxM X M (fun _ _ _ _ => False) N sc k fl lb) (e : List Expr), Needs X k (needC i) → chkC N lb i sc e = true → DC X M e i
  | .none, M, sc, fl, c, e, nd, h => by
    rw [chkC.eq_def] at h; dsimp only at h
    split at h
    · exact dc_none
    · cases h
  | .some t, M, sc, fl, c, e, nd, h => by
    rw [chkC.eq_def] at h; dsimp only at h
    rw [needC] at nd
    split at h
    · exact dc_some (sndT X N k lb t M _ sc fl c _ nd h)
    · cases h
theorem sndI (X : Cx) (N : List Str) (k : Nat) (lb : Bool) : ∀ (i : II) (M : Md → Prop) (W : WX) (sc : Scope) (fl : Bool) (c : CtxM X M W N sc k fl lb) (tg e : Expr), Needs X k (needI i) → chkI N lb i sc tg e = true → DI X M W tg e (semI i)
  | .seq a, M, W, sc, fl, c, tg, e, nd, h => by
    rw [chkI.eq_def] at h; dsimp only at h
    rw [needI] at nd
    exact di_seq (sndE X N k lb a M W sc fl c _ nd h)
  | .range1 a, M, W, sc, fl, c, tg, e, nd, h => by
    rw [chkI.eq_def] at h; dsimp only at h
    rw [needI] at nd
    split at h
    · obtain ⟨h1, h2⟩ := an h
      obtain ⟨h2, h3⟩ := an h2
      obtain ⟨h3, h4⟩ := an h3
      have e1 := dc h1
      subst e1
      exact di_range1 c (gl_of' h2) (nt h3) (sndE X N k lb a M W sc fl c _ nd h4)
    · cases h
  | .range2 a b, M, W, sc, fl, c, tg, e, nd, h => by
    rw [chkI.eq_def] at h; dsimp only at h
    rw [needI] at nd
    split at h
    · obtain ⟨h1, h2⟩ := an h
      obtain ⟨h2, h3⟩ := an h2
      obtain ⟨h3, h4⟩ := an h3
      obtain ⟨h4, h5⟩ := an h4
      obtain ⟨h5, h6⟩ := an h5
      have e1 := dc h1
      subst e1
      exact di_range2 c (gl_of' h2) (nt h3) (nt h4) (sndE X N k lb a M W sc fl c _ nd.app.1 h5) (sndE X N k lb b M W sc fl c _ nd.app.2 h6)
    · cases h
  | .range3 a b cc, M, W, sc, fl, c, tg, e, nd, h => by
    rw [chkI.eq_def] at h; dsimp only at h
    rw [needI] at nd
    split at h
    · obtain ⟨h1, h2⟩ := an h
      obtain ⟨h2, h3⟩ := an h2
      obtain ⟨h3, h4⟩ := an h3
      obtain ⟨h4, h5⟩ := an h4
      obtain ⟨h5, h6⟩ := an h5
      obtain ⟨h6, h7⟩ := an h6
      obtain ⟨h7, h8⟩ := an h7
      have e1 := dc h1
      subst e1
      exact di_range3 c (gl_of' h2) (nt h3) (nt h4) (nt h5) (sndE X N k lb a M W sc fl c _ nd.app.1 h6) (sndE X N k lb b M W sc fl c _ nd.app.2.app.1 h7) (sndE X N k lb cc M W sc fl c _ nd.app.2.app.2 h8)
    · cases h
  | .enum a, M, W, sc, fl, c, tg, e, nd, h => by
    rw [chkI.eq_def] at h; dsimp only at h
    rw [needI] at nd
    split at h
    · obtain ⟨h1, h2⟩ := an h
      obtain ⟨h2, h3⟩ := an h2
      obtain ⟨h3, h4⟩ := an h3
      have e1 := dc h1
      subst e1
      exact di_enum c (gl_of' h2) (nt h3) (sndE X N k lb a M W sc fl c _ nd h4)
    · cases h
end

theorem sndS (X : Cx) (N : List Str) (k : Nat) (lb : Bool) (M : Md → Prop) (W : WX) (sc : Scope) (c : CtxM X M W N sc k true lb) (i : IS) (st : Stmt) (nd : Needs X k (needS i)) (h : chkS N lb sc i st = true) : DS X M W st (semS i) := by
  cases i with
  | set t a =>
    rw [chkS.eq_def] at h; dsimp only at h
    rw [needS] at nd
    split at h
    · obtain ⟨h1, h⟩ := an h
      obtain ⟨h2, h3⟩ := an h
      cases t with
      | tup ts =>
        rw [chkTg.eq_def] at h2
        cases h2
      | name i => exact ds_setCell c (cell_of h1) (sndTg c _ _ h2) (sndE X N k lb a M W sc true c _ nd h3)
    · cases h
    · obtain ⟨h1, h⟩ := an h
      obtain ⟨h2, h⟩ := an h
      obtain ⟨h3, h⟩ := an h
      obtain ⟨h4, h5⟩ := an h
      rw [Bool.or_eq_true] at h2
      rcases h2 with h2 | h2
      · exact ds_set h1 h2 (nt h3) (sndTg c _ _ h4) (sndE X N k lb a M W sc true c _ nd h5)
      · exact ds_setT c h1 h2 (nt h3) (sndTg c _ _ h4) (sndE X N k lb a M W sc true c _ nd h5)
    · cases h
  | setLc i m own tg it cc el =>
    rw [chkS.eq_def] at h; dsimp only at h
    rw [needS] at nd
    split at h
    · obtain ⟨h1, h⟩ := an h
      obtain ⟨h2, h⟩ := an h
      obtain ⟨h3, h⟩ := an h
      obtain ⟨h4, h⟩ := an h
      obtain ⟨h5, h⟩ := an h
      obtain ⟨h6, h⟩ := an h
      obtain ⟨h7, h⟩ := an h
      obtain ⟨h8, h⟩ := an h
      obtain ⟨h9, h⟩ := an h
      obtain ⟨ha, h⟩ := an h
      obtain ⟨hb, hc⟩ := an h
      cases dc h1
      have c2 := c.blk (blk_kind h7)
      exact ds_setLc c (dc h2) (one_of h3) h4 (nt h5) h7 h6 (lcP (m := m) (sndI X N k lb it M W sc true c _ _ nd.app.1 h9) (sndTg c2 tg _ ha) (sndC X N k lb cc _ _ _ c2 _ nd.app.2.app.1 hb) (sndE X N k lb el _ _ _ _ c2 _ nd.app.2.app.2 hc) (sub_of h8))
    · cases h
  | setLc2 i m own vs1 tg it tg1 it1 el =>
    rw [chkS.eq_def] at h; dsimp only at h
    rw [needS] at nd
    split at h
    · obtain ⟨h1, h⟩ := an h
      obtain ⟨h2, h⟩ := an h
      obtain ⟨h3, h⟩ := an h
      obtain ⟨h4, h⟩ := an h
      obtain ⟨h5, h⟩ := an h
      obtain ⟨h6, h⟩ := an h
      obtain ⟨h7, h⟩ := an h
      obtain ⟨h8, h⟩ := an h
      obtain ⟨h9, h⟩ := an h
      obtain ⟨ha, h⟩ := an h
      obtain ⟨hb, h⟩ := an h
      obtain ⟨hc, h⟩ := an h
      obtain ⟨hd, h⟩ := an h
      obtain ⟨he, h⟩ := an h
      obtain ⟨hf, h⟩ := an h
      obtain ⟨hg, hh⟩ := an h
      cases dc h1
      cases dc h2
      have c2 := c.blk (blk_kind h9)
      exact ds_setLc2 c (dc h3) (one_of h4) h5 (nt h6) h9 (sub_of hc) h7 h8 (lcP2 (m := m) (sndI X N k lb it M W sc true c _ _ nd.app.1 hd) (sndTg c2 tg _ he) (sndI X N k lb it1 _ _ _ _ c2 _ _ nd.app.2.app.1 hf) (sndTg c2 tg1 _ hg) (sndE X N k lb el _ _ _ _ c2 _ nd.app.2.app.2 hh) (sub_of ha) (sub_of hb))
    · cases h
  | par2 i j a b =>
    rw [chkS.eq_def] at h; dsimp only at h
    rw [needS] at nd
    split at h
    · obtain ⟨h1, h⟩ := an h
      obtain ⟨h2, h⟩ := an h
      obtain ⟨h3, h⟩ := an h
      obtain ⟨h4, h⟩ := an h
      obtain ⟨h5, h⟩ := an h
      obtain ⟨h6, h⟩ := an h
      obtain ⟨h7, h⟩ := an h
      obtain ⟨h8, h⟩ := an h
      obtain ⟨h9, h⟩ := an h
      obtain ⟨ha, h⟩ := an h
      obtain ⟨hb, hc⟩ := an h
      exact ds_par2 c (dc h1) (dc h2) (dc h3) (one_of h4) (one_of h5) (nt h6) (nt h7) h8 (nt h9) (nt ha) (sndE X N k lb a M W sc true c _ nd.app.1 hb) (sndE X N k lb b M W sc true c _ nd.app.2 hc)
    · cases h
  | par3 i j l a b cc =>
    rw [chkS.eq_def] at h; dsimp only at h
    rw [needS] at nd
    split at h
    · obtain ⟨h1, h⟩ := an h
      obtain ⟨h2, h⟩ := an h
      obtain ⟨h3, h⟩ := an h
      obtain ⟨h4, h⟩ := an h
      obtain ⟨h5, h⟩ := an h
      obtain ⟨h6, h⟩ := an h
      obtain ⟨h7, h⟩ := an h
      obtain ⟨h8, h⟩ := an h
      obtain ⟨h9, h⟩ := an h
      obtain ⟨ha, h⟩ := an h
      obtain ⟨hb, h⟩ := an h
      obtain ⟨hc, h⟩ := an h
      obtain ⟨hd, h⟩ := an h
      obtain ⟨he, h⟩ := an h
      obtain ⟨hf, h⟩ := an h
      obtain ⟨hg, h⟩ := an h
      obtain ⟨hh, h⟩ := an h
      obtain ⟨hi, hj⟩ := an h
      exact ds_par3 c (dc h1) (dc h2) (dc h3) (dc h4) (dc h5) (dc h6) (one_of h7) (one_of h8) (one_of h9) (nt ha) (nt hb) (nt hc) hd he (nt hf) (nt hg) (sndE X N k lb a M W sc true c _ nd.app.1 hh) (sndE X N k lb b M W sc true c _ nd.app.2.app.1 hi) (sndE X N k lb cc M W sc true c _ nd.app.2.app.2 hj)
    · cases h
  | setIx o i a =>
    rw [chkS.eq_def] at h; dsimp only at h
    rw [needS] at nd
    split at h
    · obtain ⟨h1, h⟩ := an h
      obtain ⟨h2, h⟩ := an h
      obtain ⟨h3, h⟩ := an h
      obtain ⟨h4, h⟩ := an h
      obtain ⟨h5, h6⟩ := an h
      exact ds_setIx h1 h2 h3 (sndE X N k lb o M W sc true c _ nd.app.1 h4) (sndE X N k lb i M W sc true c _ nd.app.2.app.1 h5) (sndE X N k lb a M W sc true c _ nd.app.2.app.2 h6)
    · cases h
  | aug i o a =>
    rw [chkS.eq_def] at h; dsimp only at h
    rw [needS] at nd
    split at h
    · obtain ⟨h1, h⟩ := an h
      obtain ⟨h2, h⟩ := an h
      obtain ⟨h3, h4⟩ := an h
      cases dc h1
      exact ds_aug c (dc h2) (loc_of h3) (sndE X N k lb a M W sc true c _ nd h4)
    · cases h
  | ex a =>
    rw [chkS.eq_def] at h; dsimp only at h
    rw [needS] at nd
    split at h
    · obtain ⟨h1, h2⟩ := an h
      exact ds_ex h1 (sndE X N k lb a M W sc true c _ nd h2)
    · cases h
  | ret a =>
    rw [chkS.eq_def] at h; dsimp only at h
    rw [needS] at nd
    split at h
    · exact ds_ret (sndE X N k lb a M W sc true c _ nd h)
    · cases h
  | retN =>
    rw [chkS.eq_def] at h; dsimp only at h
    split at h
    · exact ds_retN
    · cases h
  | pass =>
    rw [chkS.eq_def] at h; dsimp only at h
    split at h
    · exact ds_pass
    · cases h
  | brk =>
    rw [chkS.eq_def] at h; dsimp only at h
    split at h
    · exact ds_brk
    · cases h
  | ct =>
    rw [chkS.eq_def] at h; dsimp only at h
    split at h
    · exact ds_ct
    · cases h
  | never => exact ds_never
  | raise x =>
    rw [chkS.eq_def] at h; dsimp only at h
    rw [needS] at nd
    split at h
    · obtain ⟨h1, h⟩ := an h
      obtain ⟨h2, h3⟩ := an h
      cases dc h1
      exact ds_raise c (nd _ (List.mem_singleton_self _)) (gl_of' h2) (dbg_of h3)
    · cases h
theorem snd_try {X : Cx} {N : List Str} {k : Nat} {lb : Bool} {M : Md → Prop} {W W' : WX} {sc : Scope} {pi : Nat} {T : Th → Sto → R D} {z : Option Nat} {body : List Stmt} (c : CtxM X M W N sc k true lb) (cs : CtxS X M) (n1 : NeedOk X k (.act pi T)) (h : tryB N sc pi z body = true) :
    DSs X (trM X M W') W' body (fun ρ s => (actSem pi T ρ s).out ρ fun d s1 => actOut z d ρ s1) := by
  by_cases hex : ∃ m, M m
  case neg => exact ⟨fun _ _ _ => True, fun m' ⟨m, hm, _⟩ => absurd ⟨m, hm⟩ hex, fun _ _ _ _ _ _ _ _ _ _ => True.intro⟩
  obtain ⟨m0, hm0⟩ := hex
  have c' : CtxM X (trM X M W') W' N sc k true lb := by
    rintro m' ⟨m, hm, pn, xe, rfl, tk, po⟩
    have cm := c m hm
    exact { hsc := cm.hsc, hN := cm.hN, nd := cm.nd, calm := cm.calm, tk := tk, room := cm.room, gd := cm.gd, fn := cm.fn, kind := cm.kind, bi := cm.bi, lam := cm.lam, sysb := cm.sysb }
  have own : ∀ m', trM X M W' m' → (∃ pn xe, X.wth m' = { X with pn := pn, xe := xe }) ∧ Takes (X.wth m') W' := by
    rintro m' ⟨m, hm, pn, xe, rfl, tk, po⟩
    obtain ⟨_, _, _, _, pn0, xe0, e⟩ := cs m hm
    refine ⟨⟨pn, xe, ?_⟩, tk⟩
    have e2 : X.wth { m with pn := pn, xe := xe } = { X.wth m with pn := pn, xe := xe } := rfl
    rw [e2, e]
  have vis : ∀ {a : Str}, visB sc a = true → Vis X.env.scope a := fun {a} h => by
    obtain ⟨_, _, _, _, pn0, xe0, e⟩ := cs m0 hm0
    have e3 : (X.wth m0).env = X.env := by rw [e]
    have := (c m0 hm0).hsc
    rw [e3] at this
    rw [this]
    exact vis_of h
  have hN : X.N = N := (c m0 hm0).hN
  unfold tryB at h
  split at h
  · obtain ⟨h1, h⟩ := an h
    obtain ⟨h2, h⟩ := an h
    obtain ⟨h3, h4⟩ := an h
    exact dss_act rfl (n1 _ (by rw [hN]; exact dc h1) (vis h2) (dbg_of h3) (nt h4) _ W' _ _ own)
  · obtain ⟨h1, h⟩ := an h
    obtain ⟨h2, h⟩ := an h
    obtain ⟨h3, h⟩ := an h
    obtain ⟨h4, h⟩ := an h
    obtain ⟨h5, h6⟩ := an h
    exact dss_actSet c' (dc h5) (one_of h6) rfl rfl (n1 _ (by rw [hN]; exact dc h1) (vis h2) (dbg_of h3) (nt h4) _ W' _ _ own)
  · cases h
theorem sndB (X : Cx) (N : List Str) (k : Nat) (lb : Bool) (M : Md → Prop) (W : WX) (sc : Scope) (c : CtxM X M W N sc k true lb) (cs : CtxS X M) : ∀ (i : IB) (sts : List Stmt), Needs X k (needB i) → chkB N lb sc i sts = true → DSs X M W sts (semB i)
  | .nil, sts, nd, h => by
    rw [chkB.eq_def] at h; dsimp only at h
    split at h
    · exact dss_nil
    · cases h
  | .cons s b, sts, nd, h => by
    rw [chkB.eq_def] at h; dsimp only at h
    rw [needB] at nd
    split at h
    · obtain ⟨h1, h2⟩ := an h
      show DSs X M W _ (fun ρ s1 => semB (.cons s b) ρ s1)
      simp only [semB]
      exact dss_cons (sndS X N k lb M W sc c s _ nd.app.1 h1) (sndB X N k lb M W sc c cs b _ nd.app.2 h2)
    · cases h
  | .ifs t a e b, sts, nd, h => by
    rw [chkB.eq_def] at h; dsimp only at h
    rw [needB] at nd
    split at h
    · obtain ⟨h1, h⟩ := an h
      obtain ⟨h2, h⟩ := an h
      obtain ⟨h3, h4⟩ := an h
      show DSs X M W _ (fun ρ s1 => semB (.ifs t a e b) ρ s1)
      simp only [semB]
      exact dss_cons (ds_ifs (sndT X N k lb t M W sc true c _ nd.app.1 h1) (sndB X N k lb M W sc c cs a _ nd.app.2.app.1 h2) (sndB X N k lb M W sc c cs e _ nd.app.2.app.2.app.1 h3)) (sndB X N k lb M W sc c cs b _ nd.app.2.app.2.app.2 h4)
    · cases h
  | .for_ tg it a b, sts, nd, h => by
    rw [chkB.eq_def] at h; dsimp only at h
    rw [needB] at nd
    split at h
    · obtain ⟨h1, h⟩ := an h
      obtain ⟨h2, h⟩ := an h
      obtain ⟨h3, h⟩ := an h
      obtain ⟨h4, h5⟩ := an h
      show DSs X M W _ (fun ρ s1 => semB (.for_ tg it a b) ρ s1)
      simp only [semB]
      exact dss_cons (ds_for c cs h1 (sndI X N k lb it M W sc true c _ _ nd.app.1 h2) (sndTg c tg _ h3) (sndB X N k lb M W sc c cs a _ nd.app.2.app.1 h4)) (sndB X N k lb M W sc c cs b _ nd.app.2.app.2 h5)
    · cases h
  | .while_ n t a b, sts, nd, h => by
    rw [chkB.eq_def] at h; dsimp only at h
    rw [needB] at nd
    split at h
    · obtain ⟨h1, h⟩ := an h
      obtain ⟨h2, h3⟩ := an h
      show DSs X M W _ (fun ρ s1 => semB (.while_ n t a b) ρ s1)
      simp only [semB]
      exact dss_cons (ds_while cs (sndT X N k lb t M W sc true c _ nd.app.1 h1) (sndB X N k lb M W sc c cs a _ nd.app.2.app.1 h2)) (sndB X N k lb M W sc c cs b _ nd.app.2.app.2 h3)
    · cases h
  | .tryA pi T z x tbl i j b, sts, nd, h => by
    rw [chkB.eq_def] at h; dsimp only at h
    rw [needB] at nd
    obtain ⟨n1, nd⟩ := Needs.cons nd
    obtain ⟨n2, nd⟩ := Needs.cons nd
    split at h
    · obtain ⟨h1, h⟩ := an h
      obtain ⟨h2, h⟩ := an h
      obtain ⟨h3, h⟩ := an h
      obtain ⟨h4, h⟩ := an h
      obtain ⟨h5, h⟩ := an h
      obtain ⟨h6, h⟩ := an h
      obtain ⟨h7, h⟩ := an h
      obtain ⟨h8, h⟩ := an h
      obtain ⟨h9, h⟩ := an h
      obtain ⟨ha, h⟩ := an h
      obtain ⟨hb, hc⟩ := an h
      cases dc h1
      cases dc h2
      show DSs X M W _ (fun ρ s1 => semB (.tryA pi T z x tbl i j b) ρ s1)
      simp only [semB]
      exact dss_cons (ds_try c cs n2 (gl_of' h5) (dbg_of h8) (dc h3) (one_of h6) (dc h4) (one_of h7) (dbg_of h9) (nt ha) (fun W' => snd_try c cs n1 hb)) (sndB X N k lb M W sc c cs b _ nd hc)
    · cases h
end DV

namespace DV
open PySem PySem.Spec PyProof.Rows L2

/-! ### a def's own lists are forgotten at its end -/
mutual
def bnd (m : Nat) : D → Bool
  | .obj n => decide (n < m)
  | .lst xs => bnds m xs
  | .tup xs => bnds m xs
  | .non => true
  | .bl _ => true
  | .int _ => true
  | .str _ => true
  | .scr _ => true
  | .exc _ _ ds => bnds m ds
  | .fnv t => decide (t.as0.length ≤ m)
  | .dic ks ds => bnds m ks && bnds m ds
def bnds (m : Nat) : List D → Bool
  | [] => true
  | d :: ds => bnd m d && bnds m ds
end
def bndC (m : Nat) : Cell → Bool
  | .lst xs => bnds m xs
  | .dead => true
section
variable {K : PySem.W.Frag} {F F' H H' : Hp} {as as' : List Addr} {sto : Sto}
mutual
theorem Rep.cut {m : Nat} : ∀ (d : D) (v : V), Rep K F as v d → bnd m d = true → Rep K F (as.take m) v d
  | .non, _, h, _ => by cases h; exact .non
  | .bl _, _, h, _ => by cases h; exact .bl _
  | .int _, _, h, _ => by cases h; exact .int _
  | .str _, _, h, _ => by cases h; exact .str _
  | .lst ds, _, h, b => by
    rw [bnd] at b
    cases h with
    | lst a r => exact .lst a (RepAll.cut ds _ r b)
  | .tup ds, _, h, b => by
    rw [bnd] at b
    cases h with
    | tup a r => exact .tup a (RepAll.cut ds _ r b)
  | .obj n, _, h, b => by
    rw [bnd] at b
    cases h with
    | obj e => exact .obj (by rw [List.getElem?_take_of_lt (dc b)]; exact e)
  | .scr ns, _, h, _ => by
    cases h with
    | scr e => exact .scr e
  | .exc c ns ds, _, h, b => by
    rw [bnd] at b
    cases h with
    | exc0 a => exact .exc0 a
    | exc a e1 e2 e3 r => exact .exc a e1 e2 e3 (RepAll.cut ds _ r b)
  | .fnv t, _, h, b => by
    rw [bnd] at b
    cases h with
    | fnv e e2 e3 =>
      refine .fnv e e2 fun n a z => ?_
      · rw [List.getElem?_take_of_lt (Nat.lt_of_lt_of_le (List.getElem?_eq_some_iff.mp z).1 (dc b))]
        exact e3 n a z
  | .dic ks ds, _, h, b => by
    rw [bnd] at b
    cases h with
    | dic a e1 r1 e2 r2 => exact .dic a e1 (RepAll.cut ks _ r1 (an b).1) e2 (RepAll.cut ds _ r2 (an b).2)
theorem RepAll.cut {m : Nat} : ∀ (ds : List D) (vs : List V), RepAll K F as vs ds → bnds m ds = true → RepAll K F (as.take m) vs ds
  | [], _, h, _ => by cases h; exact .nil
  | d :: ds, _, h, b => by
    rw [bnds] at b
    cases h with
    | cons x r => exact .cons (Rep.cut d _ x (an b).1) (RepAll.cut ds _ r (an b).2)
end
mutual
theorem Rep.bnd : ∀ (d : D) (v : V), Rep K F as v d → ∀ {m : Nat}, as.length ≤ m → bnd m d = true
  | .non, _, h, _, _ => by rw [DV.bnd]
  | .bl _, _, h, _, _ => by rw [DV.bnd]
  | .int _, _, h, _, _ => by rw [DV.bnd]
  | .str _, _, h, _, _ => by rw [DV.bnd]
  | .lst ds, _, h, m, hm => by
    cases h with
    | lst a r => rw [DV.bnd]; exact RepAll.bnd ds _ r hm
  | .tup ds, _, h, m, hm => by
    cases h with
    | tup a r => rw [DV.bnd]; exact RepAll.bnd ds _ r hm
  | .obj n, _, h, m, hm => by
    cases h with
    | obj e =>
      rw [DV.bnd]
      exact decide_eq_true (Nat.lt_of_lt_of_le (List.getElem?_eq_some_iff.mp e).1 hm)
  | .scr ns, _, h, _, _ => by rw [DV.bnd]
  | .exc c ns ds, _, h, m, hm => by
    cases h with
    | exc0 a => rw [DV.bnd, bnds]
    | exc a e1 e2 e3 r => rw [DV.bnd]; exact RepAll.bnd ds _ r hm
  | .fnv t, _, h, m, hm => by
    cases h with
    | fnv e e2 e3 =>
      rw [DV.bnd]
      refine decide_eq_true (Nat.le_trans ?_ hm)
      by_cases hz : t.as0.length ≤ as.length
      · exact hz
      · have := e3 as.length (t.as0[as.length]'(by omega)) (List.getElem?_eq_getElem _)
        rw [List.getElem?_eq_none (Nat.le_refl _)] at this
        cases this
  | .dic ks ds, _, h, m, hm => by
    cases h with
    | dic a e1 r1 e2 r2 =>
      rw [DV.bnd, RepAll.bnd ks _ r1 hm, RepAll.bnd ds _ r2 hm]
      rfl
theorem RepAll.bnd : ∀ (ds : List D) (vs : List V), RepAll K F as vs ds → ∀ {m : Nat}, as.length ≤ m → bnds m ds = true
  | [], _, h, _, _ => by rw [bnds]
  | d :: ds, _, h, m, hm => by
    cases h with
    | cons x r =>
      rw [bnds, Rep.bnd d _ x hm, RepAll.bnd ds _ r hm]
      rfl
end
def Kept (sto s : Sto) : Prop := sto.length ≤ s.length ∧ ∀ (n : Nat) (c : Cell), s[n]? = some c → sto[n]? = some c ∨ bndC s.length c = true
theorem Kept.refl (s : Sto) : Kept s s := ⟨Nat.le_refl _, fun n c h => .inl h⟩
inductive Exit (sto : Sto) : R D → R D → Prop
  | bad (r : R D) : Exit sto r .bad
  | same (r : R D) : Exit sto r r
  | drop {d : D} {s : Sto} (junk : Sto) : Kept sto s → bnd s.length d = true → Exit sto (.ok d (s ++ junk)) (.ok d s)
  | dropx {x : Ex} {s : Sto} (junk : Sto) : Kept sto s → bnds s.length x.ds = true → Exit sto (.ex x (s ++ junk)) (.ex x s)
theorem cut_st {s junk : Sto} {F0 H0 : Hp} {as0 : List Addr} (s0 : St5 K F0 H0 as0 sto) (k : Kept sto s) (x : Ext F0 H0 as0 F H as) (s5 : St5 K F H as (s ++ junk)) :
    Ext F0 H0 as0 F H (as.take s.length) ∧ St5 K F H (as.take s.length) s := by
  have hlen : as.length = s.length + junk.length := by rw [s5.len, List.length_append]
  have h0 : as0.length ≤ s.length := by rw [s0.len]; exact k.1
  have hpre : Pre as0 (as.take s.length) := fun n a e => by
    rw [List.getElem?_take_of_lt (Nat.lt_of_lt_of_le (List.getElem?_eq_some_iff.mp e).1 h0)]
    exact x.pre n a e
  refine ⟨⟨x.fz, fun b o h1 h2 h3 => ?_, hpre⟩, ⟨s5.sub, by rw [List.length_take]; omega, s5.nd.sublist (List.take_sublist _ _), s5.tab, s5.nof, fun n a c e1 e2 => ?_⟩⟩
  · obtain ⟨q1, q2, q3⟩ := x.oth b o h1 h2 h3
    exact ⟨q1, q2, fun z => q3 (List.mem_of_mem_take z)⟩
  · have hn : n < s.length := (List.getElem?_eq_some_iff.mp e2).1
    rw [List.getElem?_take_of_lt hn] at e1
    have hc := s5.cell n a c e1 (by rw [List.getElem?_append_left hn]; exact e2)
    cases c with
    | dead => exact hc
    | lst ds =>
      obtain ⟨c1, xs, c2, c3⟩ := hc
      refine ⟨c1, xs, c2, RepAll.cut _ _ c3 ?_⟩
      rcases k.2 n _ e2 with z | z
      · have hn0 : n < as0.length := by rw [s0.len]; exact (List.getElem?_eq_some_iff.mp z).1
        obtain ⟨_, ys, _, y2⟩ := s0.cell n _ _ (List.getElem?_eq_getElem hn0) z
        exact RepAll.bnd _ _ y2 h0
      · exact z
theorem fin_exit {mg : Str → Option Value} {W : WX} {σ : L2.St} {r r' : R D} {P : V → Hp → Prop} (s0 : St5 K F H as sto) (x : Exit sto r r')
    (h : Fin K mg W σ F H as r' (fun d _ F' H' as' => ∀ v, Rep K F' as' v d → P v H')) : Fin K mg W σ F H as r (fun d _ F' H' as' => ∀ v, Rep K F' as' v d → P v H') := by
  cases x with
  | bad => exact h.elim
  | same => exact h
  | drop junk k hb =>
    intro F' H' as' x' s5 v rv
    obtain ⟨q1, q2⟩ := cut_st s0 k x' s5
    exact h F' H' _ q1 q2 v (Rep.cut _ _ rv hb)
  | dropx junk k hb =>
    intro F' H' as' cls dd x' s5 er
    obtain ⟨q1, q2⟩ := cut_st s0 k x' s5
    refine h F' H' _ cls dd q1 q2 ?_
    obtain ⟨e2, e3⟩ := er
    refine ⟨e2, ?_⟩
    rcases e3 with e3 | ⟨a, fv, z1, z2, z3, z4⟩
    · exact .inl e3
    · exact .inr ⟨a, fv, z1, z2, z3, RepAll.cut _ _ z4 hb⟩
end
/-! ### a def -/
def startE (N : List Str) (ds : List D) : Env := ds.map some ++ List.replicate (N.length - ds.length) none
def Out.val : Out → R D
  | .nx _ s => .ok .non s
  | .ret d s => .ok d s
  | .ex x _ s => .ex x s
  | _ => .bad
def fnSem (N : List Str) (ib : IB) : Fn := fun sto ds => (semB ib (startE N ds) sto).val
def CalleeG (P : Program) (w : World) (K : PySem.W.Frag) (mg : Str → Option Value) (base : Heap) (k : Nat) (f : Str) (n : Nat) (g : Fn) : Prop := ∃ (fa : Addr) (fd : FuncData) (ps : List Str), mg f = some (.ref fa) ∧ PySem.W.keepIn K (.ref fa) = true ∧ Binds K fd ps [] ∧ ps.length = n ∧
  FnG P w K mg base k fa fd ps (spF K mg n g)
def CalleeKG (P : Program) (w : World) (K : PySem.W.Frag) (mg : Str → Option Value) (base : Heap) (k : Nat) (f : Str) (ks : List Str) (pm : List Nat) (n : Nat) (g : Fn) : Prop := ∃ (fa : Addr) (fd : FuncData) (ps : List Str), mg f = some (.ref fa) ∧ PySem.W.keepIn K (.ref fa) = true ∧ KBind K fd ps ks pm ∧ ps.length = n ∧
  FnG P w K mg base k fa fd ps (spF K mg n g)
def NeedG (P : Program) (w : World) (K : PySem.W.Frag) (mg : Str → Option Value) (base : Heap) : Nat → Need → Prop := fun k n => match n with
  | .call f n g => CalleeG P w K mg base k f n g
  | .callK f ks pm n g => CalleeKG P w K mg base k f ks pm n g
  | .glob x i => ∃ t, mg x = some (.int i t)
  | .raise c => RaiseOk K mg c
  | .isx y tbl => IsxOk K mg y tbl
  | .isb y tbl => IsbOk K mg y tbl
  | .fld f cs => FldOk K f cs
  | .catch_ x tbl => CatchOk K mg x tbl
  | .callT f h => ∃ j, k = j + 2 ∧ CalleeT P w K mg base j f h
  | .at2 n => ∃ j, k = j + 2 ∧ NeedG P w K mg base j n
  | .act _ _ => False
section
variable {P : Program} {w : World} {K : PySem.W.Frag} {mg : Str → Option Value} {base : Heap}
theorem need_of {X : Cx} : ∀ (c : Need) {k : Nat}, NeedG X.prog X.w X.K X.mg X.base k c → NeedOk X k c
  | .call _ _ _, _, h => h
  | .callK _ _ _ _ _, _, h => h
  | .glob _ _, _, h => h
  | .raise _, _, h => h
  | .isx _ _, _, h => h
  | .isb _ _, _, h => h
  | .fld _ _, _, h => h
  | .catch_ _ _, _, h => h
  | .callT _ _, _, h => h
  | .at2 n, _, h => by
    obtain ⟨j, e, h⟩ := h
    exact ⟨j, e, need_of n h⟩
  | .act _ _, _, h => h.elim
theorem needs_of {X : Cx} {k : Nat} {l : List Need} (h : ∀ c ∈ l, NeedG X.prog X.w X.K X.mg X.base k c) : Needs X k l := fun c hc => need_of c (h c hc)
theorem envR_start {F : Hp} {as : List Addr} {N : List Str} {vs : List V} {ds : List D} (r : RepAll K F as vs ds) : EnvR K F as (start N vs) (startE N ds) := by
  refine ⟨by simp [L2.start, startE, r.len], fun i d h => ?_⟩
  unfold startE at h
  unfold L2.start
  by_cases hi : i < ds.length
  · rw [List.getElem?_append_left (by simpa using hi), List.getElem?_map] at h
    rw [List.getElem?_append_left (by rw [List.length_map, r.len]; exact hi), List.getElem?_map]
    cases hd : ds[i]? with
    | none => rw [hd] at h; cases h
    | some d' =>
      rw [hd] at h
      cases h
      obtain ⟨v, hv, rv⟩ := r.get hd
      exact ⟨v, by rw [hv]; rfl, rv⟩
  · rw [List.getElem?_append_right (by simpa using hi)] at h
    rw [List.getElem?_replicate] at h
    split at h
    · cases h
    · cases h
/-- a def by its body -/
theorem fnG_of {x qual : Str} {params : Arguments} {body : List Stmt} {scope : Scope} {dvs : List V} {kws : List (Str × V)} {f : Addr} {fd : FuncData} {N ps : List Str} {k : Nat} {sp : Sp} (Fn0 : FunD K x qual params body scope dvs kws f fd) (S : FnScope N ps scope) (hlen : ∀ vs H Q E, sp vs H Q E → vs.length = ps.length)
    (hbody : ∀ (cdv : Value) (A : Around) (outer : List PySem.Env) (s : Shared) (H : Hp) (vs : List V) (Q : VK) (E : XK), Room k (A.deeper (envOfC qual scope s.heap.objs.size f cdv)) → A.guards = some [] → sp vs H Q E →
      (∃ o dd sl fd, K.lookup f = some ⟨o, dd, .func fd, sl⟩ ∧ fd.code = cdv ∧ fd.qualname = qual) → ∃ t, PSs (cxOf (L2.CX P w) P w K mg base N qual scope f cdv A outer s H E) body t ∧ t { nx := fun _ H' => Q .non H', rt := Q } (start N vs) H) : FnG P w K mg base (k + 1) f fd ps sp := by
  obtain ⟨oc, od, dV, kV, doc, pm, an, cdv, ct, osl, rfl, lk, hcd, _, _⟩ := Fn0.ex
  refine ⟨hlen, fun A outer s H args us vs Q E room gd e0 bnd rv q => ?_⟩
  have kIn : K.In s.heap := e0.mod.kin.keeps (fun b o z => (e0.bs b o z).1)
  have noLim : s.heap.NoLimit := e0.mod.nolimit.keeps (fun b o z => (e0.bs b o z).1)
  have kinds : ∀ y ∈ ps.zip us, scope.names.lookup y.1 = some .local ∨ (scope.names.lookup y.1 = some .cell ∧ ((cellsFrom (s.heap.objs.size + 1) scope.names []).lookup y.1).isSome = true) := by
    rintro ⟨n, v⟩ hm
    rcases S.par n (List.of_mem_zip hm).1 with z | z
    · left; exact z
    · right; exact ⟨z, PySem.W.cellsFrom_some _ _ _ (.inl z)⟩
  refine codeAny_call_function room.depth (kIn f _ lk) rfl S.co S.gen rfl (PySem.W.codeRec_of kIn hcd) (bnd _ _ _ _ ?_)
  refine wpAny_newFunctionEnv_cells S.kind kinds (fun env he s1 icc => ?_)
  subst he
  refine ⟨noLim.keeps icc.toInCall.keep, codeAny_func ?_⟩
  obtain ⟨t, pt, qt⟩ := hbody cdv A outer s H vs Q E (room.deeper _) gd q ⟨_, _, _, _, lk, rfl, rfl⟩
  have inv := inv_start (CX := L2.CX P w) (E := E) S room.hd e0 (hlen _ _ _ _ q) rv icc
  refine wpAny_mono (pt.run [] s1 (start N vs) H _ inv qt) (fun fl s2 z => ?_) (fun e s2 z => z)
  cases fl with
  | next =>
    obtain ⟨_, H2, J, z⟩ := z
    exact ⟨.non, H2, J.os, J.bare, J.base, J.hok, rfl, z⟩
  | ret u =>
    obtain ⟨v, _, H2, J, rv, z⟩ := z
    exact ⟨v, H2, J.os, J.bare, J.base, J.hok, rv, z⟩
  | brk =>
    obtain ⟨_, _, _, z⟩ := z
    exact False.elim z
  | cont =>
    obtain ⟨_, _, _, z⟩ := z
    exact False.elim z

theorem codeO_of {o : Obj} {r : Addr × Addr × Str} (h : codeO K o = some r) : ∃ fd, o.data = .func fd ∧ fd.code = .ref r.1 ∧ r.2.2 = fd.qualname ++ ".<locals>." ++ "<lambda>" := by
  unfold codeO at h
  split at h
  · rename_i fd hd
    split at h
    · rename_i c hc
      split at h
      · split at h
        · split at h
          · cases h
            exact ⟨fd, hd, hc, rfl⟩
          · cases h
        · cases h
      · cases h
    · cases h
  · cases h
/-- THE RULE for a def -/
theorem fnG_sem {x qual : Str} {params : Arguments} {body : List Stmt} {scope : Scope} {dvs : List V} {kws : List (Str × V)} {f : Addr} {fd : FuncData} {N ps : List Str} {k : Nat} {ib : IB} {g : Fn} (Fn0 : FunD K x qual params body scope dvs kws f fd) (S : FnScope N ps scope) (hbi : ∀ x ∈ biNames, mg x = none) (tb : TabsB K base mg) (hl : ∃ o r, K.lookup f = some o ∧ codeO K o = some r) (hc : chkB N true scope ib body = true)
    (nd : ∀ c ∈ needB ib, NeedG P w K mg base k c) (hex : ∀ sto ds, ds.length = ps.length → Exit sto (fnSem N ib sto ds) (g sto ds)) : FnG P w K mg base (k + 1) f fd ps (spF K mg ps.length g) := by
  refine fnG_of Fn0 S (fun vs H Q E h => h.1) (fun cdv A outer s H vs Q E room gd sp lk0 => ?_)
  obtain ⟨hvl, F, as, sto, ds, s5, rv, fin⟩ := sp
  have hX : ∀ X : Cx, X = cxOf (L2.CX P w) P w K mg base N qual scope f cdv A outer s H E → ∃ t, PSs X body t ∧ t { nx := fun _ H' => Q .non H', rt := Q } (start N vs) H := by
    intro X hX
    let m0 : Md := ⟨X.s_0, X.H_0, X.env, X.outer, X.ex, X.fn, X.pn, X.xe, X.A, X.stack⟩
    have hw : X.wth m0 = X := rfl
    have hxK : X.K = K := by rw [hX]; rfl
    have hxm : X.mg = mg := by rw [hX]; rfl
    have hlam : LamC X := by
      obtain ⟨o, ⟨c, P', q⟩, h1, h2⟩ := hl
      obtain ⟨o', dd, sl, fd', h3, h4, h5⟩ := lk0
      rw [h1] at h3
      cases h3
      obtain ⟨fd2, e1, e2, e3⟩ := codeO_of h2
      cases e1
      have m1 := codes_mem h1 h2
      have m2 := tabs_of_codes m1
      have e4 : q = qual ++ ".<locals>." ++ "<lambda>" := by rw [← h5]; exact e3
      rw [e4] at m1 m2
      rw [hX]
      refine ⟨c, P', ?_, tb.2.1 _ m1, m2, fun p hp e => tb.1 p hp _ m2 e⟩
      show cdv = _
      rw [← h4]
      exact e2
    have c : CtxM X (fun m => m = m0) (fun cls dd _ H => E cls dd H) N scope k true true := by
      rintro m rfl
      rw [hw, hX]
      exact { hsc := rfl, hN := rfl, nd := S.nd, calm := rfl, tk := takes_of rfl rfl rfl rfl, room := room, gd := guards_deeper gd, fn := fun _ _ => rfl, kind := S.kind, bi := hbi, lam := fun _ => by rw [← hX]; exact hlam, sysb := tb.2.2 }
    have cs : CtxS X (fun m => m = m0) := by
      rintro m rfl
      refine ⟨?_, ?_, ?_, ?_, X.pn, X.xe, rfl⟩
      · show PassesOwn (model X.prog X.w) X.A X.env X.xe
        rw [hX]
        exact passes_of rfl
      · show X.ex = []
        rw [hX] <;> rfl
      · show X.stack = X.env :: X.outer
        rw [hX] <;> rfl
      · show X.env.frame = some X.env.locals
        rw [hX] <;> rfl
    obtain ⟨t, pt, ht⟩ := sndB X N k true _ _ scope c cs ib body (needs_of (by rw [hX]; exact nd)) hc
    refine ⟨t, by have := pt m0 rfl; rwa [hw] at this, ht (startE N ds) sto (start N vs) F H as _ (by rw [hxK]; exact s5) (by rw [hxK]; exact envR_start rv) ?_⟩
    have z := fin_exit s5 (hex sto ds (by rw [← rv.len]; exact hvl)) fin
    rw [hxK, hxm]
    unfold fnSem at z
    cases ho : semB ib (startE N ds) sto with
    | nx ρ s1 =>
      rw [ho] at z
      exact fun σ F' H' as' x1 s1 _ => z F' H' as' x1 s1 .non .non
    | ret d s1 =>
      rw [ho] at z
      exact fun v F' H' as' x1 s1 r => z F' H' as' x1 s1 v r
    | ex e ρ s1 =>
      rw [ho] at z
      exact fun σ F' H' as' cls dd x1 s1 _ er => z F' H' as' cls dd x1 s1 er
    | brk ρ s1 => rw [ho] at z; exact z.elim
    | ct ρ s1 => rw [ho] at z; exact z.elim
    | bad => rw [ho] at z; exact z.elim
  exact hX _ rfl
end
end DV

namespace DV
open PySem PySem.Spec PyProof.Rows L2

/-! ### tables of code objects, as the head leaves them -/
abbrev bareTab : Obj := { cls := .none, data := .fields #[] }
def isTab (o : Obj) : Bool := match o with
  | ⟨.none, none, .fields vs, sl⟩ => decide (vs = #[]) && decide (sl = #[])
  | _ => false
theorem isTab_ok {o : Obj} (h : isTab o = true) : o = bareTab := by
  unfold isTab at h
  split at h
  · obtain ⟨h1, h2⟩ := an h
    rw [dc h1, dc h2]
  · cases h
def hideT (g : Addr → Option Obj) : Addr → Option Obj := fun a => match g a with
  | some o => if isTab o = true then none else some o
  | none => none
theorem hideT_some {g : Addr → Option Obj} {a : Addr} {o : Obj} (h : hideT g a = some o) : g a = some o ∧ isTab o = false := by
  unfold hideT at h
  split at h
  · rename_i u hu
    split at h
    · cases h
    · rename_i hn
      cases h
      exact ⟨hu, by simpa using hn⟩
  · cases h
def isStrV : Value → Bool
  | .str _ _ => true | _ => false
def isIntV : Value → Bool
  | .int _ _ => true | _ => false
def isBoolV : Value → Bool
  | .bool _ => true | _ => false
def codeB (K : PySem.W.Frag) (c P : Addr) : Bool := match K.lookup c with
  | some ⟨.type t, _, .fields vs, _⟩ => decide (t = "code") && (decide ((vs[11]? : Option Value) = some (.ref P)) && (decide (vs.getD 11 .none = .ref P) && (isStrV (vs.getD 18 .none) && (isIntV (vs.getD 7 .none) && (isBoolV (vs.getD 9 .none) && (isIntV (vs.getD 10 .none) && decide (c ≠ P)))))))
  | _ => false
theorem codeB_ok {K : PySem.W.Frag} {h : Heap} {c P : Addr} (X : K.In h) (e : codeB K c P = true) : PySem.W.CodeHd h c P := by
  unfold codeB at e
  split at e
  · rename_i t dd vs sl ho
    obtain ⟨h1, e⟩ := an e
    obtain ⟨h2, e⟩ := an e
    obtain ⟨h3, e⟩ := an e
    obtain ⟨h4, e⟩ := an e
    obtain ⟨h5, e⟩ := an e
    obtain ⟨h6, e⟩ := an e
    obtain ⟨h7, h8⟩ := an e
    have g4 : ∃ x t, vs.getD 18 .none = .str x t := by
      revert h4
      cases vs.getD 18 .none <;> intro h4 <;> first | cases h4; done | exact ⟨_, _, rfl⟩
    have g5 : ∃ x t, vs.getD 7 .none = .int x t := by
      revert h5
      cases vs.getD 7 .none <;> intro h5 <;> first | cases h5; done | exact ⟨_, _, rfl⟩
    have g6 : ∃ x, vs.getD 9 .none = .bool x := by
      revert h6
      cases vs.getD 9 .none <;> intro h6 <;> first | cases h6; done | exact ⟨_, rfl⟩
    have g7 : ∃ x t, vs.getD 10 .none = .int x t := by
      revert h7
      cases vs.getD 10 .none <;> intro h7 <;> first | cases h7; done | exact ⟨_, _, rfl⟩
    obtain ⟨f1, f2, g4⟩ := g4
    obtain ⟨f3, f4, g5⟩ := g5
    obtain ⟨f5, g6⟩ := g6
    obtain ⟨f6, f7, g7⟩ := g7
    exact ⟨_, vs, f1, f2, f3, f4, f5, f6, f7, X _ _ ho, by rw [dc h1], rfl, dc h2, dc h3, g4, g5, g6, g7, dc h8⟩
  · cases e
def SysH (h : Heap) : Prop := ∃ o es ep, h.get? sysModules = some o ∧ o.data = .dict es ep
def sysG (g : Addr → Option Obj) : Bool := match g sysModules with
  | some ⟨_, _, .dict _ _, _⟩ => true
  | _ => false
theorem sysG_ok {h : Heap} (e : sysG h.get? = true) : SysH h := by
  unfold sysG at e
  split at e
  · rename_i es ep sl q
    exact ⟨_, _, _, q, rfl⟩
  · cases e
def TabsH (K : PySem.W.Frag) (h : Heap) : Prop := (∀ p ∈ codesOf K, h.get? p.2.1 = some bareTab ∧ K.lookup p.2.1 = none ∧ PySem.W.CodeHd h p.1 p.2.1) ∧ SysH h
def tabsG (g : Addr → Option Obj) (K : PySem.W.Frag) : Bool := sysG g && (((codesOf K).all fun p => (match g p.2.1 with
  | some o => isTab o
  | none => false) && codeB K p.1 p.2.1) && (tabsOf K).all fun p => (tabsOf K).all fun r => !decide (p.1 = r.1) || decide (p.2 = r.2))
theorem tabsG_ok {h : Heap} {as : List Addr} (e : tabsG h.get? (He.frG (hideT h.get?) as) = true) : TabsH (He.frG (hideT h.get?) as) h ∧ UniqT (He.frG (hideT h.get?) as) := by
  obtain ⟨e0, e⟩ := an e
  obtain ⟨e1, e2⟩ := an e
  have kin : (He.frG (hideT h.get?) as).In h := fun _ _ q => (hideT_some (He.frG_at as q)).1
  refine ⟨⟨fun p hp => ?_, sysG_ok e0⟩, fun p hp r hr q => ?_⟩
  · obtain ⟨h1, h2⟩ := an (List.all_eq_true.mp e1 p hp)
    cases q : h.get? p.2.1 with
    | none => rw [q] at h1; cases h1
    | some o =>
      rw [q] at h1
      have h1 := isTab_ok h1
      subst h1
      refine ⟨rfl, ?_, codeB_ok kin h2⟩
      cases z : (He.frG (hideT h.get?) as).lookup p.2.1 with
      | none => rfl
      | some u =>
        obtain ⟨z1, z2⟩ := hideT_some (He.frG_at as z)
        rw [q] at z1
        cases z1
        exact absurd (show isTab bareTab = true by decide) (by rw [z2]; decide)
  · have h1 := List.all_eq_true.mp (List.all_eq_true.mp e2 p hp) r hr
    rw [Bool.or_eq_true] at h1
    rcases h1 with h1 | h1
    · exact absurd q (of_decide_eq_false (nt h1))
    · exact dc h1
def lamD (K : PySem.W.Frag) (d : He.DefD) : Bool := match K.lookup (He.fAd K d.at_) with
  | some o => (codeO K o).isSome
  | none => false
theorem lamD_ok {K : PySem.W.Frag} {d : He.DefD} (h : lamD K d = true) : ∃ o r, K.lookup (He.fAd K d.at_) = some o ∧ codeO K o = some r := by
  unfold lamD at h
  split at h
  · rename_i o ho
    obtain ⟨r, hr⟩ := Option.isSome_iff_exists.mp h
    exact ⟨o, r, ho, hr⟩
  · cases h
/-- facts of exceptions' classes -/
inductive XF where
  | kitx (y c : Str) (b : Bool) | kitb (y : String) (c : Str) (b : Bool) | nonx (y : Str) | nonb (y : String) | fld (f c : Str)
def excCB (K : PySem.W.Frag) (D : Addr) : Bool := He.eqO (PySem.W.findIn K (.ref D) "__getattribute__") (some (some (.builtin "BaseException.__getattribute__"))) && (He.eqO (PySem.W.findIn K (.ref D) "__getattr__") (some none) && (decide (PySem.W.subIn K (.ref D) (.type "BaseException") = some true) && (PySem.W.hasDictIn K D &&
  (He.eqO (PySem.W.findIn K (.ref D) "__class__") (some (some (.builtin "object.__class__"))) && (He.eqO (PySem.W.specialIn K (.builtin "object.__class__") "__get__") (some (some (.builtin "getset_descriptor.__get__"))) && (decide (PySem.W.takesIn K (.builtin "object.__class__") = some true) && decide (PySem.W.mroIn K D (.type "object") = some true)))))))
theorem excCB_ok {K : PySem.W.Frag} {D : Addr} (h : excCB K D = true) : ExcC K D := by
  unfold excCB at h
  obtain ⟨h1, h⟩ := an h
  obtain ⟨h2, h⟩ := an h
  obtain ⟨h3, h⟩ := an h
  obtain ⟨h4, h⟩ := an h
  obtain ⟨h5, h⟩ := an h
  obtain ⟨h6, h⟩ := an h
  obtain ⟨h7, h8⟩ := an h
  exact ⟨He.eqO_ok h1, He.eqO_ok h2, dc h3, h4, He.eqO_ok h5, He.eqO_ok h6, dc h7, dc h8⟩
def XF.ok (K : PySem.W.Frag) : XF → Bool
  | .kitx y c b => excCB K (He.ga K c) && decide (PySem.W.kitOne K (.ref (He.ga K c)) (.ref (He.ga K y)) = some b)
  | .kitb y c b => excCB K (He.ga K c) && decide (PySem.W.kitOne K (.ref (He.ga K c)) (.type y) = some b)
  | .nonx y => decide (PySem.W.kitOne K (.type "NoneType") (.ref (He.ga K y)) = some false)
  | .nonb y => decide (PySem.W.kitOne K (.type "NoneType") (.type y) = some false)
  | .fld f c => xfB K (He.ga K c) && decide (PySem.W.findIn K (.ref (He.ga K c)) f = some none)
/-- what the head tells -/
structure Says (fa : List He.Fa) (fn : List He.DefD) (xf : List XF) (K : PySem.W.Frag) : Prop where
  x : ∀ f ∈ xf, f.ok K = true
  c : He.SaysD fa fn K
  l : ∀ d ∈ fn, lamD K d = true
def obsT (fa : List He.Fa) (fn : List He.DefD) (xf : List XF) (g : Addr → Option Obj) (K : PySem.W.Frag) : He.AlD := (((fa.all fun f => f.ok K) && fn.all fun d => d.ok K) && ((fn.all fun d => lamD K d) && (tabsG g K && xf.all fun f => f.ok K)), fn.map fun d => He.fnW K d.at_)
def obsTG (n : Nat) (fa : List He.Fa) (fn : List He.DefD) (xf : List XF) (g : Addr → Option Obj) : He.AlD := obsT fa fn xf g (He.frG (hideT g) (He.asD g n))
def hookT (n : Nat) (fa : List He.Fa) (fn : List He.DefD) (xf : List XF) : PySem.W.Hook where
  α := He.AlD
  obs := fun s => obsTG n fa fn xf s.heap.get?
  val := fun _ => He.valD fn
  says := fun _ h => ∃ K : PySem.W.Frag, K.In h ∧ Says fa fn xf K ∧ TabsH K h ∧ UniqT K
  of := fun _ s e => by
    have e1 : (((fa.all fun f => f.ok (He.frG (hideT s.heap.get?) (He.asD s.heap.get? n))) && fn.all fun d => d.ok (He.frG (hideT s.heap.get?) (He.asD s.heap.get? n))) && ((fn.all fun d => lamD (He.frG (hideT s.heap.get?) (He.asD s.heap.get? n)) d) && (tabsG s.heap.get? (He.frG (hideT s.heap.get?) (He.asD s.heap.get? n)) && xf.all fun f => f.ok (He.frG (hideT s.heap.get?) (He.asD s.heap.get? n))))) = true := congrArg (fun z : He.AlD => z.1) e
    have e2 : (fn.map fun d => He.fnW (He.frG (hideT s.heap.get?) (He.asD s.heap.get? n)) d.at_) = fn.map He.DefD.val := congrArg (fun z : He.AlD => z.2) e
    obtain ⟨h1, h2⟩ := an e1
    obtain ⟨h3, h4⟩ := an h2
    obtain ⟨h4, h7⟩ := an h4
    obtain ⟨h5, h6⟩ := tabsG_ok h4
    refine ⟨_, fun _ _ q => (hideT_some (He.frG_at _ q)).1, ⟨fun f hf => List.all_eq_true.mp h7 f hf, ?_, fun d hd => List.all_eq_true.mp h3 d hd⟩, h5, h6⟩
    show (_, _) = (_, _)
    rw [h1, e2]
  keeps := fun _ _ _ ⟨K, hK, c, t, u⟩ k => ⟨K, PySem.W.Frag.In.keeps hK k, c, ⟨fun p hp => let ⟨a, b, d⟩ := t.1 p hp; ⟨k _ _ a, b, d.keeps k⟩, let ⟨o, es, ep, a, b⟩ := t.2; ⟨o, es, ep, k _ _ a, b⟩⟩, u⟩
theorem obsTG_eq {n : Nat} {fa : List He.Fa} {fn : List He.DefD} {xf : List XF} {g : Addr → Option Obj} {s : Shared} (h : ∀ a, g a = s.heap.get? a) : obsTG n fa fn xf g = (hookT n fa fn xf).obs s := by
  have e : g = s.heap.get? := funext h
  rw [e] <;> rfl

section
variable {K : PySem.W.Frag} {mg : Str → Option Value} {h : Heap} {fa : List He.Fa} {fn : List He.DefD} {xf : List XF} (X : K.In h) (G : h.Ns mainGlobals mg) (c : Says fa fn xf K)
include X G c
theorem raise_ok {x : Str} (g : (He.Fa.glo x).ok K = true) (e : (He.Fa.exc x).ok K = true) : RaiseOk K mg x :=
  let ⟨a, b, d, f⟩ := He.exc_ok e
  ⟨He.glo_ok X G g, a, b, d, f⟩
theorem isx_ok {y : Str} {tbl : List (Str × Bool)} (g : (He.Fa.glo y).ok K = true) (n : XF.nonx y ∈ xf) (t : ∀ p ∈ tbl, XF.kitx y p.1 p.2 ∈ xf) : IsxOk K mg y tbl :=
  ⟨He.glo_ok X G g, dc (c.x _ n), fun p hp => let ⟨a, b⟩ := an (c.x _ (t p hp)); ⟨excCB_ok a, dc b⟩⟩
theorem isb_ok {y : String} {tbl : List (Str × Bool)} (g : (He.Fa.free (Str.ofString y)).ok K = true) (n : XF.nonb y ∈ xf) (t : ∀ p ∈ tbl, XF.kitb y p.1 p.2 ∈ xf) : IsbOk K mg y tbl :=
  ⟨He.free_ok X G g, dc (c.x _ n), fun p hp => let ⟨a, b⟩ := an (c.x _ (t p hp)); ⟨excCB_ok a, dc b⟩⟩
theorem fld_ok {f : Str} {cs : List Str} (t : ∀ p ∈ cs, XF.fld f p ∈ xf) : FldOk K f cs := fun p hp => let ⟨a, b⟩ := an (c.x _ (t p hp)); ⟨xfB_ok a, dc b⟩
theorem catch_ok {x : Str} {tbl : List (Str × Bool)} (g : (He.Fa.glo x).ok K = true) (t : ∀ p ∈ tbl, (He.Fa.exm p.1 x p.2).ok K = true) : CatchOk K mg x tbl := ⟨He.glo_ok X G g, fun p hp => He.exm_ok (t p hp)⟩
end
/-! ### the law's end -/
section
variable {P : Program} {w : World} {K : PySem.W.Frag} {mg mb : Str → Option Value} {k : Nat} {fa a : Addr} {fd : FuncData} {x : Str} {t1 : Shared} {us : List Value} {ns : List Int} {g : Fn}
def Done (t1 : Shared) (r : Except Value Flow) (t2 : Shared) : Prop := r = .ok (.ret (.bool true)) ∧ OldK t1.heap t2.heap ∧ t2.os = t1.os ∧ AllBare t2.gens
/-- from a view of the heap that tracks at most the script and the tables -/
theorem law_in (kin : K.In t1.heap) (ng : t1.heap.Ns mainGlobals mg) (nb : t1.heap.Ns builtinsNs mb) (nbb : ∀ x : Str, x ≠ "__name__" → mb x = bootBuiltins x) (lim : t1.heap.NoLimit) (nogen : t1.gens = #[])
    (bm : ∃ bm ob, mg "__builtins__" = some (.ref bm) ∧ bm ≠ builtinsNs ∧ t1.heap.get? bm = some ob ∧ ob.cls = .type "module" ∧ ob.dict = some builtinsNs ∧ ob.data = .plain)
    (ga : t1.heap.get? a = some { cls := .type "list", data := .seq us.toArray }) (room : Room k callerA) (ht : TabsH K t1.heap) (uq : UniqT K)
    (hF : ∀ base : Heap, K.In base → base.Ns mainGlobals mg → TabsB K base mg → FnG P w K mg base k fa fd [x] (spF K mg 1 g)) (hbind : ∀ (s : Shared) (u : Value), BindsTo s fd ⟨[u], []⟩ [(x, u)]) (hg : g [] [.scr ns] = .ok (.bl true) [])
    {Hh Ff : Hp} (tabs : ∀ p ∈ tabsOf K, Hh p.1 = some (.tbl #[])) (only : ∀ b, Hh b = none ∨ b ∈ (tabsOf K).map (·.1) ∨ ∃ ob xs, Hh b = some (.frz ob (.lst xs))) (sub : Same Ff Hh) (nof : NoTbl Ff) (hS : SqL K Ff a (ns.map V.int)) (hok : HOk P w Hh t1.heap)
    (one : ∀ b, Hh b ≠ none → b = a ∨ b ∈ (tabsOf K).map (·.1)) (out : Hh a ≠ none → K.lookup a = none) :
    codeAny (model P w) callerA (.call (.ref fa) ⟨[.ref a], []⟩) (Done t1) t1 := by
  have tab_of : ∀ b, b ∈ (tabsOf K).map (·.1) → t1.heap.get? b = some bareTab ∧ K.lookup b = none ∧ ∃ c, PySem.W.CodeHd t1.heap c b := fun b hb => by
    obtain ⟨p, hp, rfl⟩ := List.mem_map.mp hb
    obtain ⟨r, hr, rfl⟩ := List.mem_map.mp hp
    obtain ⟨h1, h2, h3⟩ := ht.1 r hr
    exact ⟨h1, h2, _, h3⟩
  have bare_of : ∀ {b : Addr} {o : Obj}, t1.heap.get? b = some o → Hh b = none → (hidT t1.heap Hh).get? b = some o := fun e n => hidT_get e n
  have seen : ∀ {b : Addr} {o : Obj}, t1.heap.get? b = some o → (∀ vs n, o.data ≠ .seq vs n) → o.data ≠ .fields #[] → Hh b = none := by
    intro b o e n1 n2
    cases q : Hh b with
    | none => rfl
    | some u =>
      rcases one b (by rw [q]; exact Option.some_ne_none u) with hb | hb
      · rw [hb, ga] at e
        cases e
        exact absurd rfl (n1 _ _)
      · rw [(tab_of b hb).1] at e
        cases e
        exact absurd rfl n2
  have nod : ∀ {b : Addr} {o : Obj} {es : Array DictEntry} {ep : Nat}, t1.heap.get? b = some o → o.data = .dict es ep → Hh b = none := fun e d =>
    seen e (fun vs n z => by rw [d] at z; exact Data.noConfusion z) fun z => by rw [d] at z; exact Data.noConfusion z
  have ns_of : ∀ {b : Addr} {m : Str → Option Value}, t1.heap.Ns b m → (hidT t1.heap Hh).Ns b m := fun ⟨o, es, ep, e, d, r⟩ => ⟨o, es, ep, bare_of e (nod e d), d, r⟩
  have kin2 : K.In (hidT t1.heap Hh) := fun b o e => by
    refine bare_of (kin b o e) ?_
    cases q : Hh b with
    | none => rfl
    | some u =>
      have hn : Hh b ≠ none := by rw [q]; exact Option.some_ne_none u
      rcases one b hn with hb | hb
      · subst hb
        rw [out hn] at e
        cases e
      · rw [(tab_of b hb).2.1] at e
        cases e
  have tB : TabsB K (hidT t1.heap Hh) mg := ⟨uq, fun p hp => by
    obtain ⟨h1, h2, h3⟩ := ht.1 p hp
    refine ⟨?_, ?_, fun z => ?_⟩
    · obtain ⟨o, vs, f1, f2, f3, f4, f5, f6, f7, e1, e2, e3, e4, r⟩ := h3
      refine ⟨o, vs, f1, f2, f3, f4, f5, f6, f7, bare_of e1 (seen e1 (fun us n z => ?_) fun z => ?_), e2, e3, e4, r⟩
      · rw [e3] at z; exact Data.noConfusion z
      · rw [e3] at z
        cases z
        exact absurd e4 (by simp)
    · obtain ⟨m, ob, b1, b2, b3, b4, b5, b6⟩ := bm
      refine ⟨m, ob, b1, b2, fun q => ?_, fun q => ?_, bare_of b3 (seen b3 (fun us n z => ?_) fun z => ?_), b4, b5, b6⟩
      · obtain ⟨o, es, ep, e, d, _⟩ := ng
        rw [q, e] at b3
        cases b3
        rw [d] at b6
        exact Data.noConfusion b6
      · rw [q, h1] at b3
        cases b3
        exact Data.noConfusion b6
      · rw [b6] at z; exact Data.noConfusion z
      · rw [b6] at z; exact Data.noConfusion z
    · obtain ⟨o, es, ep, e, d, _⟩ := ng
      rw [z, h1] at e
      cases e
      exact Data.noConfusion d, by
    obtain ⟨o, es, ep, e, d⟩ := ht.2
    exact ⟨o, bare_of e (nod e d)⟩⟩
  obtain ⟨mc, l1, l2⟩ := lim
  have env : Env0 P w K mg (hidT t1.heap Hh) callerA [] t1 Hh :=
    ⟨rfl, ⟨kin2, ns_of ng, ⟨mb, ns_of nb, nbb⟩, mc, ns_of l1, l2⟩, fun b o e => of_hidT e, Nat.le_of_eq (hidT_size _ _), trivial, (fun b hb => by cases hb), hok, .of_eq nogen⟩
  have tT : LamX.Tabs (tabsOf K) Hh := fun p hp => LamX.TabS.nil (tabs p hp)
  have sp : spF K mg 1 g [.ref a] Hh (fun v _ => v = .bl true) (fun _ _ _ => False) := by
    refine ⟨rfl, Ff, [], [], [.scr ns], ⟨sub, rfl, List.nodup_nil, tT, nof, fun n b c e1 _ => by cases e1⟩, .cons (.scr hS) .nil, ?_⟩
    rw [hg]
    exact fun F' H' as' x s5 v rv => by
      cases rv
      rfl
  refine codeAny_mono ((hF _ kin2 (ns_of ng) tB).run callerA [] t1 Hh ⟨[.ref a], []⟩ [.ref a] [.ref a] _ _ room rfl env (hbind t1 (.ref a)) (.cons rfl .nil) sp) fun r t2 z => ?_
  cases r with
  | error e =>
    obtain ⟨_, _, _, _, _, _, _, _, _, _, _, _, f⟩ := z
    exact f.elim
  | ok fl =>
    cases fl with
    | ret u =>
      obtain ⟨v, H', os, bare, un, hok2, rv, q⟩ := z
      have q2 : v = .bl true := q
      rw [q2] at rv
      have rv2 : u = Value.bool true := rv
      rw [rv2]
      have stays : ∀ b o, b ∉ (tabsOf K).map (·.1) → t1.heap.get? b = some o → t2.heap.get? b = some o := fun b o nb e => by
        cases q : Hh b with
        | none => exact un.keep b o e q (fun z => by cases z) (fun z => by cases z)
        | some u =>
          rcases only b with y | y | ⟨ob, xs, y⟩
          · rw [q] at y; cases y
          · exact absurd y nb
          · have k1 := (hok b _ y).1
            have k2 := (hok2 b _ (un.frzs b ob _ y)).1
            rw [e] at k1
            cases k1
            exact k2
      have grew : ∀ b, b ∈ (tabsOf K).map (·.1) → ∃ more : Array Value, t2.heap.get? b = some { cls := .none, data := .fields more } := fun b hb => by
        obtain ⟨p, hp, rfl⟩ := List.mem_map.mp hb
        obtain ⟨more, y⟩ := un.tbls p.1 #[] (tabs p hp)
        exact ⟨_, hok2 p.1 _ y⟩
      refine ⟨rfl, ⟨fun b o e => ?_, fun b o e => ?_⟩, os, bare⟩
      · by_cases hb : b ∈ (tabsOf K).map (·.1)
        · obtain ⟨h1, _, c, h3⟩ := tab_of b hb
          obtain ⟨more, hm⟩ := grew b hb
          rw [h1] at e
          cases e
          exact .inr (.inl ⟨(h3.tab h1).isCodeTable, rfl, #[], more, rfl, by rw [Array.empty_append]; exact hm⟩)
        · exact .inl (stays b o hb e)
      · by_cases hb : b ∈ (tabsOf K).map (·.1)
        · obtain ⟨more, hm⟩ := grew b hb
          exact ⟨_, hm⟩
        · exact ⟨o, stays b o hb e⟩
    | next => exact (show False from z).elim
    | brk => exact (show False from z).elim
    | cont => exact (show False from z).elim
theorem law_all (kin : K.In t1.heap) (ng : t1.heap.Ns mainGlobals mg) (nb : t1.heap.Ns builtinsNs mb) (nbb : ∀ x : Str, x ≠ "__name__" → mb x = bootBuiltins x) (lim : t1.heap.NoLimit) (nogen : t1.gens = #[])
    (bm : ∃ bm ob, mg "__builtins__" = some (.ref bm) ∧ bm ≠ builtinsNs ∧ t1.heap.get? bm = some ob ∧ ob.cls = .type "module" ∧ ob.dict = some builtinsNs ∧ ob.data = .plain)
    (ga : t1.heap.get? a = some { cls := .type "list", data := .seq us.toArray }) (hi : IntsAre us ns) (hl : ns.length ≤ sizeLine) (room : Room k callerA) (ht : TabsH K t1.heap) (uq : UniqT K)
    (hF : ∀ base : Heap, K.In base → base.Ns mainGlobals mg → TabsB K base mg → FnG P w K mg base k fa fd [x] (spF K mg 1 g)) (hbind : ∀ (s : Shared) (u : Value), BindsTo s fd ⟨[u], []⟩ [(x, u)]) (hg : g [] [.scr ns] = .ok (.bl true) []) :
    codeAny (model P w) callerA (.call (.ref fa) ⟨[.ref a], []⟩) (Done t1) t1 := by
  have rv := vals_ints hi
  have hlen := hi.length
  have atab : a ∉ (tabsOf K).map (·.1) := fun z => by
    obtain ⟨p, hp, e⟩ := List.mem_map.mp z
    obtain ⟨r, hr, rfl⟩ := List.mem_map.mp hp
    have q := (ht.1 r hr).1
    rw [e, ga] at q
    cases q
  have tabHp : ∀ b, b ∈ (tabsOf K).map (·.1) → t1.heap.get? b = some bareTab := fun b hb => by
    obtain ⟨p, hp, rfl⟩ := List.mem_map.mp hb
    obtain ⟨r, hr, rfl⟩ := List.mem_map.mp hp
    exact (ht.1 r hr).1
  by_cases hk : K.lookup a = none
  · let fz : HO := .frz { cls := .type "list", data := .seq us.toArray } (.lst (ns.map V.int))
    let Hh : Hp := fun b => if b = a then some fz else if b ∈ (tabsOf K).map (·.1) then some (.tbl #[]) else none
    let Ff : Hp := fun b => if b = a then some fz else none
    have at_a : Hh a = some fz := if_pos rfl
    have at_t : ∀ b, b ∈ (tabsOf K).map (·.1) → Hh b = some (.tbl #[]) := fun b hb => (if_neg (fun z : b = a => atab (by rw [← z]; exact hb))).trans (if_pos hb)
    have off : ∀ b, b ≠ a → b ∉ (tabsOf K).map (·.1) → Hh b = none := fun b h1 h2 => (if_neg h1).trans (if_neg h2)
    have offF : ∀ b, b ≠ a → Ff b = none := fun b h => if_neg h
    refine law_in kin ng nb nbb lim nogen bm ga room ht uq hF hbind hg (Hh := Hh) (Ff := Ff) (fun p hp => at_t _ (List.mem_map.mpr ⟨p, hp, rfl⟩)) (fun b => ?_) (fun b o e => ?_) (fun b ps e => ?_) (.inl (.inr ⟨_, if_pos rfl⟩)) (fun b u z => ?_) (fun b z => ?_) (fun _ => hk)
    · by_cases h : b = a
      · exact .inr (.inr ⟨_, _, by rw [h]; exact at_a⟩)
      · by_cases h2 : b ∈ (tabsOf K).map (·.1)
        · exact .inr (.inl h2)
        · exact .inl (off b h h2)
    · by_cases h : b = a
      · rw [h] at e ⊢
        exact at_a.trans ((show Ff a = some fz from if_pos rfl).symm.trans e)
      · rw [offF b h] at e; cases e
    · by_cases h : b = a
      · rw [h, show Ff a = some fz from if_pos rfl] at e
        have e := Option.some.inj e
        simp only [fz] at e
        cases e
      · rw [offF b h] at e; cases e
    · by_cases h : b = a
      · subst h
        rw [at_a] at z
        cases z
        exact ⟨ga, by rw [List.length_map]; exact hl, us, _, rv, ga⟩
      · by_cases h2 : b ∈ (tabsOf K).map (·.1)
        · rw [at_t b h2] at z
          cases z
          exact tabHp b h2
        · rw [off b h h2] at z
          cases z
    · by_cases h : b = a
      · exact .inl h
      · by_cases h2 : b ∈ (tabsOf K).map (·.1)
        · exact .inr h2
        · exact absurd (off b h h2) z
  · obtain ⟨o, ho⟩ := Option.ne_none_iff_exists'.mp hk
    have e := kin a o ho
    rw [ga] at e
    cases e
    let Hh : Hp := fun b => if b ∈ (tabsOf K).map (·.1) then some (.tbl #[]) else none
    have at_t : ∀ b, b ∈ (tabsOf K).map (·.1) → Hh b = some (.tbl #[]) := fun b hb => if_pos hb
    have off : ∀ b, b ∉ (tabsOf K).map (·.1) → Hh b = none := fun b h2 => if_neg h2
    refine law_in kin ng nb nbb lim nogen bm ga room ht uq hF hbind hg (Hh := Hh) (Ff := fun _ => none) (fun p hp => at_t _ (List.mem_map.mpr ⟨p, hp, rfl⟩)) (fun b => ?_) (fun b o e => by cases e) (fun b ps e => by cases e) (.inr ⟨_, us.toArray, _, ho, rfl, rfl, rfl, by rw [List.size_toArray, hlen]; exact hl, by simpa using rv⟩) (fun b u z => ?_) (fun b z => ?_) (fun z => absurd (off a atab) z)
    · by_cases h2 : b ∈ (tabsOf K).map (·.1)
      · exact .inr (.inl h2)
      · exact .inl (off b h2)
    · by_cases h2 : b ∈ (tabsOf K).map (·.1)
      · rw [at_t b h2] at z
        cases z
        exact tabHp b h2
      · rw [off b h2] at z
        cases z
    · by_cases h2 : b ∈ (tabsOf K).map (·.1)
      · exact .inr h2
      · exact absurd (off b h2) z
end
/-- the goal that head_any leaves -/
theorem walkG {l : PySem.W.OpenLaw} {n k : Nat} {q : Program} {loose : List Str} {XP : (Str → Option Value) → Heap → Prop} {YP : World → Heap → Prop} {d : DefRec} {x : Str} {g : Fn}
    (hn : l.most = some n) (hn2 : n ≤ sizeLine) (hdf : d.params.defaults = []) (room : Room k callerA)
    (hF : ∀ (w : World) (mg : Str → Option Value) (fa : Addr) (h : Heap), YP w h → h.Ns mainGlobals mg → mg d.name = some (.ref fa) →
      ∃ (K : PySem.W.Frag) (fd : FuncData), K.In h ∧ TabsH K h ∧ UniqT K ∧ (∀ (s : Shared) (u : Value), BindsTo s fd ⟨[u], []⟩ [(x, u)]) ∧
        ∀ base : Heap, K.In base → base.Ns mainGlobals mg → TabsB K base mg → FnG l.prog w K mg base k fa fd [x] (spF K mg 1 g))
    (hg : ∀ ns : List Int, ns.length ≤ n → g [] [.scr ns] = .ok (.bl true) []) :
    PySem.W.WalkO q loose XP YP l.row.toRowW d [] (fun f vs => PySem.call f vs) := by
  refine Att.attach_call hn hdf fun w s0 t1 mg mb fa o pm cd doc a us ns G Y ho hd hcd hmg hobj hints hlen nogen => ?_
  obtain ⟨K, fd, kin, ht, uq, hb, hG⟩ := hF w mg fa _ Y G.T.g hmg
  exact law_all kin G.T.g G.T.b G.T.builtins G.T.nolimit nogen G.T.bmain hobj hints (Nat.le_trans hlen hn2) room ht uq hG hb (hg ns hlen)
end DV

namespace DV
open PySem PySem.Spec PyProof.Rows L2

/-! ### a def that takes a lambda -/
section
variable {P : Program} {w : World} {K : PySem.W.Frag} {mg : Str → Option Value} {base : Heap}
/-- a def entered, by its body -/
theorem run_body {x qual : Str} {params : Arguments} {body : List Stmt} {scope : Scope} {dvs : List V} {kws : List (Str × V)} {f : Addr} {fd : FuncData} {N ps : List Str} {k : Nat} (Fn0 : FunD K x qual params body scope dvs kws f fd) (S : FnScope N ps scope)
    {A : Around} {outer : List PySem.Env} {s : Shared} {H : Hp} {args : Args} {us : List Value} {vs : List V} {Q : VK} {E : XK} (room : Room (k + 1) A) (e0 : Env0 P w K mg base A outer s H) (bnd : BindsTo s fd args (ps.zip us)) (rv : Vals vs us) (hl : vs.length = ps.length)
    (hbody : ∀ (cdv : Value), Room k (A.deeper (envOfC qual scope s.heap.objs.size f cdv)) →
      (∃ o dd sl fd, K.lookup f = some ⟨o, dd, .func fd, sl⟩ ∧ fd.code = cdv ∧ fd.qualname = qual) → ∃ t, PSs (cxOf (L2.CX P w) P w K mg base N qual scope f cdv A outer s H E) body t ∧ t { nx := fun _ H' => Q .non H', rt := Q } (start N vs) H) :
    codeAny (model P w) A (.call (.ref f) args) (CR (L2.CX P w) outer P w H s Q E) s := by
  obtain ⟨oc, od, dV, kV, doc, pm, an, cdv, ct, osl, rfl, lk, hcd, _, _⟩ := Fn0.ex
  have kIn : K.In s.heap := e0.mod.kin.keeps (fun b o z => (e0.bs b o z).1)
  have noLim : s.heap.NoLimit := e0.mod.nolimit.keeps (fun b o z => (e0.bs b o z).1)
  have kinds : ∀ y ∈ ps.zip us, scope.names.lookup y.1 = some .local ∨ (scope.names.lookup y.1 = some .cell ∧ ((cellsFrom (s.heap.objs.size + 1) scope.names []).lookup y.1).isSome = true) := by
    rintro ⟨n, v⟩ hm
    rcases S.par n (List.of_mem_zip hm).1 with z | z
    · left; exact z
    · right; exact ⟨z, PySem.W.cellsFrom_some _ _ _ (.inl z)⟩
  refine codeAny_call_function room.depth (kIn f _ lk) rfl S.co S.gen rfl (PySem.W.codeRec_of kIn hcd) (bnd _ _ _ _ ?_)
  refine wpAny_newFunctionEnv_cells S.kind kinds (fun env he s1 icc => ?_)
  subst he
  refine ⟨noLim.keeps icc.toInCall.keep, codeAny_func ?_⟩
  obtain ⟨t, pt, qt⟩ := hbody cdv (room.deeper _) ⟨_, _, _, _, lk, rfl, rfl⟩
  have inv := inv_start (CX := L2.CX P w) (E := E) S room.hd e0 hl rv icc
  refine wpAny_mono (pt.run [] s1 (start N vs) H _ inv qt) (fun fl s2 z => ?_) (fun e s2 z => z)
  cases fl with
  | next =>
    obtain ⟨_, H2, J, z⟩ := z
    exact ⟨.non, H2, J.os, J.bare, J.base, J.hok, rfl, z⟩
  | ret u =>
    obtain ⟨v, _, H2, J, rv, z⟩ := z
    exact ⟨v, H2, J.os, J.bare, J.base, J.hok, rv, z⟩
  | brk =>
    obtain ⟨_, _, _, z⟩ := z
    exact False.elim z
  | cont =>
    obtain ⟨_, _, _, z⟩ := z
    exact False.elim z
open Classical in
/-- only the one lambda is called -/
noncomputable def onlyT (t : Th) (T : Sto → R D) : Th → Sto → R D := fun t' s => if t' = t then T s else .bad
theorem onlyT_ok {t : Th} {T : Sto → R D} : ∀ t' s', onlyT t T t' s' ≠ .bad → t' = t ∧ onlyT t T t' s' = T s' := fun t' s' h => by
  unfold onlyT at h ⊢
  by_cases e : t' = t
  · exact ⟨e, if_pos e⟩
  · exact absurd (if_neg e) h
theorem onlyT_at {t : Th} {T : Sto → R D} {s : Sto} : onlyT t T t s = T s := if_pos rfl
theorem calleeT_sem {x qual : Str} {params : Arguments} {body : List Stmt} {scope : Scope} {dvs : List V} {kws : List (Str × V)} {f : Addr} {fd : FuncData} {N : List Str} {a : Str} {j : Nat} {ir : (Th → Sto → R D) → IB} {h : (Sto → R D) → Sto → R D} (Fn0 : FunD K x qual params body scope dvs kws f fd) (S : FnScope N [a] scope) (hbi : ∀ x ∈ biNames, mg x = none) (tb : TabsB K base mg) (hl : ∃ o r, K.lookup f = some o ∧ codeO K o = some r)
    (hmg : mg x = some (.ref f)) (hb : Binds K fd [a] []) (hc : ∀ T, chkB N true scope (ir T) body = true) (ha : N[0]? = some a) (nd : ∀ T, ∀ c ∈ needB (ir T), c = .act 0 T ∨ NeedG P w K mg base (j + 1) c) (hex : ∀ (t : Th) (T : Sto → R D) sto, Exit sto (fnSem N (ir (onlyT t T)) sto [.fnv t]) (h T sto)) : CalleeT P w K mg base j x h := by
  refine ⟨f, fd, a, hmg, Fn0.kp, hb, fun A outer s H args t T tl Q E F as sto room gd e0 bnd s5 rp htl hact fin => ?_⟩
  refine run_body (k := j + 1) (us := [.ref t.f]) (vs := [.ref t.f]) Fn0 S room e0 bnd (.cons rfl .nil) rfl fun cdv room2 lk0 => ?_
  have hX : ∀ X : Cx, X = cxOf (L2.CX P w) P w K mg base N qual scope f cdv A outer s H E → ∃ t', PSs X body t' ∧ t' { nx := fun _ H' => Q .non H', rt := Q } (start N [.ref t.f]) H := by
    intro X hX
    let m0 : Md := ⟨X.s_0, X.H_0, X.env, X.outer, X.ex, X.fn, X.pn, X.xe, X.A, X.stack⟩
    have hw : X.wth m0 = X := rfl
    have hxK : X.K = K := by rw [hX] <;> rfl
    have hxm : X.mg = mg := by rw [hX] <;> rfl
    have hlam : LamC X := by
      obtain ⟨o, ⟨c, P', q⟩, h1, h2⟩ := hl
      obtain ⟨o', dd, sl, fd', h3, h4, h5⟩ := lk0
      rw [h1] at h3
      cases h3
      obtain ⟨fd2, e1, e2, e3⟩ := codeO_of h2
      cases e1
      have m1 := codes_mem h1 h2
      have m2 := tabs_of_codes m1
      have e4 : q = qual ++ ".<locals>." ++ "<lambda>" := by rw [← h5]; exact e3
      rw [e4] at m1 m2
      rw [hX]
      refine ⟨c, P', ?_, tb.2.1 _ m1, m2, fun p hp e => tb.1 p hp _ m2 e⟩
      show cdv = _
      rw [← h4]
      exact e2
    have c : CtxM X (fun m => m = m0) (fun cls dd _ H => E cls dd H) N scope (j + 1) true true := by
      rintro m rfl
      rw [hw, hX]
      exact { hsc := rfl, hN := rfl, nd := S.nd, calm := rfl, tk := takes_of rfl rfl rfl rfl, room := room2, gd := guards_deeper gd, fn := fun _ _ => rfl, kind := S.kind, bi := hbi, lam := fun _ => by rw [← hX]; exact hlam, sysb := tb.2.2 }
    have cs : CtxS X (fun m => m = m0) := by
      rintro m rfl
      refine ⟨?_, ?_, ?_, ?_, X.pn, X.xe, rfl⟩
      · show PassesOwn (model X.prog X.w) X.A X.env X.xe
        rw [hX]
        exact passes_of rfl
      · show X.ex = []
        rw [hX] <;> rfl
      · show X.stack = X.env :: X.outer
        rw [hX] <;> rfl
      · show X.env.frame = some X.env.locals
        rw [hX] <;> rfl
    have nds : Needs X (j + 1) (needB (ir (onlyT t T))) := fun q hq => by
      rcases nd _ q hq with e | e
      · rw [e]
        intro a' hN hv hd hcd
        have hNX : X.N = N := by rw [hX] <;> rfl
        have hSX : X.env.scope = scope := by rw [hX] <;> rfl
        rw [hNX] at hN
        rw [hSX] at hv
        exact act_of hX hact htl hN hv hd hcd room2 onlyT_ok
      · exact need_of q (by rw [hX]; exact e)
    obtain ⟨t', pt, ht⟩ := sndB X N (j + 1) true _ _ scope c cs (ir (onlyT t T)) body nds (hc _)
    refine ⟨t', by have := pt m0 rfl; rwa [hw] at this, ht (startE N [.fnv t]) sto (start N [.ref t.f]) F H as _ (by rw [hxK]; exact s5) (by rw [hxK]; exact envR_start (.cons rp .nil)) ?_⟩
    have z := fin_exit s5 (hex t T sto) fin
    rw [hxK, hxm]
    unfold fnSem at z
    cases ho : semB (ir (onlyT t T)) (startE N [.fnv t]) sto with
    | nx ρ s1 =>
      rw [ho] at z
      exact fun σ F' H' as' x1 s1 _ => z F' H' as' x1 s1 .non .non
    | ret d s1 =>
      rw [ho] at z
      exact fun v F' H' as' x1 s1 r => z F' H' as' x1 s1 v r
    | ex e ρ s1 =>
      rw [ho] at z
      exact fun σ F' H' as' cls dd x1 s1 _ er => z F' H' as' cls dd x1 s1 er
    | brk ρ s1 => rw [ho] at z; exact z.elim
    | ct ρ s1 => rw [ho] at z; exact z.elim
    | bad => rw [ho] at z; exact z.elim
  exact hX _ rfl
end
end DV

namespace DV
open PySem PySem.Spec PyProof.Rows L2

/-! ### a def as a function of data -/
open Classical in
/-- lists that the def made and that nothing behind it can reach are forgotten -/
noncomputable def dropJ (sto : Sto) (r : R D) : R D := match r with
  | .ok d s => if Kept sto (s.take sto.length) ∧ bnd (s.take sto.length).length d = true then .ok d (s.take sto.length) else .ok d s
  | .ex x s => if Kept sto (s.take sto.length) ∧ bnds (s.take sto.length).length (x.ds) = true then .ex x (s.take sto.length) else .ex x s
  | .bad => .bad
theorem exit_dropJ (sto : Sto) (r : R D) : Exit sto r (dropJ sto r) := by
  cases r with
  | bad => exact .bad _
  | ok d s =>
    unfold dropJ
    dsimp only
    split
    · rename_i h
      have e : (R.ok d s : R D) = .ok d (s.take sto.length ++ s.drop sto.length) := by rw [List.take_append_drop]
      rw [e]
      simp only [List.take_append_drop]
      have z := Exit.drop (sto := sto) (d := d) (s := s.take sto.length) (s.drop sto.length) h.1 h.2
      rwa [List.take_append_drop] at z
    · exact .same _
  | ex x s =>
    unfold dropJ
    dsimp only
    split
    · rename_i h
      have z := Exit.dropx (sto := sto) (x := x) (s := s.take sto.length) (s.drop sto.length) h.1 h.2
      rwa [List.take_append_drop] at z
    · exact .same _
noncomputable def fnD (N : List Str) (ib : IB) : Fn := fun sto ds => dropJ sto (fnSem N ib sto ds)
theorem dropJ_app {sto s junk : Sto} {d : D} (hl : s.length = sto.length) (k : Kept sto s) (hb : bnd sto.length d = true) : dropJ sto (.ok d (s ++ junk)) = .ok d s := by
  unfold dropJ
  dsimp only
  have e : (s ++ junk).take sto.length = s := by rw [← hl, List.take_left]
  rw [e, if_pos ⟨k, by rw [hl]; exact hb⟩]
def noTh : Th := ⟨0, 0, Str.empty, fun _ => none, []⟩
open Classical in
/-- a def that takes a lambda, as a function of what the lambda does -/
noncomputable def fnT (N : List Str) (ir : (Th → Sto → R D) → IB) : (Sto → R D) → Sto → R D := fun T s =>
  if ∀ t t', dropJ s (fnSem N (ir (onlyT t T)) s [.fnv t]) = dropJ s (fnSem N (ir (onlyT t' T)) s [.fnv t']) then dropJ s (fnSem N (ir (onlyT noTh T)) s [.fnv noTh]) else .bad
theorem fnT_of {N : List Str} {ir : (Th → Sto → R D) → IB} {T : Sto → R D} {s : Sto} {r : R D} (h : ∀ t, dropJ s (fnSem N (ir (onlyT t T)) s [.fnv t]) = r) : fnT N ir T s = r := by
  unfold fnT
  rw [if_pos fun t t' => (h t).trans (h t').symm]
  exact h _
/-- the store is as it was -/
theorem dropJ_same {sto junk : Sto} {d : D} (hb : bnd sto.length d = true) : dropJ sto (.ok d (sto ++ junk)) = .ok d sto := dropJ_app rfl (Kept.refl _) hb
theorem dropJ_id {sto : Sto} {d : D} (hb : bnd sto.length d = true) : dropJ sto (.ok d sto) = .ok d sto := by
  have := dropJ_same (sto := sto) (junk := []) (d := d) hb
  rwa [List.append_nil] at this
/-- one cell has changed -/
theorem dropJ_set {sto junk : Sto} {d : D} {p : Nat} {c : Cell} (hc : bndC sto.length c = true) (hb : bnd sto.length d = true) : dropJ sto (.ok d (sto.set p c ++ junk)) = .ok d (sto.set p c) := by
  refine dropJ_app (List.length_set ..) ⟨Nat.le_of_eq (List.length_set ..).symm, fun n x h => ?_⟩ hb
  by_cases hp : p = n
  · subst hp
    have hl : p < sto.length := by
      have := (List.getElem?_eq_some_iff.mp h).1
      rwa [List.length_set] at this
    rw [List.getElem?_set_self hl] at h
    cases h
    right
    rwa [List.length_set]
  · rw [List.getElem?_set_ne hp] at h
    exact .inl h
theorem dropJ_set0 {sto : Sto} {d : D} {p : Nat} {c : Cell} (hc : bndC sto.length c = true) (hb : bnd sto.length d = true) : dropJ sto (.ok d (sto.set p c)) = .ok d (sto.set p c) := by
  have := dropJ_set (sto := sto) (junk := []) (d := d) (p := p) hc hb
  rwa [List.append_nil] at this
section
variable {P : Program} {w : World} {K : PySem.W.Frag} {mg : Str → Option Value} {base h : Heap} {fa : List He.Fa} {fn : List He.DefD}
theorem FnG.mono' {j k : Nat} {f : Addr} {fd : FuncData} {ps : List Str} {sp : Sp} (G : FnG P w K mg base j f fd ps sp) (h : j ≤ k) : FnG P w K mg base k f fd ps sp := G.mono h
theorem CalleeG.mono {j k : Nat} {f : Str} {n : Nat} {g : Fn} (h : CalleeG P w K mg base j f n g) (hk : j ≤ k) : CalleeG P w K mg base k f n g := by
  obtain ⟨a, fd, ps, h1, h2, h3, h4, h5⟩ := h
  exact ⟨a, fd, ps, h1, h2, h3, h4, h5.mono hk⟩
theorem free_all {rest : List He.Fa} (c : He.SaysD (biNames.map He.Fa.free ++ rest) fn K) (X : K.In h) (G : h.Ns mainGlobals mg) : ∀ x ∈ biNames, mg x = none := fun x hx => by
  have hm : He.Fa.free x ∈ biNames.map He.Fa.free ++ rest := List.mem_append_left _ (List.mem_map_of_mem hx)
  obtain ⟨i, hi, e⟩ := List.mem_iff_getElem.mp hm
  exact He.free_ok X G (c.fact i (by rw [List.getElem?_eq_getElem hi, e]))
theorem CalleeKG.mono {j k : Nat} {f : Str} {ks : List Str} {pm : List Nat} {n : Nat} {g : Fn} (h : CalleeKG P w K mg base j f ks pm n g) (hk : j ≤ k) : CalleeKG P w K mg base k f ks pm n g := by
  obtain ⟨a, fd, ps, h1, h2, h3, h4, h5⟩ := h
  exact ⟨a, fd, ps, h1, h2, h3, h4, h5.mono hk⟩
theorem calleeKD {N ps ks : List Str} {pm : List Nat} {d : He.DefD} {ib : IB} {k n : Nat} {x : Str} {fd : FuncData} (F : FunD K d.name d.qual d.params d.body d.scope [] [] (He.fAd K d.at_) fd) (hg : mg x = some (.ref (He.fAd K d.at_))) (S : FnScope N ps d.scope) (hbi : ∀ x ∈ biNames, mg x = none) (tb : TabsB K base mg) (hl : lamD K d = true)
    (hc : chkB N true d.scope ib d.body = true) (nd : ∀ c ∈ needB ib, NeedG P w K mg base k c)
    (hb : ∀ (kV doc pm' : Value) (an : Option Addr) (cdv ct : Value) (us : List Value), us.length = ks.length → bindArgs (PySem.W.fnOf d.name d.qual d.params d.body d.scope .none kV doc pm' an cdv ct) ⟨[], ks.zip us⟩ = Pure.pure (ps.zip (permL pm us))) (hn : ps.length = n) :
    CalleeKG P w K mg base (k + 1) x ks pm n (fnD N ib) := by
  subst hn
  refine ⟨_, fd, ps, hg, F.kp, ?_, rfl, fnG_sem F S hbi tb (lamD_ok hl) hc nd fun sto ds _ => exit_dropJ sto _⟩
  obtain ⟨oc, od, dV, kV, doc, pm', an, cdv, ct, osl, rfl, lk, hcd, hD, hK⟩ := F.ex
  rcases hD with ⟨_, rfl⟩ | ⟨e, _⟩
  · exact fun s us _ hl => .of_eq (hb kV doc pm' an cdv ct us hl)
  · exact absurd rfl e
/-- a def that the head has told of, as a callee -/
theorem calleeD {N ps : List Str} {d : He.DefD} {ib : IB} {k n : Nat} {x : Str} {fd : FuncData} (F : FunD K d.name d.qual d.params d.body d.scope [] [] (He.fAd K d.at_) fd) (hg : mg x = some (.ref (He.fAd K d.at_))) (S : FnScope N ps d.scope) (hbi : ∀ x ∈ biNames, mg x = none) (tb : TabsB K base mg) (hl : lamD K d = true)
    (hc : chkB N true d.scope ib d.body = true) (nd : ∀ c ∈ needB ib, NeedG P w K mg base k c)
    (hb : ∀ (kV doc pm : Value) (an : Option Addr) (cdv ct : Value) (us : List Value), us.length = ps.length → bindArgs (PySem.W.fnOf d.name d.qual d.params d.body d.scope .none kV doc pm an cdv ct) ⟨us, []⟩ = Pure.pure (ps.zip us)) (hn : ps.length = n) :
    CalleeG P w K mg base (k + 1) x n (fnD N ib) := by
  subst hn
  exact ⟨_, fd, ps, hg, F.kp, F.bindsN hb, rfl, fnG_sem F S hbi tb (lamD_ok hl) hc nd fun sto ds _ => exit_dropJ sto _⟩
/-- .. that takes a lambda -/
theorem exit_fnT {N : List Str} {ir : (Th → Sto → R D) → IB} (t : Th) (T : Sto → R D) (sto : Sto) : Exit sto (fnSem N (ir (onlyT t T)) sto [.fnv t]) (fnT N ir T sto) := by
  unfold fnT
  split
  · rename_i hy
    rw [hy _ t]
    exact exit_dropJ sto _
  · exact .bad _
theorem calleeTD {N : List Str} {a : Str} {d : He.DefD} {ir : (Th → Sto → R D) → IB} {j : Nat} {fd : FuncData} (F : FunD K d.name d.qual d.params d.body d.scope [] [] (He.fAd K d.at_) fd) (hg : mg d.name = some (.ref (He.fAd K d.at_))) (S : FnScope N [a] d.scope) (hbi : ∀ x ∈ biNames, mg x = none) (tb : TabsB K base mg) (hl : lamD K d = true)
    (hc : ∀ T, chkB N true d.scope (ir T) d.body = true) (ha : N[0]? = some a) (nd : ∀ T, ∀ c ∈ needB (ir T), c = .act 0 T ∨ NeedG P w K mg base (j + 1) c)
    (hb : ∀ (kV doc pm : Value) (an : Option Addr) (cdv ct : Value) (us : List Value), us.length = [a].length → bindArgs (PySem.W.fnOf d.name d.qual d.params d.body d.scope .none kV doc pm an cdv ct) ⟨us, []⟩ = Pure.pure ([a].zip us)) :
    CalleeT P w K mg base j d.name (fnT N ir) :=
  calleeT_sem F S hbi tb (lamD_ok hl) hg (F.bindsN hb) hc ha nd fun t T sto => exit_fnT t T sto
end
end DV

namespace DV
open PySem PySem.Spec L2

/-! ### reading the evaluator -/
theorem intsOf_map : ∀ ns : List Int, intsOf (ns.map D.int) = some ns
  | [] => rfl
  | n :: r => by rw [List.map_cons, intsOf, intsOf_map r]; rfl
theorem boolsOf_map : ∀ ns : List Bool, boolsOf (ns.map D.bl) = some ns
  | [] => rfl
  | n :: r => by rw [List.map_cons, boolsOf, boolsOf_map r]; rfl
theorem tupsOf_map : ∀ ts : List (List Int), tupsOf (ts.map ofInts) = some ts
  | [] => rfl
  | t :: r => by
    rw [List.map_cons, ofInts, tupsOf, intsOf_map, tupsOf_map r]
    rfl
theorem bnds_of {m : Nat} : ∀ {ds : List D}, (∀ d ∈ ds, bnd m d = true) → bnds m ds = true
  | [], _ => by rw [bnds]
  | d :: ds, h => by
    rw [bnds, h d (List.mem_cons_self ..), bnds_of fun x hx => h x (List.mem_cons_of_mem _ hx)]
    rfl
theorem bnds_ints {m : Nat} (ns : List Int) : bnds m (ns.map D.int) = true := bnds_of fun d hd => by
  obtain ⟨n, _, rfl⟩ := List.mem_map.mp hd
  rw [bnd]
theorem lcGo_map {el : D → Sto → R (Option D)} {f : D → D} {s : Sto} : ∀ (xs acc : List D), (∀ x ∈ xs, el x s = .ok (some (f x)) s) → lcGo el xs s acc = .ok (acc ++ xs.map f) s
  | [], acc, _ => by rw [lcGo, List.map_nil, List.append_nil]
  | x :: xs, acc, h => by
    rw [lcGo, h x (List.mem_cons_self ..)]
    dsimp only
    rw [lcGo_map xs _ fun y hy => h y (List.mem_cons_of_mem _ hy), List.map_cons, List.append_assoc]
    rfl
theorem lcGo_enc {α : Type} {el : D → Sto → R (Option D)} {e : α → D} {f : α → D} {s : Sto} (xs : List α) (acc : List D) (h : ∀ x ∈ xs, el (e x) s = .ok (some (f x)) s) : lcGo el (xs.map e) s acc = .ok (acc ++ xs.map f) s := by
  induction xs generalizing acc with
  | nil => simp [lcGo]
  | cons x xs ih =>
    rw [List.map_cons, lcGo, h x (List.mem_cons_self ..)]
    dsimp only
    rw [ih _ fun y hy => h y (List.mem_cons_of_mem _ hy)]
    simp
theorem lcGo_filter {α : Type} {el : D → Sto → R (Option D)} {e : α → D} {p : α → Bool} {f : α → D} {s : Sto} (xs : List α) (acc : List D) (h : ∀ x ∈ xs, el (e x) s = .ok (if p x = true then some (f x) else none) s) :
    lcGo el (xs.map e) s acc = .ok (acc ++ (xs.filter p).map f) s := by
  induction xs generalizing acc with
  | nil => simp [lcGo]
  | cons x xs ih =>
    rw [List.map_cons, lcGo, h x (List.mem_cons_self ..)]
    have ih := fun acc => ih acc fun y hy => h y (List.mem_cons_of_mem _ hy)
    cases hp : p x with
    | true => simp [hp, ih]
    | false => simp [hp, ih]
theorem lc2Go_enc {α : Type} {inn : D → Sto → List D → R (List D)} {e : α → D} {f : α → List D} {s : Sto} {B : Nat} (xs : List α) (acc : List D) (h : ∀ x ∈ xs, ∀ acc : List D, acc.length + (f x).length ≤ B → inn (e x) s acc = .ok (acc ++ f x) s)
    (hB : acc.length + (xs.flatMap f).length ≤ B) : lc2Go inn (xs.map e) s acc = .ok (acc ++ xs.flatMap f) s := by
  induction xs generalizing acc with
  | nil => simp [lc2Go]
  | cons x xs ih =>
    rw [List.flatMap_cons, List.length_append] at hB
    rw [List.map_cons, lc2Go, h x (List.mem_cons_self ..) acc (by omega)]
    dsimp only
    rw [ih _ (fun y hy => h y (List.mem_cons_of_mem _ hy)) (by rw [List.length_append]; omega), List.flatMap_cons, List.append_assoc]
theorem eqD_int (s : Sto) (i j : Int) : eqD s (.int i) (.int j) = some (decide (i = j)) := by
  have e : (i == j) = decide (i = j) := by by_cases h : i = j <;> simp [h]
  simp [eqD, res, pure, toPy, SeqAt.shaped, PyData.eqv, PyData.canLay0, PyData.depth, e]
theorem isNon_non : isNon .non = true := rfl
theorem ixN_nat {n i : Nat} (h : i < n) : ixN n (i : Int) = some i := by
  unfold ixN
  simp [h]
theorem atI_nat {α : Type} {xs : List α} {i : Nat} (h : i < xs.length) : atI xs (i : Int) = some xs[i] := by
  unfold atI
  rw [ixN_nat h, Option.bind_some, List.getElem?_eq_getElem h]
theorem atI_of {α : Type} {xs : List α} {i : Int} {x : α} (h0 : 0 ≤ i) (h : xs[i.toNat]? = some x) : atI xs i = some x := by
  have hl := (List.getElem?_eq_some_iff.mp h).1
  obtain ⟨k, rfl⟩ := Int.eq_ofNat_of_zero_le h0
  rw [Int.toNat_natCast] at h hl
  rw [atI_nat hl]
  exact (List.getElem?_eq_some_iff.mp h).2 ▸ rfl

theorem eqD_str {s : Sto} {x y : Str} (hx : PyData.strOk x = true) (hy : PyData.strOk y = true) : eqD s (.str x) (.str y) = some (decide (x = y)) := by
  have e : (x == y) = decide (x = y) := by by_cases h : x = y <;> simp [h]
  simp [eqD, res, pure, toPy, SeqAt.shaped, PyData.eqv, PyData.canLay0, PyData.depth, e, hx, hy]
/-! ### texts -/
theorem strOk_app {x y : Str} (hx : PyData.strOk x = true) (hy : PyData.strOk y = true) : PyData.strOk (x ++ y) = true := by
  unfold PyData.strOk at *
  show (x.cps ++ y.cps).all _ = true
  rw [Array.all_append, hx, hy]
  rfl
theorem strOk_lit (t : String) : PyData.strOk (Str.ofString t) = true := by
  unfold PyData.strOk
  rw [Str.ofString_eq_toList]
  simp only [List.all_toArray, List.all_map, List.all_eq_true, Function.comp_apply, decide_eq_true_eq]
  intro c _
  have := c.valid
  unfold Char.toNat
  rcases this with h | ⟨_, h⟩
  · have : c.val.toNat < 0xd800 := h
    omega
  · exact h
theorem strOk_textFrom : ∀ (ts : List Str) (k : Nat) (acc : Str), PyData.strOk acc = true → (∀ t ∈ ts, PyData.strOk t = true) → PyData.strOk (textFrom k acc ts) = true
  | [], k, acc, h, _ => h
  | t :: ts, k, acc, h, h2 => by
    refine strOk_textFrom ts (k + 1) _ (strOk_app (strOk_app h ?_) (h2 t (List.mem_cons_self ..))) fun u hu => h2 u (List.mem_cons_of_mem _ hu)
    exact strOk_lit _
theorem strOk_join {sep : Str} (hs : PyData.strOk sep = true) : ∀ (ts : List Str), (∀ t ∈ ts, PyData.strOk t = true) → PyData.strOk (Str.join sep ts) = true
  | [], _ => (by decide +kernel : PyData.strOk Str.empty = true)
  | [t], h => h t (List.mem_singleton_self _)
  | t :: u :: r, h => by
    show PyData.strOk (t ++ sep ++ Str.join sep (u :: r)) = true
    exact strOk_app (strOk_app (h t (List.mem_cons_self ..)) hs) (strOk_join hs (u :: r) fun v hv => h v (List.mem_cons_of_mem _ hv))
mutual
/-- data whose text is told: short ints, known texts -/
def tellable : D → Bool
  | .non => true
  | .bl _ => true
  | .int i => decide (i.natAbs.log2 < 300)
  | .str x => decide (x.cps.size ≤ 300) && (PyData.strOk x && PyData.strOk (PyData.shown (.str x)))
  | .lst xs => tellables xs
  | .tup xs => tellables xs
  | .obj _ => false
  | .scr _ => false
  | .exc _ _ _ => false
  | .fnv _ => false
  | .dic [] [] => true
  | .dic _ _ => false
def tellables : List D → Bool
  | [] => true
  | d :: ds => tellable d && tellables ds
end
mutual
def nodes : D → Nat
  | .lst xs => nodess xs + 1
  | .tup xs => nodess xs + 1
  | .non => 1
  | .bl _ => 1
  | .int _ => 1
  | .str _ => 1
  | .obj _ => 1
  | .scr _ => 1
  | .exc _ _ _ => 1
  | .fnv _ => 1
  | .dic _ _ => 1
def nodess : List D → Nat
  | [] => 0
  | d :: ds => nodes d + nodess ds
end
mutual
def deep : D → Nat
  | .lst xs => deeps xs + 1
  | .tup xs => deeps xs + 1
  | .non => 0
  | .bl _ => 0
  | .int _ => 0
  | .str _ => 0
  | .obj _ => 0
  | .scr _ => 0
  | .exc _ _ _ => 0
  | .fnv _ => 0
  | .dic _ _ => 1
def deeps : List D → Nat
  | [] => 0
  | d :: ds => max (deep d) (deeps ds)
end
mutual
theorem tell_all : ∀ d : D, tellable d = true → pureR d = true ∧ (toPy d).showable = true ∧ (toPy d).leavesShort 302 = true ∧ (toPy d).weight + 1 ≤ 302 * nodes d ∧ (toPy d).depth = deep d ∧ PyData.strOk (toPy d).shown = true
  | .non, _ => ⟨rfl, rfl, rfl, by decide, rfl, strOk_lit _⟩
  | .bl b, _ => by
    refine ⟨rfl, rfl, rfl, by simp [toPy, PyData.weight, nodes], rfl, ?_⟩
    cases b <;> exact strOk_lit _
  | .int i, h => by
    rw [tellable] at h
    have h := dc h
    have hl := int_text_length_le (a := i) (k := 300) (by decide) h
    refine ⟨rfl, ?_, ?_, ?_, rfl, strOk_lit _⟩
    · simp only [toPy, PyData.showable]
      exact decide_eq_true (by omega)
    · simp only [toPy, PyData.leavesShort]
      refine decide_eq_true ?_
      have e : (PyData.shown (.int i)).length = (toString i).length := by
        show (Str.ofString (toString i)).length = _
        rw [Str.ofString_eq_toList]
        simp [Str.length, String.length]
      omega
    · simp only [toPy, PyData.weight, nodes]
      split <;> omega
  | .str x, h => by
    rw [tellable] at h
    obtain ⟨h1, h2⟩ := an h
    obtain ⟨h2, h3⟩ := an h2
    have h1 := dc h1
    refine ⟨rfl, rfl, ?_, ?_, rfl, h3⟩
    · simp only [toPy, PyData.leavesShort, List.all_eq_true, decide_eq_true_eq]
      intro c hc
      unfold PyData.strOk at h2
      rw [Array.all_eq_true_iff_forall_mem] at h2
      have := dc (h2 c (Array.mem_toList_iff.mp hc))
      omega
    · simp only [toPy, PyData.weight, nodes]
      omega
  | .lst xs, h => by
    rw [tellable] at h
    obtain ⟨a, b, c, e, f, g⟩ := tell_alls xs h
    refine ⟨by rw [pureR]; exact a, by rw [toPy, PyData.showable]; exact b, by rw [toPy, PyData.leavesShort]; exact c, ?_, ?_, ?_⟩
    · rw [toPy, PyData.weight, nodes]
      omega
    · rw [toPy, PyData.depth, deep, f]
    · rw [toPy, PyData.shown]
      exact strOk_app (strOk_textFrom _ _ _ (strOk_lit _) g) (strOk_lit _)
  | .tup xs, h => by
    rw [tellable] at h
    obtain ⟨a, b, c, e, f, g⟩ := tell_alls xs h
    refine ⟨by rw [pureR]; exact a, by rw [toPy, PyData.showable]; exact b, by rw [toPy, PyData.leavesShort]; exact c, ?_, ?_, ?_⟩
    · rw [toPy, PyData.weight, nodes]
      omega
    · rw [toPy, PyData.depth, deep, f]
    · rw [toPy, PyData.shown]
      refine strOk_app (strOk_app (strOk_lit _) (strOk_join (strOk_lit _) _ g)) ?_
      exact strOk_lit _
  | .obj _, h => by rw [tellable] at h; cases h
  | .scr _, h => by rw [tellable] at h; cases h
  | .exc _ _ _, h => by rw [tellable] at h; cases h
  | .fnv _, h => by rw [tellable] at h; cases h
  | .dic [] [], _ => ⟨rfl, by decide +kernel, by decide +kernel, by decide +kernel, by decide +kernel, by decide +kernel⟩
  | .dic (_ :: _) _, h => by rw [tellable] at h; cases h; all_goals (intro z; cases z)
  | .dic [] (_ :: _), h => by rw [tellable] at h; cases h; all_goals (intro _ z; cases z)
theorem tell_alls : ∀ ds : List D, tellables ds = true → pureRs ds = true ∧ PyData.showableAll (toPyAll ds) = true ∧ PyData.leavesShortAll 302 (toPyAll ds) = true ∧ PyData.weightAll (toPyAll ds) ≤ 302 * nodess ds ∧ PyData.depthAll (toPyAll ds) = deeps ds ∧ ∀ t ∈ PyData.shownAll (toPyAll ds), PyData.strOk t = true
  | [], _ => ⟨rfl, rfl, rfl, by simp [toPyAll, PyData.weightAll], rfl, fun t ht => by simp [toPyAll, PyData.shownAll] at ht⟩
  | d :: ds, h => by
    rw [tellables] at h
    obtain ⟨h1, h2⟩ := an h
    obtain ⟨a, b, c, e, f, g⟩ := tell_all d h1
    obtain ⟨a2, b2, c2, e2, f2, g2⟩ := tell_alls ds h2
    refine ⟨by rw [pureRs, a, a2]; rfl, by rw [toPyAll, PyData.showableAll, b, b2]; rfl, by rw [toPyAll, PyData.leavesShortAll, c, c2]; rfl, ?_, ?_, fun t ht => ?_⟩
    · rw [toPyAll, PyData.weightAll, nodess]
      omega
    · rw [toPyAll, PyData.depthAll, deeps, f, f2]
    · rw [toPyAll, PyData.shownAll] at ht
      rcases List.mem_cons.mp ht with rfl | ht
      · exact g
      · exact g2 t ht
end
/-- repr of such data -/
theorem repr_tell {s : Sto} {d : D} (h : tellable d = true) (hn : nodes d ≤ 180) (hd : deep d ≤ 64) (hr : res s d = d := by rfl) : biRepr [d] s = .ok (.str (toPy d).shown) s := by
  obtain ⟨a, b, c, e, f, g⟩ := tell_all d h
  have hl : (toPy d).shown.length ≤ sizeLine := by
    have := PyData.shown_le 302 (by decide) (toPy d) c
    have : sizeLine = 16777216 := rfl
    omega
  unfold biRepr
  dsimp only
  rw [hr, if_pos]
  unfold reprOk
  rw [a, b, f]
  simp [hl, hd]
theorem shown_ok {d : D} (h : tellable d = true) : PyData.strOk (toPy d).shown = true := (tell_all d h).2.2.2.2.2

/-! ### steps -/
section
variable {ρ ρ' : Env} {s : Sto} {d : D} {x : Ex} {k : Env → Sto → Out}
theorem thn_nx : (Out.nx ρ s).thn k = k ρ s := rfl
theorem thn_ret : (Out.ret d s).thn k = .ret d s := rfl
theorem thn_brk : (Out.brk ρ s).thn k = .brk ρ s := rfl
theorem thn_ct : (Out.ct ρ s).thn k = .ct ρ s := rfl
theorem thn_ex : (Out.ex x ρ s).thn k = .ex x ρ s := rfl
theorem thn_bad : Out.bad.thn k = .bad := rfl
theorem val_nx : (Out.nx ρ s).val = .ok .non s := rfl
theorem val_ret : (Out.ret d s).val = .ok d s := rfl
theorem val_ex : (Out.ex x ρ s).val = .ex x s := rfl
theorem isi_ii {i : Int} : isiSem (.int i) "int" s = .ok (.bl true) s := by simp only [isiSem, res, typD, Option.bind_some, show kitB "int" "int" = some true from by decide +kernel]
theorem isi_ib {i : Int} : isiSem (.int i) "bool" s = .ok (.bl false) s := by simp only [isiSem, res, typD, Option.bind_some, show kitB "int" "bool" = some false from by decide +kernel]
theorem isi_il {i : Int} : isiSem (.int i) "list" s = .ok (.bl false) s := by simp only [isiSem, res, typD, Option.bind_some, show kitB "int" "list" = some false from by decide +kernel]
theorem isi_it {i : Int} : isiSem (.int i) "tuple" s = .ok (.bl false) s := by simp only [isiSem, res, typD, Option.bind_some, show kitB "int" "tuple" = some false from by decide +kernel]
theorem isi_ll {xs : List D} : isiSem (.lst xs) "list" s = .ok (.bl true) s := by simp only [isiSem, res, typD, Option.bind_some, show kitB "list" "list" = some true from by decide +kernel]
theorem isi_li {xs : List D} : isiSem (.lst xs) "int" s = .ok (.bl false) s := by simp only [isiSem, res, typD, Option.bind_some, show kitB "list" "int" = some false from by decide +kernel]
theorem isi_lt {xs : List D} : isiSem (.lst xs) "tuple" s = .ok (.bl false) s := by simp only [isiSem, res, typD, Option.bind_some, show kitB "list" "tuple" = some false from by decide +kernel]
theorem isi_tt {xs : List D} : isiSem (.tup xs) "tuple" s = .ok (.bl true) s := by simp only [isiSem, res, typD, Option.bind_some, show kitB "tuple" "tuple" = some true from by decide +kernel]
theorem isi_tl {xs : List D} : isiSem (.tup xs) "list" s = .ok (.bl false) s := by simp only [isiSem, res, typD, Option.bind_some, show kitB "tuple" "list" = some false from by decide +kernel]
theorem isi_ti {xs : List D} : isiSem (.tup xs) "int" s = .ok (.bl false) s := by simp only [isiSem, res, typD, Option.bind_some, show kitB "tuple" "int" = some false from by decide +kernel]
theorem fnD_of {N : List Str} {ib : IB} {ds : List D} (h : fnSem N ib s ds = .ok d s) (hb : bnd s.length d = true) : fnD N ib s ds = .ok d s := by
  rw [fnD, h]
  exact dropJ_id hb
theorem fnD_app {N : List Str} {ib : IB} {ds : List D} {junk : Sto} (h : fnSem N ib s ds = .ok d (s ++ junk)) (hb : bnd s.length d = true) : fnD N ib s ds = .ok d s := by
  rw [fnD, h]
  exact dropJ_same hb
theorem fnD_set {N : List Str} {ib : IB} {ds : List D} {junk : Sto} {p : Nat} {c : Cell} (h : fnSem N ib s ds = .ok d (s.set p c ++ junk)) (hc : bndC s.length c = true) (hb : bnd s.length d = true) : fnD N ib s ds = .ok d (s.set p c) := by
  rw [fnD, h]
  exact dropJ_set hc hb
theorem fnD_set0 {N : List Str} {ib : IB} {ds : List D} {p : Nat} {c : Cell} (h : fnSem N ib s ds = .ok d (s.set p c)) (hc : bndC s.length c = true) (hb : bnd s.length d = true) : fnD N ib s ds = .ok d (s.set p c) := by
  rw [fnD, h]
  exact dropJ_set0 hc hb
end

/-! ### unfolding, one form at a time -/
section
variable {ρ : Env} {s : Sto}
theorem b_nil : semB .nil ρ s = .nx ρ s := by rw [semB]
theorem b_cons {st : IS} {b : IB} : semB (.cons st b) ρ s = (semS st ρ s).thn (semB b) := by rw [semB]
theorem b_ifs {t : IT} {a c b : IB} : semB (.ifs t a c b) ρ s = ((semT t ρ s).out ρ fun k s1 => if k = true then semB a ρ s1 else semB c ρ s1).thn (semB b) := by rw [semB]
theorem b_for {tg : Tg} {it : II} {a b : IB} : semB (.for_ tg it a b) ρ s = ((semI it ρ s).out ρ fun xs s1 => forGo (forBd tg a) xs ρ s1).thn (semB b) := by
  rw [semB] <;> rfl
theorem b_while {n : Nat} {t : IT} {a b : IB} : semB (.while_ n t a b) ρ s = (whileGo (semT t) (semB a) n ρ s).thn (semB b) := by rw [semB]
theorem forBd_at {tg : Tg} {a : IB} {x : D} : forBd tg a x ρ s = match tgSem tg x ρ with
  | some ρ2 => semB a ρ2 s
  | none => .bad := rfl
def lcBd (own : List (Str × Nat)) (tg : Tg) (c : IC) (e : IE) (ρ : Env) : D → Sto → R (Option D) := fun x s2 => match tgSem tg x (wipeE ρ (own.map (·.2))) with
  | some ρ1 => (semC c ρ1 s2).bind fun k s3 => if k = true then (semE e ρ1 s3).bind fun d s4 => .ok (some d) s4 else .ok none s3
  | none => .bad
theorem e_lc {m : Bool} {own : List (Str × Nat)} {tg : Tg} {it : II} {c : IC} {e : IE} : semE (.lc m own tg it c e) ρ s = (semI it ρ s).bind fun xs s1 => if xs.length ≤ sizeLine then (lcGo (lcBd own tg c e ρ) xs s1 []).bind fun ds s2 => newL m ds s2 else .bad := by
  rw [semE] <;> rfl
def lc2Bd (own : List (Str × Nat)) (vs1 : List Nat) (tg : Tg) (tg1 : Tg) (it1 : II) (e : IE) (ρ : Env) : D → Sto → List D → R (List D) := fun x s2 acc => match tgSem tg x (wipeE ρ (own.map (·.2))) with
  | some ρ1 => (semI it1 ρ1 s2).bind fun ys s3 => if acc.length + ys.length ≤ sizeLine then lcGo (fun y s4 => match tgSem tg1 y (wipeE ρ1 vs1) with
      | some ρ2 => (semE e ρ2 s4).bind fun d s5 => .ok (some d) s5
      | none => .bad) ys s3 acc else .bad
  | none => .bad
theorem e_lc2 {m : Bool} {own : List (Str × Nat)} {vs1 : List Nat} {tg tg1 : Tg} {it it1 : II} {e : IE} : semE (.lc2 m own vs1 tg it tg1 it1 e) ρ s = (semI it ρ s).bind fun xs s1 => (lc2Go (lc2Bd own vs1 tg tg1 it1 e ρ) xs s1 []).bind fun ds s2 => newL m ds s2 := by
  rw [semE] <;> rfl
theorem e_var {i : Nat} : semE (.var i) ρ s = match ρ[i]? with
  | some (some d) => .ok d s
  | _ => .bad := by rw [semE] <;> rfl
theorem e_int {i : Int} : semE (.int i) ρ s = .ok (.int i) s := by rw [semE]
theorem e_bl {i : Bool} : semE (.bl i) ρ s = .ok (.bl i) s := by rw [semE]
theorem e_non : semE .non ρ s = .ok .non s := by rw [semE]
theorem e_str {i : Str} : semE (.str i) ρ s = .ok (.str i) s := by rw [semE]
theorem e_glob {x : Str} {i : Int} : semE (.glob x i) ρ s = .ok (.int i) s := by rw [semE]
theorem e_bin {o : Operator} {m : Bool} {a b : IE} : semE (.bin o m a b) ρ s = (semE a ρ s).bind fun x s1 => (semE b ρ s1).bind fun y s2 => binSem o m x y s2 := by rw [semE]
theorem e_neg {a : IE} : semE (.neg a) ρ s = (semE a ρ s).bind fun x s1 => match x with
  | .int i => .ok (.int (-i)) s1
  | _ => .bad := by rw [semE] <;> rfl
theorem e_tst {t : IT} : semE (.tst t) ρ s = (semT t ρ s).bind fun b s1 => .ok (.bl b) s1 := by rw [semE]
theorem e_ife {t : IT} {a b : IE} : semE (.ife t a b) ρ s = (semT t ρ s).bind fun k s1 => if k = true then semE a ρ s1 else semE b ρ s1 := by rw [semE]
theorem e_tup {es : IEs} : semE (.tup es) ρ s = (semEs es ρ s).bind fun ds s1 => if ds.length ≤ sizeLine then .ok (.tup ds) s1 else .bad := by rw [semE]
theorem e_lst {m : Bool} {es : IEs} : semE (.lst m es) ρ s = (semEs es ρ s).bind fun ds s1 => if ds.length ≤ sizeLine then newL m ds s1 else .bad := by rw [semE]
theorem e_ix {a i : IE} : semE (.ix a i) ρ s = (semE a ρ s).bind fun x s1 => (semE i ρ s1).bind fun k s2 => ixSem x k s2 := by rw [semE]
theorem e_slc {m : Bool} {a : IE} {lo hi : IO} : semE (.slc m a lo hi) ρ s = (semE a ρ s).bind fun x s1 => (semO lo ρ s1).bind fun l s2 => (semO hi ρ s2).bind fun h s3 => slcSem m x l h s3 := by rw [semE]
theorem e_rev {m : Bool} {a : IE} : semE (.rev m a) ρ s = (semE a ρ s).bind fun x s1 => revSem m x s1 := by rw [semE]
theorem e_call {f : Str} {n : Nat} {g : Fn} {es : IEs} : semE (.call f n g es) ρ s = (semEs es ρ s).bind fun ds s1 => if ds.length = n then g s1 ds else .bad := by rw [semE]
theorem e_callK {f : Str} {ks : List Str} {pm : List Nat} {n : Nat} {g : Fn} {es : IEs} : semE (.callK f ks pm n g es) ρ s = (semEs es ρ s).bind fun ds s1 => if ds.length = ks.length ∧ (permL pm ds).length = n then g s1 (permL pm ds) else .bad := by rw [semE]
theorem e_bi {b : Bi} {m : Bool} {es : IEs} : semE (.bi b m es) ρ s = (semEs es ρ s).bind fun ds s1 => biSem b m ds s1 := by rw [semE]
theorem e_isi {a : IE} {ty : String} : semE (.isi a ty) ρ s = (semE a ρ s).bind fun x s1 => isiSem x ty s1 := by rw [semE]
theorem e_meth {mt : Me} {o : IE} {es : IEs} : semE (.meth mt o es) ρ s = (semE o ρ s).bind fun x s1 => if (lstOf s1 x).isSome = true then (semEs es ρ s1).bind fun ds s2 => meSem mt x ds s2 else .bad := by rw [semE]
theorem e_fz {e : IE} : semE (.fz e) ρ s = (semE e ρ s).bind fun x s1 => fzSem x s1 := by rw [semE]
theorem e_sortK {m : Bool} {a : IE} {c : Nat} : semE (.sortK m a c) ρ s = (semE a ρ s).bind fun x s1 => sortKSem m c x s1 := by rw [semE]
theorem e_isx {a : IE} {y : Str} {tbl : List (Str × Bool)} : semE (.isx a y tbl) ρ s = (semE a ρ s).bind fun x s1 => isxSem tbl x s1 := by rw [semE]
theorem e_isb {a : IE} {y : String} {tbl : List (Str × Bool)} : semE (.isb a y tbl) ρ s = (semE a ρ s).bind fun x s1 => isxSem tbl x s1 := by rw [semE]
theorem e_fld {a : IE} {f : Str} {cs : List Str} : semE (.fld a f cs) ρ s = (semE a ρ s).bind fun x s1 => fldSem f cs x s1 := by rw [semE]
theorem e_callT {f : Str} {h : (Sto → R D) → Sto → R D} {b : IE} : semE (.callT f h b) ρ s = h (fun s1 => semE b ρ s1) s := by rw [semE]
theorem e_emp : semE .emp ρ s = .ok (.dic [] []) s := by rw [semE]
theorem b_try {pi : Nat} {T : Th → Sto → R D} {z : Option Nat} {x : Str} {tbl : List (Str × Bool)} {i j : Nat} {b : IB} : semB (.tryA pi T z x tbl i j b) ρ s = (catchO tbl i j ((actSem pi T ρ s).out ρ fun d s1 => actOut z d ρ s1)).thn (semB b) := by rw [semB]
theorem e_fzl {e : IE} : semE (.fzl e) ρ s = (semE e ρ s).bind fun x s1 => fzlSem x s1 := by rw [semE]
theorem e_lc_ {m : Bool} {own : List (Str × Nat)} {tg : Tg} {it : II} {c : IC} {e : IE} {i : Nat} : semS (.setLc i m own tg it c e) ρ s = (semE (.lc m own tg it c e) ρ s).out ρ fun d s1 => .nx (ρ.set i (some d)) s1 := by rw [semS]
end
/-- what a walk does, by a walk of one's own -/
theorem forGo_rec {α β : Type} {bd : D → Env → Sto → Out} {e : α → D} (I : β → Env → Sto → Prop) (Q : List α → β → Out → Prop) (h0 : ∀ b ρ s, I b ρ s → Q [] b (.nx ρ s))
    (hs : ∀ x xs b ρ s, I b ρ s → (∃ ρ' s' b', (bd (e x) ρ s = .nx ρ' s' ∨ bd (e x) ρ s = .ct ρ' s') ∧ I b' ρ' s' ∧ ∀ o, Q xs b' o → Q (x :: xs) b o) ∨ (∃ d s', bd (e x) ρ s = .ret d s' ∧ Q (x :: xs) b (.ret d s')) ∨ ∃ ρ' s', bd (e x) ρ s = .brk ρ' s' ∧ Q (x :: xs) b (.nx ρ' s')) :
    ∀ (l : List α) (b : β) (ρ : Env) (s : Sto), I b ρ s → Q l b (forGo bd (l.map e) ρ s)
  | [], b, ρ, s, h => by
    rw [List.map_nil, forGo]
    exact h0 b ρ s h
  | x :: xs, b, ρ, s, h => by
    rw [List.map_cons, forGo_cons]
    rcases hs x xs b ρ s h with ⟨ρ', s', b', h1, h2, h3⟩ | ⟨d, s', h1, h2⟩ | ⟨ρ', s', h1, h2⟩
    · refine h3 _ ?_
      rcases h1 with h1 | h1 <;> (rw [h1]; exact forGo_rec I Q h0 hs xs b' ρ' s' h2)
    · rw [h1]
      exact h2
    · rw [h1]
      exact h2
/-- .. where it goes on to its end -/
theorem forGo_fold {α β : Type} {bd : D → Env → Sto → Out} {e : α → D} (I : β → Env → Sto → Prop) (f : β → α → β) (l : List α)
    (hs : ∀ x ∈ l, ∀ b ρ s, I b ρ s → ∃ ρ' s', (bd (e x) ρ s = .nx ρ' s' ∨ bd (e x) ρ s = .ct ρ' s') ∧ I (f b x) ρ' s') (b : β) (ρ : Env) (s : Sto) (h : I b ρ s) :
    ∃ ρ' s', forGo bd (l.map e) ρ s = .nx ρ' s' ∧ I (l.foldl f b) ρ' s' := by
  induction l generalizing b ρ s with
  | nil => exact ⟨ρ, s, by rw [List.map_nil, forGo], h⟩
  | cons x xs ih =>
    obtain ⟨ρ1, s1, h1, h2⟩ := hs x (List.mem_cons_self ..) b ρ s h
    obtain ⟨ρ2, s2, h3, h4⟩ := ih (fun y hy => hs y (List.mem_cons_of_mem _ hy)) _ _ _ h2
    refine ⟨ρ2, s2, ?_, h4⟩
    rw [List.map_cons, forGo_cons]
    rcases h1 with h1 | h1 <;> (rw [h1]; exact h3)

theorem fold_k {α β : Type} {bd : D → Env → Sto → Out} {e : α → D} (P : Out → Prop) (I : β → Env → Sto → Prop) (f : β → α → β) {l : List α} (b : β) {ρ : Env} {s : Sto} (h : I b ρ s)
    (hs : ∀ x ∈ l, ∀ b ρ s, I b ρ s → ∃ ρ' s', (bd (e x) ρ s = .nx ρ' s' ∨ bd (e x) ρ s = .ct ρ' s') ∧ I (f b x) ρ' s') (hk : ∀ ρ' s', I (l.foldl f b) ρ' s' → P (.nx ρ' s')) : P (forGo bd (l.map e) ρ s) := by
  obtain ⟨ρ', s', h1, h2⟩ := forGo_fold I f l hs b ρ s h
  rw [h1]
  exact hk ρ' s' h2

/-- .. by what is true behind each beginning -/
theorem pre_go {α : Type} {bd : D → Env → Sto → Out} {e : α → D} (I : List α → Env → Sto → Prop) {l : List α}
    (hs : ∀ pre x post, l = pre ++ x :: post → ∀ ρ s, I pre ρ s → ∃ ρ' s', (bd (e x) ρ s = .nx ρ' s' ∨ bd (e x) ρ s = .ct ρ' s') ∧ I (pre ++ [x]) ρ' s') :
    ∀ (post pre : List α) (ρ : Env) (s : Sto), l = pre ++ post → I pre ρ s → ∃ ρ' s', forGo bd (post.map e) ρ s = .nx ρ' s' ∧ I l ρ' s'
  | [], pre, ρ, s, hl, h => ⟨ρ, s, by rw [List.map_nil, forGo], by rw [hl, List.append_nil]; exact h⟩
  | x :: xs, pre, ρ, s, hl, h => by
    obtain ⟨ρ1, s1, h1, h2⟩ := hs pre x xs hl ρ s h
    obtain ⟨ρ2, s2, h3, h4⟩ := pre_go I hs xs (pre ++ [x]) ρ1 s1 (by rw [hl, List.append_assoc]; rfl) h2
    refine ⟨ρ2, s2, ?_, h4⟩
    rw [List.map_cons, forGo_cons]
    rcases h1 with h1 | h1 <;> (rw [h1]; exact h3)
theorem pre_k {α : Type} {bd : D → Env → Sto → Out} {e : α → D} (P : Out → Prop) (I : List α → Env → Sto → Prop) {l : List α} {ρ : Env} {s : Sto} (h : I [] ρ s)
    (hs : ∀ pre x post, l = pre ++ x :: post → ∀ ρ s, I pre ρ s → ∃ ρ' s', (bd (e x) ρ s = .nx ρ' s' ∨ bd (e x) ρ s = .ct ρ' s') ∧ I (pre ++ [x]) ρ' s') (hk : ∀ ρ' s', I l ρ' s' → P (.nx ρ' s')) : P (forGo bd (l.map e) ρ s) := by
  obtain ⟨ρ', s', h1, h2⟩ := pre_go I hs l [] ρ s rfl h
  rw [h1]
  exact hk ρ' s' h2
theorem mulW_of {i j : Int} {a b : Nat} (h1 : i.natAbs < 2 ^ a) (h2 : j.natAbs < 2 ^ b) (h : a + b < 1000000) : CMulW i j := by
  have l1 : i.natAbs.log2 ≤ a := by
    by_cases hz : i.natAbs = 0
    · rw [hz]; exact Nat.zero_le _
    · exact Nat.le_of_lt ((Nat.log2_lt hz).mpr h1)
  have l2 : j.natAbs.log2 ≤ b := by
    by_cases hz : j.natAbs = 0
    · rw [hz]; exact Nat.zero_le _
    · exact Nat.le_of_lt ((Nat.log2_lt hz).mpr h2)
  show _ < _
  omega
theorem natAbs_mul_lt {i j : Int} {a b : Nat} (h1 : i.natAbs < 2 ^ a) (h2 : j.natAbs < 2 ^ b) : (i * j).natAbs < 2 ^ (a + b) := by
  rw [Int.natAbs_mul, Nat.pow_add]
  exact Nat.mul_lt_mul'' h1 h2
theorem sl2 : 2 ≤ sizeLine := by decide
theorem sl3 : 3 ≤ sizeLine := by decide
theorem sl4 : 4 ≤ sizeLine := by decide
theorem sl5 : 5 ≤ sizeLine := by decide
theorem sl6 : 6 ≤ sizeLine := by decide
theorem sl7 : 7 ≤ sizeLine := by decide
theorem sl8 : 8 ≤ sizeLine := by decide
theorem sl9 : 9 ≤ sizeLine := by decide
theorem sl10 : 10 ≤ sizeLine := by decide
theorem sl11 : 11 ≤ sizeLine := by decide
theorem sl12 : 12 ≤ sizeLine := by decide
theorem sl13 : 13 ≤ sizeLine := by decide
theorem sl14 : 14 ≤ sizeLine := by decide
theorem sl0 : 0 ≤ sizeLine := by decide
theorem sl1 : 1 ≤ sizeLine := by decide
theorem at0 {α : Type} {x : α} {xs : List α} : atI (x :: xs) 0 = some x := by
  have := atI_nat (xs := x :: xs) (i := 0) (by simp)
  simpa using this
theorem at1 {α : Type} {x y : α} {xs : List α} : atI (x :: y :: xs) 1 = some y := by
  have := atI_nat (xs := x :: y :: xs) (i := 1) (by simp)
  simpa using this
theorem at2 {α : Type} {x y z : α} {xs : List α} : atI (x :: y :: z :: xs) 2 = some z := by
  have := atI_nat (xs := x :: y :: z :: xs) (i := 2) (by simp)
  simpa using this
theorem ix30 : ixN 3 0 = some 0 := rfl
theorem ix31 : ixN 3 1 = some 1 := rfl
theorem ix32 : ixN 3 2 = some 2 := rfl
theorem at_ints {ns : List Int} {k : Int} (h0 : 0 ≤ k) (h1 : k < ns.length) : ∃ x, atI (ns.map D.int) k = some (.int x) := by
  obtain ⟨i, rfl⟩ := Int.eq_ofNat_of_zero_le h0
  have hi : i < (ns.map D.int).length := by rw [List.length_map]; omega
  exact ⟨_, by rw [atI_nat hi, List.getElem_map]⟩
theorem divW_of {i j : Int} (h : 0 < j) (h2 : j.natAbs < 2 ^ 8000) : CDivW i j := by
  refine ⟨h, ?_⟩
  have hz : j.natAbs ≠ 0 := by omega
  have := (Nat.log2_lt hz).mpr h2
  omega
theorem rangeD0 (n : Nat) : rangeD 0 n = (List.range n).map fun i : Nat => D.int i := by simp [rangeD]
end DV

/-! ### the text, as terms (printed by gen.py) -/
namespace PF
open PySem PySem.Spec PyProof.Rows L2 DV
noncomputable section
def N_modes_of : List Str := ["axes", "axis", "mode"]
def ir_modes_of : IB :=
  (.cons (.ret (.lc2 false [("axis", 1), ("mode", 2)] [2] (.name 1) (.seq (.var 0)) (.name 2) (.seq (.var 1)) (.var 2)))
  .nil)
def f_modes_of : Fn := fnD N_modes_of ir_modes_of
def N_is_integer : List Str := ["thing", "least", "most"]
def ir_is_integer : IB :=
  (.cons (.ret (.tst (.and (.cons (.val (.isi (.var 0) "int")) (.cons (.not (.val (.isi (.var 0) "bool"))) (.one (.chain .LtE .LtE (.var 1) (.var 0) (.var 2))))))))
  .nil)
def f_is_integer : Fn := fnD N_is_integer ir_is_integer
def N_is_mode : List Str := ["thing"]
def ir_is_mode : IB :=
  (.ifs (.or (.cons (.not (.val (.isi (.var 0) "tuple"))) (.one (.cmp .NotEq (.bi .len false (.cons (.var 0) .nil)) (.int 2)))))
    (.cons (.ret (.bl false))
    .nil)
    .nil
  (.cons (.ret (.tst (.and (.cons (.val (.call "is_integer" 3 f_is_integer (.cons (.ix (.var 0) (.int 0)) (.cons (.int 1) (.cons (.glob "MOST_SIZE" 10000000000000000000000000000000000000000) .nil))))) (.one (.val (.call "is_integer" 3 f_is_integer (.cons (.ix (.var 0) (.int 1)) (.cons (.neg (.glob "MOST_STRIDE" 1000000000000000000000000000000000000000000000000000000000000)) (.cons (.glob "MOST_STRIDE" 1000000000000000000000000000000000000000000000000000000000000) .nil))))))))))
  .nil))
def f_is_mode : Fn := fnD N_is_mode ir_is_mode
def N_raw_size : List Str := ["axes", "found", "size", "stride"]
def ir_raw_size : IB :=
  (.cons (.set (.name 1) (.int 1))
  (.for_ (.tup (.cons (.name 2) (.cons (.name 3) .nil))) (.seq (.call "modes_of" 1 f_modes_of (.cons (.var 0) .nil)))
    (.cons (.set (.name 1) (.bin .Mult false (.var 1) (.var 2)))
    .nil)
  (.cons (.ret (.var 1))
  .nil)))
def f_raw_size : Fn := fnD N_raw_size ir_raw_size
def N_is_axes : List Str := ["thing", "modes", "axis", "mode"]
def ir_is_axes : IB :=
  (.ifs (.or (.cons (.not (.val (.isi (.var 0) "list"))) (.cons (.cmp .Gt (.bi .len false (.cons (.var 0) .nil)) (.glob "MOST_AXES" 8)) (.one (.not (.val (.bi .all false (.cons (.lc false [("axis", 2)] (.name 2) (.seq (.var 0)) .none (.isi (.var 2) "list")) .nil))))))))
    (.cons (.ret (.bl false))
    .nil)
    .nil
  (.cons (.set (.name 1) (.call "modes_of" 1 f_modes_of (.cons (.var 0) .nil)))
  (.ifs (.or (.cons (.cmp .Gt (.bi .len false (.cons (.var 1) .nil)) (.glob "MOST_MODES" 200)) (.one (.not (.val (.bi .all false (.cons (.lc false [("mode", 3)] (.name 3) (.seq (.var 1)) .none (.call "is_mode" 1 f_is_mode (.cons (.var 3) .nil))) .nil)))))))
    (.cons (.ret (.bl false))
    .nil)
    .nil
  (.cons (.ret (.tst (.cmp .LtE (.call "raw_size" 1 f_raw_size (.cons (.var 0) .nil)) (.glob "MOST_SIZE" 10000000000000000000000000000000000000000))))
  .nil))))
def f_is_axes : Fn := fnD N_is_axes ir_is_axes
def N_need_axes : List Str := ["axes"]
def ir_need_axes : IB :=
  (.ifs (.not (.val (.call "is_axes" 1 f_is_axes (.cons (.var 0) .nil))))
    (.cons (.raise "NoAxes")
    .nil)
    .nil
  .nil)
def f_need_axes : Fn := fnD N_need_axes ir_need_axes
def N_raw_reach : List Str := ["axes", "rows", "size", "stride", "row"]
def ir_raw_reach : IB :=
  (.cons (.setLc 1 false [("size", 2), ("stride", 3)] (.tup (.cons (.name 2) (.cons (.name 3) .nil))) (.seq (.call "modes_of" 1 f_modes_of (.cons (.var 0) .nil))) .none (.bin .Mult false (.bin .Sub false (.var 2) (.int 1)) (.var 3)))
  (.cons (.ret (.tup (.cons (.bi .sum false (.cons (.lc false [("row", 4)] (.name 4) (.seq (.var 1)) (.some (.cmp .Lt (.var 4) (.int 0))) (.var 4)) .nil)) (.cons (.bi .sum false (.cons (.lc false [("row", 4)] (.name 4) (.seq (.var 1)) (.some (.cmp .Gt (.var 4) (.int 0))) (.var 4)) .nil)) .nil))))
  .nil))
def f_raw_reach : Fn := fnD N_raw_reach ir_raw_reach
def N_chain_of : List Str := ["axes", "rows", "unit", "size", "stride"]
def ir_chain_of : IB :=
  (.cons (.set (.name 1) (.lst true .nil))
  (.cons (.set (.name 2) (.int 1))
  (.for_ (.tup (.cons (.name 3) (.cons (.name 4) .nil))) (.seq (.call "modes_of" 1 f_modes_of (.cons (.var 0) .nil)))
    (.ifs (.cmp .Gt (.var 3) (.int 1))
      (.cons (.ex (.meth .append (.var 1) (.cons (.tup (.cons (.var 4) (.cons (.var 3) (.cons (.var 2) .nil)))) .nil)))
      .nil)
      .nil
    (.cons (.set (.name 2) (.bin .Mult false (.var 2) (.var 3)))
    .nil))
  (.cons (.ret (.bi .sorted false (.cons (.var 1) .nil)))
  .nil))))
def f_chain_of : Fn := fnD N_chain_of ir_chain_of
def N_holding_of : List Str := ["hands", "least", "end", "stride", "size", "unit"]
def ir_holding_of : IB :=
  (.cons (.set (.name 1) (.ix (.call "raw_reach" 1 f_raw_reach (.cons (.var 0) .nil)) (.int 0)))
  (.ifs (.cmp .Lt (.var 1) (.int 0))
    (.cons (.ret (.tup (.cons (.str "out") (.cons (.var 1) .nil))))
    .nil)
    .nil
  (.cons (.set (.name 2) (.int 1))
  (.for_ (.tup (.cons (.name 3) (.cons (.name 4) (.cons (.name 5) .nil)))) (.seq (.call "chain_of" 1 f_chain_of (.cons (.var 0) .nil)))
    (.ifs (.cmp .NotEq (.var 3) (.var 2))
      (.cons (.ret (.ife (.cmp .Gt (.var 3) (.var 2)) (.tup (.cons (.str "none") (.cons (.var 2) .nil))) (.tup (.cons (.str "twice") (.cons (.var 3) .nil)))))
      .nil)
      .nil
    (.cons (.set (.name 2) (.bin .Mult false (.var 2) (.var 4)))
    .nil))
  (.cons (.ret .non)
  .nil)))))
def f_holding_of : Fn := fnD N_holding_of ir_holding_of
def N_does_hold_all : List Str := ["hands"]
def ir_does_hold_all : IB :=
  (.cons (.ret (.tst (.and (.cons (.cmp .Eq (.bi .len false (.cons (.var 0) .nil)) (.int 2)) (.one (.cmp .Is (.call "holding_of" 1 f_holding_of (.cons (.var 0) .nil)) .non))))))
  .nil)
def f_does_hold_all : Fn := fnD N_does_hold_all ir_does_hold_all
def N_need_hands : List Str := ["hands"]
def ir_need_hands : IB :=
  (.cons (.ex (.call "need_axes" 1 f_need_axes (.cons (.var 0) .nil)))
  (.ifs (.not (.val (.call "does_hold_all" 1 f_does_hold_all (.cons (.var 0) .nil))))
    (.cons (.raise "NoHands")
    .nil)
    .nil
  .nil))
def f_need_hands : Fn := fnD N_need_hands ir_need_hands
def N_need_work : List Str := ["hands", "n"]
def ir_need_work : IB :=
  (.cons (.ex (.call "need_hands" 1 f_need_hands (.cons (.var 0) .nil)))
  (.ifs (.not (.val (.call "is_integer" 3 f_is_integer (.cons (.var 1) (.cons (.int 0) (.cons (.glob "MOST_SIZE" 10000000000000000000000000000000000000000) .nil))))))
    (.cons (.raise "NoCount")
    .nil)
    .nil
  .nil))
def f_need_work : Fn := fnD N_need_work ir_need_work
def N_raw_rounds : List Str := ["hands", "n"]
def ir_raw_rounds : IB :=
  (.cons (.ret (.neg (.bin .FloorDiv false (.neg (.var 1)) (.call "raw_size" 1 f_raw_size (.cons (.var 0) .nil)))))
  .nil)
def f_raw_rounds : Fn := fnD N_raw_rounds ir_raw_rounds
def N_rounds_of : List Str := ["hands", "n"]
def ir_rounds_of : IB :=
  (.cons (.ex (.call "need_work" 2 f_need_work (.cons (.var 0) (.cons (.var 1) .nil))))
  (.cons (.ret (.call "raw_rounds" 2 f_raw_rounds (.cons (.var 0) (.cons (.var 1) .nil))))
  .nil))
def f_rounds_of : Fn := fnD N_rounds_of ir_rounds_of
def N_need_below : List Str := ["thing", "end"]
def ir_need_below : IB :=
  (.ifs (.not (.val (.call "is_integer" 3 f_is_integer (.cons (.var 0) (.cons (.int 0) (.cons (.bin .Sub false (.var 1) (.int 1)) .nil))))))
    (.cons (.raise "NoIndex")
    .nil)
    .nil
  .nil)
def f_need_below : Fn := fnD N_need_below ir_need_below
def N_workers_of : List Str := ["hands"]
def ir_workers_of : IB :=
  (.cons (.ret (.call "raw_size" 1 f_raw_size (.cons (.slc false (.var 0) .none (.some (.int 1))) .nil)))
  .nil)
def f_workers_of : Fn := fnD N_workers_of ir_workers_of
def N_raw_value : List Str := ["axes", "index", "found", "left", "size", "stride"]
def ir_raw_value : IB :=
  (.cons (.par2 2 3 (.int 0) (.var 1))
  (.for_ (.tup (.cons (.name 4) (.cons (.name 5) .nil))) (.seq (.call "modes_of" 1 f_modes_of (.cons (.var 0) .nil)))
    (.cons (.set (.name 2) (.bin .Add false (.var 2) (.bin .Mult false (.bin .Mod false (.var 3) (.var 4)) (.var 5))))
    (.cons (.set (.name 3) (.bin .FloorDiv false (.var 3) (.var 4)))
    .nil))
  (.cons (.ret (.var 2))
  .nil)))
def f_raw_value : Fn := fnD N_raw_value ir_raw_value
def N_element_of : List Str := ["hands", "n", "r", "w", "k", "found"]
def ir_element_of : IB :=
  (.cons (.ex (.call "need_work" 2 f_need_work (.cons (.var 0) (.cons (.var 1) .nil))))
  (.cons (.ex (.call "need_below" 2 f_need_below (.cons (.var 2) (.cons (.call "raw_rounds" 2 f_raw_rounds (.cons (.var 0) (.cons (.var 1) .nil))) .nil))))
  (.cons (.ex (.call "need_below" 2 f_need_below (.cons (.var 3) (.cons (.call "workers_of" 1 f_workers_of (.cons (.var 0) .nil)) .nil))))
  (.cons (.ex (.call "need_below" 2 f_need_below (.cons (.var 4) (.cons (.call "raw_size" 1 f_raw_size (.cons (.slc false (.var 0) (.some (.int 1)) .none) .nil)) .nil))))
  (.cons (.set (.name 5) (.bin .Add false (.bin .Mult false (.var 2) (.call "raw_size" 1 f_raw_size (.cons (.var 0) .nil))) (.call "raw_value" 2 f_raw_value (.cons (.var 0) (.cons (.bin .Add false (.var 3) (.bin .Mult false (.var 4) (.call "workers_of" 1 f_workers_of (.cons (.var 0) .nil)))) .nil)))))
  (.cons (.ret (.ife (.cmp .Lt (.var 5) (.var 1)) (.var 5) .non))
  .nil))))))
def f_element_of : Fn := fnD N_element_of ir_element_of
def N_last_end : List Str := ["chain", "many"]
def ir_last_end : IB :=
  (.cons (.ret (.ife (.cmp .Gt (.var 1) (.int 0)) (.bin .Mult false (.ix (.ix (.var 0) (.bin .Sub false (.var 1) (.int 1))) (.int 0)) (.ix (.ix (.var 0) (.bin .Sub false (.var 1) (.int 1))) (.int 1))) (.int 1)))
  .nil)
def f_last_end : Fn := fnD N_last_end ir_last_end
def N_split_of : List Str := ["chain", "number", "many", "index", "worth", "gap", "lowest", "left", "end", "stride", "size", "unit"]
def ir_split_of : IB :=
  (.cons (.set (.tup (.cons (.name 3) (.cons (.name 4) (.cons (.name 5) (.cons (.name 6) (.cons (.name 7) .nil)))))) (.tup (.cons (.int 0) (.cons (.int 0) (.cons (.int 0) (.cons .non (.cons (.var 1) .nil)))))))
  (.for_ (.name 2) (.range3 (.bin .Sub false (.bi .len false (.cons (.var 0) .nil)) (.int 1)) (.neg (.int 1)) (.neg (.int 1)))
    (.cons (.set (.tup (.cons (.name 9) (.cons (.name 10) (.cons (.name 11) .nil)))) (.ix (.var 0) (.var 2)))
    (.cons (.set (.name 8) (.call "last_end" 2 f_last_end (.cons (.var 0) (.cons (.var 2) .nil))))
    (.cons (.set (.name 3) (.bin .Add false (.var 3) (.bin .Mult false (.bin .FloorDiv false (.var 7) (.var 9)) (.var 11))))
    (.cons (.set (.name 4) (.bin .Add false (.var 4) (.bin .Mult false (.bin .FloorDiv false (.var 7) (.var 9)) (.var 9))))
    (.cons (.set (.name 7) (.bin .Mod false (.var 7) (.var 9)))
    (.ifs (.cmp .GtE (.var 7) (.var 8))
      (.cons (.set (.name 5) (.bin .Add false (.var 5) (.bin .Mult false (.bin .FloorDiv false (.var 7) (.var 8)) (.var 8))))
      (.cons (.set (.name 6) (.tup (.cons (.var 8) (.cons (.var 9) (.cons (.var 11) .nil)))))
      (.cons (.set (.name 7) (.bin .Mod false (.var 7) (.var 8)))
      .nil)))
      .nil
    .nil))))))
  (.cons (.ret (.tup (.cons (.var 3) (.cons (.var 4) (.cons (.var 5) (.cons (.var 6) .nil))))))
  .nil)))
def f_split_of : Fn := fnD N_split_of ir_split_of
def N_certificate_for : List Str := ["chain", "many", "goal", "end", "other", "place", "unit", "index", "worth", "gap", "lowest", "step", "stride", "own"]
def ir_certificate_for : IB :=
  (.cons (.set (.tup (.cons (.name 5) (.cons (.name 6) .nil))) (.var 2))
  (.cons (.set (.name 3) (.call "last_end" 2 f_last_end (.cons (.var 0) (.cons (.var 1) .nil))))
  (.cons (.set (.tup (.cons (.name 7) (.cons (.name 8) (.cons (.name 9) (.cons (.name 10) .nil))))) (.call "split_of" 2 f_split_of (.cons (.slc false (.var 0) .none (.some (.var 1))) (.cons (.bin .Mod false (.var 5) (.var 3)) .nil))))
  (.ifs (.cmp .Gt (.var 8) (.int 0))
    (.cons (.set (.name 4) (.tup (.cons (.var 7) (.cons (.bin .Add false (.bin .Mult false (.bin .FloorDiv false (.var 5) (.var 3)) (.var 3)) (.var 9)) .nil))))
    (.cons (.ret (.ife (.cmp .Is (.var 6) .non) (.tup (.cons (.str "out") (.cons (.var 5) (.cons (.var 4) .nil)))) (.tup (.cons (.str "twice") (.cons (.var 5) (.cons (.tup (.cons (.var 6) (.cons (.int 0) .nil))) (.cons (.var 4) .nil)))))))
    .nil))
    .nil
  (.cons (.set (.tup (.cons (.name 11) (.cons (.name 12) (.cons (.name 13) .nil)))) (.var 10))
  (.cons (.set (.name 4) (.tup (.cons (.var 13) (.cons (.bin .Sub false (.var 5) (.var 11)) .nil))))
  (.ifs (.cmp .Is (.var 6) .non)
    (.cons (.ret (.tup (.cons (.str "out") (.cons (.bin .Add false (.bin .Sub false (.var 5) (.var 11)) (.var 12)) (.cons (.var 4) .nil)))))
    .nil)
    .nil
  (.cons (.ret (.tup (.cons (.str "twice") (.cons (.bin .Add false (.bin .Sub false (.var 5) (.var 11)) (.var 12)) (.cons (.tup (.cons (.var 6) (.cons (.bin .Sub false (.var 12) (.var 11)) .nil))) (.cons (.var 4) .nil))))))
  .nil))))))))
def f_certificate_for : Fn := fnD N_certificate_for ir_certificate_for
def N_certificate_against : List Str := ["chain", "many", "m", "stride", "size", "unit"]
def ir_certificate_against : IB :=
  (.for_ (.tup (.cons (.name 3) (.cons (.name 4) (.cons (.name 5) .nil)))) (.seq (.var 0))
    (.ifs (.or (.cons (.cmp .Lt (.var 3) (.int 0)) (.one (.cmp .GtE (.var 3) (.var 2)))))
      (.cons (.ret (.tup (.cons (.str "out") (.cons (.var 3) (.cons (.tup (.cons (.var 5) (.cons (.int 0) .nil))) .nil)))))
      .nil)
      .nil
    (.ifs (.cmp .Eq (.var 3) (.int 0))
      (.cons (.ret (.tup (.cons (.str "twice") (.cons (.int 0) (.cons (.tup (.cons (.int 0) (.cons (.int 0) .nil))) (.cons (.tup (.cons (.var 5) (.cons (.int 0) .nil))) .nil))))))
      .nil)
      .nil
    .nil))
  (.ifs (.cmp .Lt (.var 1) (.bi .len false (.cons (.var 0) .nil)))
    (.cons (.ret (.call "certificate_for" 3 f_certificate_for (.cons (.var 0) (.cons (.var 1) (.cons (.tup (.cons (.ix (.ix (.var 0) (.var 1)) (.int 0)) (.cons (.ix (.ix (.var 0) (.var 1)) (.int 2)) .nil))) .nil)))))
    .nil)
    .nil
  (.cons (.ret (.ife (.cmp .NotEq (.bin .Mod false (.var 2) (.call "last_end" 2 f_last_end (.cons (.var 0) (.cons (.var 1) .nil)))) (.int 0)) (.call "certificate_for" 3 f_certificate_for (.cons (.var 0) (.cons (.var 1) (.cons (.tup (.cons (.var 2) (.cons .non .nil))) .nil)))) .non))
  .nil)))
def f_certificate_against : Fn := fnD N_certificate_against ir_certificate_against
def N_sound_rows : List Str := ["chain", "many", "stride", "size", "unit"]
def ir_sound_rows : IB :=
  (.for_ (.tup (.cons (.name 1) (.cons (.tup (.cons (.name 2) (.cons (.name 3) (.cons (.name 4) .nil)))) .nil))) (.enum (.var 0))
    (.ifs (.or (.cons (.cmp .LtE (.var 2) (.int 0)) (.one (.cmp .NotEq (.bin .Mod false (.var 2) (.call "last_end" 2 f_last_end (.cons (.var 0) (.cons (.var 1) .nil)))) (.int 0)))))
      (.cons (.ret (.var 1))
      .nil)
      .nil
    .nil)
  (.cons (.ret (.bi .len false (.cons (.var 0) .nil)))
  .nil))
def f_sound_rows : Fn := fnD N_sound_rows ir_sound_rows
def N_sound_chain : List Str := ["axes", "m", "chain", "found"]
def ir_sound_chain : IB :=
  (.cons (.set (.name 2) (.call "chain_of" 1 f_chain_of (.cons (.var 0) .nil)))
  (.cons (.set (.name 3) (.call "certificate_against" 3 f_certificate_against (.cons (.var 2) (.cons (.call "sound_rows" 1 f_sound_rows (.cons (.var 2) .nil)) (.cons (.var 1) .nil)))))
  (.ifs (.cmp .IsNot (.var 3) .non)
    (.cons .never
    .nil)
    .nil
  (.cons (.ret (.var 2))
  .nil))))
def f_sound_chain : Fn := fnD N_sound_chain ir_sound_chain
def N_short_axis : List Str := ["modes", "found", "size", "stride"]
def ir_short_axis : IB :=
  (.cons (.set (.name 1) (.lst true .nil))
  (.for_ (.tup (.cons (.name 2) (.cons (.name 3) .nil))) (.seq (.var 0))
    (.ifs (.cmp .Eq (.var 2) (.int 1))
      (.cons .ct
      .nil)
      .nil
    (.ifs (.and (.cons (.cmp .NotEq (.var 1) (.lst false .nil)) (.one (.cmp .Eq (.var 3) (.bin .Mult false (.ix (.ix (.var 1) (.neg (.int 1))) (.int 0)) (.ix (.ix (.var 1) (.neg (.int 1))) (.int 1)))))))
      (.cons (.setIx (.var 1) (.neg (.int 1)) (.tup (.cons (.bin .Mult false (.ix (.ix (.var 1) (.neg (.int 1))) (.int 0)) (.var 2)) (.cons (.ix (.ix (.var 1) (.neg (.int 1))) (.int 1)) .nil))))
      .nil)
      (.cons (.ex (.meth .append (.var 1) (.cons (.tup (.cons (.var 2) (.cons (.var 3) .nil))) .nil)))
      .nil)
    .nil))
  (.cons (.ret (.fz (.var 1)))
  .nil)))
def f_short_axis : Fn := fnD N_short_axis ir_short_axis
def N_raw_back : List Str := ["axes", "m", "chain", "found", "end", "stride", "size", "unit"]
def ir_raw_back : IB :=
  (.cons (.par3 2 3 4 (.call "sound_chain" 2 f_sound_chain (.cons (.var 0) (.cons (.var 1) .nil))) (.lst true .nil) (.int 1))
  (.for_ (.tup (.cons (.name 5) (.cons (.name 6) (.cons (.name 7) .nil)))) (.seq (.var 2))
    (.cons (.ex (.meth .extend (.var 3) (.cons (.lst false (.cons (.tup (.cons (.bin .FloorDiv false (.var 5) (.var 4)) (.cons (.int 0) .nil))) (.cons (.tup (.cons (.var 6) (.cons (.var 7) .nil))) .nil))) .nil)))
    (.cons (.set (.name 4) (.bin .Mult false (.var 5) (.var 6)))
    .nil))
  (.cons (.ret (.call "short_axis" 1 f_short_axis (.cons (.bin .Add false (.var 3) (.lst false (.cons (.tup (.cons (.bin .FloorDiv false (.var 1) (.var 4)) (.cons (.int 0) .nil))) .nil))) .nil)))
  .nil)))
def f_raw_back : Fn := fnD N_raw_back ir_raw_back
def N_where_is : List Str := ["hands", "n", "e", "many", "index"]
def ir_where_is : IB :=
  (.cons (.ex (.call "need_work" 2 f_need_work (.cons (.var 0) (.cons (.var 1) .nil))))
  (.cons (.ex (.call "need_below" 2 f_need_below (.cons (.var 2) (.cons (.var 1) .nil))))
  (.cons (.set (.name 3) (.call "raw_size" 1 f_raw_size (.cons (.var 0) .nil)))
  (.cons (.set (.name 4) (.call "raw_value" 2 f_raw_value (.cons (.lst false (.cons (.call "raw_back" 2 f_raw_back (.cons (.var 0) (.cons (.var 3) .nil))) .nil)) (.cons (.bin .Mod false (.var 2) (.var 3)) .nil))))
  (.cons (.ret (.tup (.cons (.bin .FloorDiv false (.var 2) (.var 3)) (.cons (.bin .Mod false (.var 4) (.call "workers_of" 1 f_workers_of (.cons (.var 0) .nil))) (.cons (.bin .FloorDiv false (.var 4) (.call "workers_of" 1 f_workers_of (.cons (.var 0) .nil))) .nil)))))
  .nil)))))
def f_where_is : Fn := fnD N_where_is ir_where_is
def N__law_open : List Str := ["_law_script", "_law_cells", "_law_number", "_law_cell"]
def ir__law_open : IB :=
  (.cons (.set (.name 1) (.bi .list true (.cons (.slc false (.var 0) .none (.some (.int 12))) .nil)))
  (.for_ (.tup (.cons (.name 2) (.cons (.name 3) .nil))) (.enum (.slc false (.var 0) (.some (.int 12)) (.some (.int 63))))
    (.cons (.setIx (.var 1) (.bin .Mod false (.bi .int false (.cons (.var 2) .nil)) (.int 12)) (.bin .Add false (.ix (.var 1) (.bin .Mod false (.bi .int false (.cons (.var 2) .nil)) (.int 12))) (.var 3)))
    .nil)
  (.cons (.ret (.lst true (.cons (.fz (.var 1)) (.cons (.int 0) (.cons (.int 0) .nil)))))
  .nil)))
def f__law_open : Fn := fnD N__law_open ir__law_open
def N__law_spread : List Str := ["_law_cell", "_law_at", "_law_primes", "_law_one", "_law_two", "_law_three"]
def ir__law_spread : IB :=
  (.ifs (.cmp .GtE (.var 0) (.bin .Pow false (.int 10) (.int 18)))
    (.cons (.ret (.var 0))
    .nil)
    .nil
  (.cons (.set (.name 2) (.lst false (.cons (.int 2147483629) (.cons (.int 2147483587) (.cons (.int 2147483579) (.cons (.int 2147483563) (.cons (.int 2147483549) (.cons (.int 2147483543) (.cons (.int 2147483497) (.cons (.int 2147483489) .nil))))))))))
  (.cons (.set (.name 2) (.bin .Add false (.var 2) (.lst false (.cons (.int 2147483477) (.cons (.int 2147483423) (.cons (.int 2147483399) (.cons (.int 2147483353) (.cons (.int 2147483323) .nil))))))))
  (.cons (.set (.name 3) (.bin .Mult false (.bin .Mod false (.bi .int false (.cons (.var 0) .nil)) (.int 1000000007)) (.bin .Add false (.bin .Mult false (.int 2) (.var 1)) (.int 69069))))
  (.cons (.set (.name 3) (.bin .Mod false (.bi .int false (.cons (.bin .Pow false (.bin .Add false (.bin .Add false (.var 3) (.bin .Mult false (.var 1) (.int 40503))) (.int 977)) (.int 3)) .nil)) (.ix (.var 2) (.bin .Mod false (.bi .int false (.cons (.var 1) .nil)) (.int 13)))))
  (.cons (.set (.name 4) (.bin .Mod false (.bi .int false (.cons (.bin .Pow false (.bin .Add false (.bin .Add false (.bin .Mult false (.var 3) (.bin .Add false (.var 1) (.int 3))) (.bin .Mod false (.bi .int false (.cons (.var 0) .nil)) (.int 65537))) (.int 5)) (.int 5)) .nil)) (.ix (.var 2) (.bin .Mod false (.bi .int false (.cons (.bin .Add false (.var 1) (.int 5)) .nil)) (.int 13)))))
  (.cons (.set (.name 5) (.bin .Mod false (.bi .int false (.cons (.bin .Pow false (.bin .Add false (.bin .Add false (.var 4) (.bin .Mod false (.bi .int false (.cons (.var 3) .nil)) (.int 1009))) (.var 1)) (.int 3)) .nil)) (.ix (.var 2) (.bin .Mod false (.bi .int false (.cons (.bin .Add false (.var 1) (.int 7)) .nil)) (.int 13)))))
  (.cons (.ret (.bin .Add false (.bin .Mult false (.bin .Add false (.bin .Mult false (.var 3) (.int 2147483647)) (.var 4)) (.int 2147483647)) (.var 5)))
  .nil))))))))
def f__law_spread : Fn := fnD N__law_spread ir__law_spread
def N__law_take : List Str := ["_law_pen", "_law_many", "_law_found", "_law_at", "_law_cell"]
def ir__law_take : IB :=
  (.ifs (.cmp .Lt (.ix (.var 0) (.int 2)) (.var 1))
    (.cons (.set (.name 3) (.ix (.var 0) (.int 1)))
    (.cons (.set (.name 4) (.int 0))
    (.ifs (.cmp .Lt (.var 3) (.bi .len false (.cons (.ix (.var 0) (.int 0)) .nil)))
      (.cons (.set (.name 4) (.ix (.ix (.var 0) (.int 0)) (.var 3)))
      .nil)
      (.ifs (.cmp .Gt (.bi .len false (.cons (.ix (.var 0) (.int 0)) .nil)) (.int 0))
        (.cons (.set (.name 4) (.bin .Mod false (.bi .int false (.cons (.ix (.ix (.var 0) (.int 0)) (.bin .Mod false (.bi .int false (.cons (.bin .Add false (.bin .Mult false (.var 3) (.int 5)) (.int 3)) .nil)) (.bi .len false (.cons (.ix (.var 0) (.int 0)) .nil)))) .nil)) (.bin .Add false (.bin .Pow false (.int 10) (.int 17)) (.var 3))))
        .nil)
        .nil
      .nil)
    (.cons (.setIx (.var 0) (.int 1) (.bin .Add false (.var 3) (.int 1)))
    (.cons (.setIx (.var 0) (.int 2) (.call "_law_spread" 2 f__law_spread (.cons (.var 4) (.cons (.var 3) .nil))))
    .nil)))))
    .nil
  (.cons (.set (.name 2) (.bin .Mod false (.bi .int false (.cons (.ix (.var 0) (.int 2)) .nil)) (.var 1)))
  (.cons (.setIx (.var 0) (.int 2) (.bin .FloorDiv false (.ix (.var 0) (.int 2)) (.var 1)))
  (.cons (.ret (.var 2))
  .nil))))
def f__law_take : Fn := fnD N__law_take ir__law_take
def N__law_q_pick : List Str := ["_law_pen", "_law_some"]
def ir__law_q_pick : IB :=
  (.cons (.ret (.ix (.var 1) (.call "_law_take" 2 f__law_take (.cons (.var 0) (.cons (.bi .len false (.cons (.var 1) .nil)) .nil)))))
  .nil)
def f__law_q_pick : Fn := fnD N__law_q_pick ir__law_q_pick
def N__law_q_flat : List Str := ["_law_axes", "_law_found", "_law_axis"]
def ir__law_q_flat : IB :=
  (.cons (.set (.name 1) (.lst false .nil))
  (.for_ (.name 2) (.seq (.var 0))
    (.cons (.set (.name 1) (.bin .Add false (.var 1) (.bi .list false (.cons (.var 2) .nil))))
    .nil)
  (.cons (.ret (.var 1))
  .nil)))
def f__law_q_flat : Fn := fnD N__law_q_flat ir__law_q_flat
def N__law_q_many : List Str := ["_law_axes", "_law_found", "_law_mode"]
def ir__law_q_many : IB :=
  (.cons (.set (.name 1) (.int 1))
  (.for_ (.name 2) (.seq (.call "_law_q_flat" 1 f__law_q_flat (.cons (.var 0) .nil)))
    (.cons (.set (.name 1) (.bin .Mult false (.var 1) (.ix (.var 2) (.int 0))))
    .nil)
  (.cons (.ret (.var 1))
  .nil)))
def f__law_q_many : Fn := fnD N__law_q_many ir__law_q_many
def N__law_q_value : List Str := ["_law_axes", "_law_index", "_law_found", "_law_left", "_law_size", "_law_stride"]
def ir__law_q_value : IB :=
  (.cons (.par2 2 3 (.int 0) (.var 1))
  (.for_ (.tup (.cons (.name 4) (.cons (.name 5) .nil))) (.seq (.call "_law_q_flat" 1 f__law_q_flat (.cons (.var 0) .nil)))
    (.cons (.set (.name 2) (.bin .Add false (.var 2) (.bin .Mult false (.bin .Mod false (.bi .int false (.cons (.var 3) .nil)) (.var 4)) (.var 5))))
    (.cons (.set (.name 3) (.bin .FloorDiv false (.var 3) (.var 4)))
    .nil))
  (.cons (.ret (.var 2))
  .nil)))
def f__law_q_value : Fn := fnD N__law_q_value ir__law_q_value
def N__law_q_index : List Str := ["_law_pen", "_law_many", "_law_way", "_law_near"]
def ir__law_q_index : IB :=
  (.cons (.par2 2 3 (.call "_law_take" 2 f__law_take (.cons (.var 0) (.cons (.int 4) .nil))) (.call "_law_take" 2 f__law_take (.cons (.var 0) (.cons (.int 30) .nil))))
  (.ifs (.cmp .Eq (.var 2) (.int 0))
    (.cons (.ret (.bin .Sub false (.bin .Sub false (.var 1) (.int 1)) (.bi .min2 false (.cons (.var 3) (.cons (.bin .Sub false (.var 1) (.int 1)) .nil)))))
    .nil)
    .nil
  (.cons (.ret (.ife (.cmp .Gt (.var 2) (.int 1)) (.call "_law_take" 2 f__law_take (.cons (.var 0) (.cons (.var 1) .nil))) (.bi .min2 false (.cons (.var 3) (.cons (.bin .Sub false (.var 1) (.int 1)) .nil)))))
  .nil)))
def f__law_q_index : Fn := fnD N__law_q_index ir__law_q_index
def N__law_q_hands : List Str := ["_law_pen", "_law_turn", "_law_unit", "_law_rows", "_law_found", "_law_size", "_law_row"]
def ir__law_q_hands : IB :=
  (.cons (.par3 2 3 4 (.int 1) (.lst true .nil) (.lst false (.cons (.lst true .nil) (.cons (.lst true .nil) .nil))))
  (.for_ (.name 1) (.range1 (.call "_law_take" 2 f__law_take (.cons (.var 0) (.cons (.int 7) .nil))))
    (.cons (.set (.name 5) (.call "_law_q_pick" 2 f__law_q_pick (.cons (.var 0) (.cons (.lst false (.cons (.int 1) (.cons (.int 2) (.cons (.int 2) (.cons (.int 2) (.cons (.int 3) (.cons (.int 3) (.cons (.int 4) (.cons (.int 5) (.cons (.int 7) (.cons (.int 1000) (.cons (.bin .Pow false (.int 10) (.int 6)) .nil)))))))))))) .nil))))
    (.cons (.ex (.meth .append (.var 3) (.cons (.tup (.cons (.var 5) (.cons (.var 2) .nil))) .nil)))
    (.cons (.set (.name 2) (.bin .Mult false (.var 2) (.var 5)))
    .nil)))
  (.ifs (.cmp .Eq (.call "_law_take" 2 f__law_take (.cons (.var 0) (.cons (.int 3) .nil))) (.int 0))
    (.cons (.ex (.meth .append (.var 3) (.cons (.tup (.cons (.int 1) (.cons (.call "_law_q_pick" 2 f__law_q_pick (.cons (.var 0) (.cons (.lst false (.cons (.int 0) (.cons (.int 1) (.cons (.int 7) (.cons (.neg (.int 3)) (.cons (.bin .Pow false (.int 10) (.int 30)) .nil)))))) .nil))) .nil))) .nil)))
    .nil)
    .nil
  (.while_ 9 (.cmp .NotEq (.var 3) (.lst false .nil))
    (.cons (.set (.name 6) (.ix (.var 4) (.call "_law_take" 2 f__law_take (.cons (.var 0) (.cons (.int 2) .nil)))))
    (.cons (.ex (.meth .append (.var 6) (.cons (.meth .popAt (.var 3) (.cons (.call "_law_take" 2 f__law_take (.cons (.var 0) (.cons (.bi .len false (.cons (.var 3) .nil)) .nil))) .nil)) .nil)))
    .nil))
  (.cons (.ret (.fzl (.var 4)))
  .nil)))))
def f__law_q_hands : Fn := fnD N__law_q_hands ir__law_q_hands
end
end PF

namespace PF
open PySem PySem.Spec L2 DV
theorem is_integer_int (s : Sto) (i lo hi : Int) : f_is_integer s [.int i, .int lo, .int hi] = .ok (.bl (decide (lo ≤ i) && decide (i ≤ hi))) s := by
  refine fnD_of ?_ (by rw [bnd])
  by_cases h1 : lo ≤ i <;> by_cases h2 : i ≤ hi <;> simp [b_nil, b_cons, b_ifs, b_for, b_while, semS, e_lc, e_lc2, e_var, e_int, e_bl, e_non, e_str, e_glob, e_bin, e_neg, e_tst, e_ife, e_tup, e_lst, e_ix, e_slc, e_rev, e_call, e_callK, permL, e_bi, e_isi, e_meth, e_fz, e_fzl, e_sortK, e_isx, e_isb, e_fld, e_callT, e_emp, b_try, isxSem, fldSem, actSem, actOut, catchO, onlyT_at, semEs, semT, semAnd, semOr, semO, semC, semI, R.bind_ok, R.bind_ex, R.bind_bad, R.out_ok, R.out_ex, R.out_bad, thn_nx, thn_ret, thn_brk, thn_ct, thn_ex, thn_bad, val_nx, val_ret, val_ex, tgSem, tgsSem, binSem, addSem, augSem, ixSem, seqOf, lstOf, lstT, newL, cmpSem, cmpInts, cmpI, eqD_int, DV.isNon, biSem, biLen, biInt, biList, biTuple, biTwo, isi_ii, isi_ib, isi_il, isi_it, isi_ll, isi_li, isi_lt, isi_tt, isi_tl, isi_ti, itemsOf, litOf, at0, at1, at2, ix30, ix31, ix32, sl0, sl1, sl2, sl3, sl4, sl5, sl6, sl7, sl8, sl9, sl10, sl11, sl12, sl13, sl14, fnSem, startE, wipeE, N_is_integer, ir_is_integer, h1, h2]
/-- modes, axes as data -/
abbrev Mode := Int × Int
def eM (m : Mode) : D := .tup [.int m.1, .int m.2]
def eA (a : List Mode) : D := .lst (a.map eM)
def eH (h : List (List Mode)) : D := .lst (h.map eA)
theorem pure_eM {m : Nat} (x : Mode) : bnd m (eM x) = true := by simp [eM, bnd, bnds]
theorem bnd_eA {m : Nat} (x : List Mode) : bnd m (eA x) = true := by
  rw [eA, bnd]
  exact bnds_of fun d hd => by
    obtain ⟨y, _, rfl⟩ := List.mem_map.mp hd
    exact pure_eM y
theorem bnd_eH {m : Nat} (x : List (List Mode)) : bnd m (eH x) = true := by
  rw [eH, bnd]
  exact bnds_of fun d hd => by
    obtain ⟨y, _, rfl⟩ := List.mem_map.mp hd
    exact bnd_eA y
def okM (m : Mode) : Prop := (1 ≤ m.1 ∧ m.1 ≤ 10000000000000000000000000000000000000000) ∧ (-1000000000000000000000000000000000000000000000000000000000000 ≤ m.2 ∧ m.2 ≤ 1000000000000000000000000000000000000000000000000000000000000)
theorem is_mode_ok (s : Sto) (m : Mode) (h : okM m) : f_is_mode s [eM m] = .ok (.bl true) s := by
  refine fnD_of ?_ (by rw [bnd])
  have e0 : atI [D.int m.1, D.int m.2] 0 = some (.int m.1) := rfl
  have e1 : atI [D.int m.1, D.int m.2] 1 = some (.int m.2) := rfl
  obtain ⟨⟨a, b⟩, c, d⟩ := h
  simp [b_nil, b_cons, b_ifs, b_for, b_while, semS, e_lc, e_lc2, e_var, e_int, e_bl, e_non, e_str, e_glob, e_bin, e_neg, e_tst, e_ife, e_tup, e_lst, e_ix, e_slc, e_rev, e_call, e_callK, permL, e_bi, e_isi, e_meth, e_fz, e_fzl, e_sortK, e_isx, e_isb, e_fld, e_callT, e_emp, b_try, isxSem, fldSem, actSem, actOut, catchO, onlyT_at, semEs, semT, semAnd, semOr, semO, semC, semI, R.bind_ok, R.bind_ex, R.bind_bad, R.out_ok, R.out_ex, R.out_bad, thn_nx, thn_ret, thn_brk, thn_ct, thn_ex, thn_bad, val_nx, val_ret, val_ex, tgSem, tgsSem, binSem, addSem, augSem, ixSem, seqOf, lstOf, lstT, newL, cmpSem, cmpInts, cmpI, eqD_int, DV.isNon, biSem, biLen, biInt, biList, biTuple, biTwo, isi_ii, isi_ib, isi_il, isi_it, isi_ll, isi_li, isi_lt, isi_tt, isi_tl, isi_ti, itemsOf, litOf, at0, at1, at2, ix30, ix31, ix32, sl0, sl1, sl2, sl3, sl4, sl5, sl6, sl7, sl8, sl9, sl10, sl11, sl12, sl13, sl14, fnSem, startE, wipeE, N_is_mode, ir_is_mode, eM, e0, e1, is_integer_int, a, b, c, d]
theorem modes_of_ok (s : Sto) (h : List (List Mode)) (hl : h.flatten.length ≤ sizeLine) : f_modes_of s [eH h] = .ok (eA h.flatten) s := by
  refine fnD_of ?_ (bnd_eA _)
  simp only [b_nil, b_cons, b_ifs, b_for, b_while, semS, e_lc, e_lc2, e_var, e_int, e_bl, e_non, e_str, e_glob, e_bin, e_neg, e_tst, e_ife, e_tup, e_lst, e_ix, e_slc, e_rev, e_call, e_callK, permL, e_bi, e_isi, e_meth, e_fz, e_fzl, e_sortK, e_isx, e_isb, e_fld, e_callT, e_emp, b_try, isxSem, fldSem, actSem, actOut, catchO, onlyT_at, semEs, semT, semAnd, semOr, semO, semC, semI, R.bind_ok, R.bind_ex, R.bind_bad, R.out_ok, R.out_ex, R.out_bad, thn_nx, thn_ret, thn_brk, thn_ct, thn_ex, thn_bad, val_nx, val_ret, val_ex, tgSem, tgsSem, binSem, addSem, augSem, ixSem, seqOf, lstOf, lstT, newL, cmpSem, cmpInts, cmpI, eqD_int, DV.isNon, biSem, biLen, biInt, biList, biTuple, biTwo, isi_ii, isi_ib, isi_il, isi_it, isi_ll, isi_li, isi_lt, isi_tt, isi_tl, isi_ti, itemsOf, litOf, at0, at1, at2, ix30, ix31, ix32, sl0, sl1, sl2, sl3, sl4, sl5, sl6, sl7, sl8, sl9, sl10, sl11, sl12, sl13, sl14, fnSem, startE, wipeE, N_modes_of, ir_modes_of, eH, eA]
  simp
  rw [lc2Go_enc (f := fun a => a.map eM) (B := sizeLine) h []]
  · simp [b_nil, b_cons, b_ifs, b_for, b_while, semS, e_lc, e_lc2, e_var, e_int, e_bl, e_non, e_str, e_glob, e_bin, e_neg, e_tst, e_ife, e_tup, e_lst, e_ix, e_slc, e_rev, e_call, e_callK, permL, e_bi, e_isi, e_meth, e_fz, e_fzl, e_sortK, e_isx, e_isb, e_fld, e_callT, e_emp, b_try, isxSem, fldSem, actSem, actOut, catchO, onlyT_at, semEs, semT, semAnd, semOr, semO, semC, semI, R.bind_ok, R.bind_ex, R.bind_bad, R.out_ok, R.out_ex, R.out_bad, thn_nx, thn_ret, thn_brk, thn_ct, thn_ex, thn_bad, val_nx, val_ret, val_ex, tgSem, tgsSem, binSem, addSem, augSem, ixSem, seqOf, lstOf, lstT, newL, cmpSem, cmpInts, cmpI, eqD_int, DV.isNon, biSem, biLen, biInt, biList, biTuple, biTwo, isi_ii, isi_ib, isi_il, isi_it, isi_ll, isi_li, isi_lt, isi_tt, isi_tl, isi_ti, itemsOf, litOf, at0, at1, at2, ix30, ix31, ix32, sl0, sl1, sl2, sl3, sl4, sl5, sl6, sl7, sl8, sl9, sl10, sl11, sl12, sl13, sl14, fnSem, startE, wipeE, List.map_flatten, List.flatMap_def, eA]
  · intro x hx acc hacc
    simp [lc2Bd, b_nil, b_cons, b_ifs, b_for, b_while, semS, e_lc, e_lc2, e_var, e_int, e_bl, e_non, e_str, e_glob, e_bin, e_neg, e_tst, e_ife, e_tup, e_lst, e_ix, e_slc, e_rev, e_call, e_callK, permL, e_bi, e_isi, e_meth, e_fz, e_fzl, e_sortK, e_isx, e_isb, e_fld, e_callT, e_emp, b_try, isxSem, fldSem, actSem, actOut, catchO, onlyT_at, semEs, semT, semAnd, semOr, semO, semC, semI, R.bind_ok, R.bind_ex, R.bind_bad, R.out_ok, R.out_ex, R.out_bad, thn_nx, thn_ret, thn_brk, thn_ct, thn_ex, thn_bad, val_nx, val_ret, val_ex, tgSem, tgsSem, binSem, addSem, augSem, ixSem, seqOf, lstOf, lstT, newL, cmpSem, cmpInts, cmpI, eqD_int, DV.isNon, biSem, biLen, biInt, biList, biTuple, biTwo, isi_ii, isi_ib, isi_il, isi_it, isi_ll, isi_li, isi_lt, isi_tt, isi_tl, isi_ti, itemsOf, litOf, at0, at1, at2, ix30, ix31, ix32, sl0, sl1, sl2, sl3, sl4, sl5, sl6, sl7, sl8, sl9, sl10, sl11, sl12, sl13, sl14, fnSem, startE, wipeE, eA, ← List.map_map]
    have hacc : acc.length + x.length ≤ sizeLine := by simpa using hacc
    rw [if_pos hacc]
    have := lcGo_map (el := fun y s4 => R.ok (some y) s4) (f := id) (s := s) (x.map eM) acc (fun _ _ => rfl)
    simpa using this
  · simpa [List.flatMap_def, ← List.map_flatten] using hl
def prodM (l : List Mode) : Int := l.foldl (fun f m => f * m.1) 1
/-- factors small enough for one product -/
def mulOk (l : List Mode) : Prop := (∀ m ∈ l, m.1.natAbs.log2 < 1000) ∧ l.length ≤ 300
theorem prodM_snoc (l : List Mode) (m : Mode) : prodM (l ++ [m]) = prodM l * m.1 := by simp [prodM]
theorem okM_lt {m : Mode} (h : okM m) : m.1.natAbs < 2 ^ 134 := by
  have e : (2 : Nat) ^ 134 = 21778071482940061661655974875633165533184 := by decide +kernel
  have := h.1
  omega
theorem okM_lt2 {m : Mode} (h : okM m) : m.2.natAbs < 2 ^ 200 := by
  have e : (2 : Nat) ^ 200 = 1606938044258990275541962092341162602522202993782792835301376 := by decide +kernel
  have := h.2
  omega
theorem fold_lt : ∀ (l : List Mode) (f : Int) (k : Nat), f.natAbs < 2 ^ k → (∀ m ∈ l, okM m) → (l.foldl (fun f m => f * m.1) f).natAbs < 2 ^ (134 * l.length + k)
  | [], f, k, h, _ => by simpa using h
  | m :: l, f, k, h, hm => by
    have := fold_lt l (f * m.1) (k + 134) (natAbs_mul_lt h (okM_lt (hm m (List.mem_cons_self ..)))) fun x hx => hm x (List.mem_cons_of_mem _ hx)
    rwa [show 134 * l.length + (k + 134) = 134 * (m :: l).length + k from by simp; omega] at this
theorem prodM_lt (l : List Mode) (h : ∀ m ∈ l, okM m) : (prodM l).natAbs < 2 ^ (134 * l.length + 1) := fold_lt l 1 1 (by decide) h
theorem raw_size_ok (s : Sto) (h : List (List Mode)) (hl : h.flatten.length ≤ 200) (hm : ∀ m ∈ h.flatten, okM m) : f_raw_size s [eH h] = .ok (.int (prodM h.flatten)) s := by
  have hsz : sizeLine = 16777216 := rfl
  refine fnD_of ?_ (by rw [bnd])
  simp [b_nil, b_cons, b_ifs, b_for, b_while, semS, e_lc, e_lc2, e_var, e_int, e_bl, e_non, e_str, e_glob, e_bin, e_neg, e_tst, e_ife, e_tup, e_lst, e_ix, e_slc, e_rev, e_call, e_callK, permL, e_bi, e_isi, e_meth, e_fz, e_fzl, e_sortK, e_isx, e_isb, e_fld, e_callT, e_emp, b_try, isxSem, fldSem, actSem, actOut, catchO, onlyT_at, semEs, semT, semAnd, semOr, semO, semC, semI, R.bind_ok, R.bind_ex, R.bind_bad, R.out_ok, R.out_ex, R.out_bad, thn_nx, thn_ret, thn_brk, thn_ct, thn_ex, thn_bad, val_nx, val_ret, val_ex, tgSem, tgsSem, binSem, addSem, augSem, ixSem, seqOf, lstOf, lstT, newL, cmpSem, cmpInts, cmpI, eqD_int, DV.isNon, biSem, biLen, biInt, biList, biTuple, biTwo, isi_ii, isi_ib, isi_il, isi_it, isi_ll, isi_li, isi_lt, isi_tt, isi_tl, isi_ti, itemsOf, litOf, at0, at1, at2, ix30, ix31, ix32, sl0, sl1, sl2, sl3, sl4, sl5, sl6, sl7, sl8, sl9, sl10, sl11, sl12, sl13, sl14, fnSem, startE, wipeE, N_raw_size, ir_raw_size, modes_of_ok s h (by omega), eA, -List.map_flatten]
  generalize h.flatten = l at *
  refine pre_k (fun o => (o.thn _).val = _) (fun b ρ s' => s' = s ∧ ∃ x y, ρ = [some (eH h), some (.int (prodM b)), x, y]) ⟨rfl, _, _, rfl⟩ ?_ ?_
  · rintro pre m post rfl ρ s' ⟨rfl, x, y, rfl⟩
    refine ⟨_, s', .inl ?_, rfl, some (.int m.1), some (.int m.2), rfl⟩
    have hc : CMulW (prodM pre) m.1 := mulW_of (prodM_lt pre fun x hx => hm x (List.mem_append_left _ hx)) (okM_lt (hm m (by simp))) (by simp at hl; omega)
    simp [forBd_at, b_nil, b_cons, b_ifs, b_for, b_while, semS, e_lc, e_lc2, e_var, e_int, e_bl, e_non, e_str, e_glob, e_bin, e_neg, e_tst, e_ife, e_tup, e_lst, e_ix, e_slc, e_rev, e_call, e_callK, permL, e_bi, e_isi, e_meth, e_fz, e_fzl, e_sortK, e_isx, e_isb, e_fld, e_callT, e_emp, b_try, isxSem, fldSem, actSem, actOut, catchO, onlyT_at, semEs, semT, semAnd, semOr, semO, semC, semI, R.bind_ok, R.bind_ex, R.bind_bad, R.out_ok, R.out_ex, R.out_bad, thn_nx, thn_ret, thn_brk, thn_ct, thn_ex, thn_bad, val_nx, val_ret, val_ex, tgSem, tgsSem, binSem, addSem, augSem, ixSem, seqOf, lstOf, lstT, newL, cmpSem, cmpInts, cmpI, eqD_int, DV.isNon, biSem, biLen, biInt, biList, biTuple, biTwo, isi_ii, isi_ib, isi_il, isi_it, isi_ll, isi_li, isi_lt, isi_tt, isi_tl, isi_ti, itemsOf, litOf, at0, at1, at2, ix30, ix31, ix32, sl0, sl1, sl2, sl3, sl4, sl5, sl6, sl7, sl8, sl9, sl10, sl11, sl12, sl13, sl14, fnSem, startE, wipeE, eM, prodM_snoc, hc]
  · rintro ρ' s' ⟨rfl, x, y, rfl⟩
    simp [b_nil, b_cons, b_ifs, b_for, b_while, semS, e_lc, e_lc2, e_var, e_int, e_bl, e_non, e_str, e_glob, e_bin, e_neg, e_tst, e_ife, e_tup, e_lst, e_ix, e_slc, e_rev, e_call, e_callK, permL, e_bi, e_isi, e_meth, e_fz, e_fzl, e_sortK, e_isx, e_isb, e_fld, e_callT, e_emp, b_try, isxSem, fldSem, actSem, actOut, catchO, onlyT_at, semEs, semT, semAnd, semOr, semO, semC, semI, R.bind_ok, R.bind_ex, R.bind_bad, R.out_ok, R.out_ex, R.out_bad, thn_nx, thn_ret, thn_brk, thn_ct, thn_ex, thn_bad, val_nx, val_ret, val_ex, tgSem, tgsSem, binSem, addSem, augSem, ixSem, seqOf, lstOf, lstT, newL, cmpSem, cmpInts, cmpI, eqD_int, DV.isNon, biSem, biLen, biInt, biList, biTuple, biTwo, isi_ii, isi_ib, isi_il, isi_it, isi_ll, isi_li, isi_lt, isi_tt, isi_tl, isi_ti, itemsOf, litOf, at0, at1, at2, ix30, ix31, ix32, sl0, sl1, sl2, sl3, sl4, sl5, sl6, sl7, sl8, sl9, sl10, sl11, sl12, sl13, sl14, fnSem, startE, wipeE]
theorem is_axes_ok (s : Sto) (h : List (List Mode)) (h8 : h.length ≤ 8) (hl : h.flatten.length ≤ 200) (hm : ∀ m ∈ h.flatten, okM m) (hp : prodM h.flatten ≤ 10000000000000000000000000000000000000000) : f_is_axes s [eH h] = .ok (.bl true) s := by
  have hsz : sizeLine = 16777216 := rfl
  refine fnD_of ?_ (by rw [bnd])
  have e1 := lcGo_enc (el := lcBd [("axis", 2)] (.name 2) .none (.isi (.var 2) "list") [some (D.lst (h.map eA)), none, none, none]) (e := eA) (f := fun _ => D.bl true) (s := s) h [] (fun a ha => by simp [lcBd, b_nil, b_cons, b_ifs, b_for, b_while, semS, e_lc, e_lc2, e_var, e_int, e_bl, e_non, e_str, e_glob, e_bin, e_neg, e_tst, e_ife, e_tup, e_lst, e_ix, e_slc, e_rev, e_call, e_callK, permL, e_bi, e_isi, e_meth, e_fz, e_fzl, e_sortK, e_isx, e_isb, e_fld, e_callT, e_emp, b_try, isxSem, fldSem, actSem, actOut, catchO, onlyT_at, semEs, semT, semAnd, semOr, semO, semC, semI, R.bind_ok, R.bind_ex, R.bind_bad, R.out_ok, R.out_ex, R.out_bad, thn_nx, thn_ret, thn_brk, thn_ct, thn_ex, thn_bad, val_nx, val_ret, val_ex, tgSem, tgsSem, binSem, addSem, augSem, ixSem, seqOf, lstOf, lstT, newL, cmpSem, cmpInts, cmpI, eqD_int, DV.isNon, biSem, biLen, biInt, biList, biTuple, biTwo, isi_ii, isi_ib, isi_il, isi_it, isi_ll, isi_li, isi_lt, isi_tt, isi_tl, isi_ti, itemsOf, litOf, at0, at1, at2, ix30, ix31, ix32, sl0, sl1, sl2, sl3, sl4, sl5, sl6, sl7, sl8, sl9, sl10, sl11, sl12, sl13, sl14, fnSem, startE, wipeE, eA])
  have e2 : ∀ l : List Mode, (∀ m ∈ l, okM m) → lcGo (lcBd [("mode", 3)] (.name 3) .none (.call "is_mode" 1 f_is_mode (.cons (.var 3) .nil)) [some (D.lst (h.map eA)), some (D.lst (l.map eM)), none, none]) (l.map eM) s [] = .ok (l.map fun _ => D.bl true) s := fun l hl =>
    (lcGo_enc (e := eM) (f := fun _ => D.bl true) l [] (fun m hm' => by simp [lcBd, b_nil, b_cons, b_ifs, b_for, b_while, semS, e_lc, e_lc2, e_var, e_int, e_bl, e_non, e_str, e_glob, e_bin, e_neg, e_tst, e_ife, e_tup, e_lst, e_ix, e_slc, e_rev, e_call, e_callK, permL, e_bi, e_isi, e_meth, e_fz, e_fzl, e_sortK, e_isx, e_isb, e_fld, e_callT, e_emp, b_try, isxSem, fldSem, actSem, actOut, catchO, onlyT_at, semEs, semT, semAnd, semOr, semO, semC, semI, R.bind_ok, R.bind_ex, R.bind_bad, R.out_ok, R.out_ex, R.out_bad, thn_nx, thn_ret, thn_brk, thn_ct, thn_ex, thn_bad, val_nx, val_ret, val_ex, tgSem, tgsSem, binSem, addSem, augSem, ixSem, seqOf, lstOf, lstT, newL, cmpSem, cmpInts, cmpI, eqD_int, DV.isNon, biSem, biLen, biInt, biList, biTuple, biTwo, isi_ii, isi_ib, isi_il, isi_it, isi_ll, isi_li, isi_lt, isi_tt, isi_tl, isi_ti, itemsOf, litOf, at0, at1, at2, ix30, ix31, ix32, sl0, sl1, sl2, sl3, sl4, sl5, sl6, sl7, sl8, sl9, sl10, sl11, sl12, sl13, sl14, fnSem, startE, wipeE, is_mode_ok s m (hl m hm')])).trans (by simp)
  have b1 : ∀ {α : Type} (l : List α), boolsOf (l.map fun _ => D.bl true) = some (l.map fun _ => true) := fun l => by
    have := boolsOf_map (l.map fun _ => true)
    rwa [List.map_map] at this
  have m1 := modes_of_ok s h (by omega)
  have r1 := raw_size_ok s h hl hm
  have hl' : ¬ (200 : Int) < (h.flatten.length : Int) := by omega
  have h8' : ¬ (8 : Int) < (h.length : Int) := by omega
  have z1 : h.length ≤ sizeLine := by omega
  have z2 : h.flatten.length ≤ sizeLine := by omega
  have e2 := e2 h.flatten hm
  have m1 : f_modes_of s [D.lst (h.map eA)] = .ok (.lst (h.flatten.map eM)) s := m1
  unfold eH at *
  generalize h.flatten = l at *
  simp [b_nil, b_cons, b_ifs, b_for, b_while, semS, e_lc, e_lc2, e_var, e_int, e_bl, e_non, e_str, e_glob, e_bin, e_neg, e_tst, e_ife, e_tup, e_lst, e_ix, e_slc, e_rev, e_call, e_callK, permL, e_bi, e_isi, e_meth, e_fz, e_fzl, e_sortK, e_isx, e_isb, e_fld, e_callT, e_emp, b_try, isxSem, fldSem, actSem, actOut, catchO, onlyT_at, semEs, semT, semAnd, semOr, semO, semC, semI, R.bind_ok, R.bind_ex, R.bind_bad, R.out_ok, R.out_ex, R.out_bad, thn_nx, thn_ret, thn_brk, thn_ct, thn_ex, thn_bad, val_nx, val_ret, val_ex, tgSem, tgsSem, binSem, addSem, augSem, ixSem, seqOf, lstOf, lstT, newL, cmpSem, cmpInts, cmpI, eqD_int, DV.isNon, biSem, biLen, biInt, biList, biTuple, biTwo, isi_ii, isi_ib, isi_il, isi_it, isi_ll, isi_li, isi_lt, isi_tt, isi_tl, isi_ti, itemsOf, litOf, at0, at1, at2, ix30, ix31, ix32, sl0, sl1, sl2, sl3, sl4, sl5, sl6, sl7, sl8, sl9, sl10, sl11, sl12, sl13, sl14, fnSem, startE, wipeE, N_is_axes, ir_is_axes, e1, m1, r1, e2, biBools, b1, h8', hl', hp, z1, z2]
/-- what all modes reach below nothing -/
def lowM (l : List Mode) : Int := ((l.map fun m => (m.1 - 1) * m.2).filter fun r => decide (r < 0)).sum
def upM (l : List Mode) : Int := ((l.map fun m => (m.1 - 1) * m.2).filter fun r => decide (0 < r)).sum
theorem raw_reach_ok (s : Sto) (h : List (List Mode)) (hl : h.flatten.length ≤ 200) (hm : ∀ m ∈ h.flatten, okM m) : f_raw_reach s [eH h] = .ok (.tup [.int (lowM h.flatten), .int (upM h.flatten)]) s := by
  have hsz : sizeLine = 16777216 := rfl
  refine fnD_of ?_ (by simp [bnd, bnds])
  have m1 : f_modes_of s [D.lst (h.map eA)] = .ok (.lst (h.flatten.map eM)) s := modes_of_ok s h (by omega)
  unfold eH
  generalize h.flatten = l at *
  simp [b_nil, b_cons, b_ifs, b_for, b_while, semS, e_lc, e_lc2, e_var, e_int, e_bl, e_non, e_str, e_glob, e_bin, e_neg, e_tst, e_ife, e_tup, e_lst, e_ix, e_slc, e_rev, e_call, e_callK, permL, e_bi, e_isi, e_meth, e_fz, e_fzl, e_sortK, e_isx, e_isb, e_fld, e_callT, e_emp, b_try, isxSem, fldSem, actSem, actOut, catchO, onlyT_at, semEs, semT, semAnd, semOr, semO, semC, semI, R.bind_ok, R.bind_ex, R.bind_bad, R.out_ok, R.out_ex, R.out_bad, thn_nx, thn_ret, thn_brk, thn_ct, thn_ex, thn_bad, val_nx, val_ret, val_ex, tgSem, tgsSem, binSem, addSem, augSem, ixSem, seqOf, lstOf, lstT, newL, cmpSem, cmpInts, cmpI, eqD_int, DV.isNon, biSem, biLen, biInt, biList, biTuple, biTwo, isi_ii, isi_ib, isi_il, isi_it, isi_ll, isi_li, isi_lt, isi_tt, isi_tl, isi_ti, itemsOf, litOf, at0, at1, at2, ix30, ix31, ix32, sl0, sl1, sl2, sl3, sl4, sl5, sl6, sl7, sl8, sl9, sl10, sl11, sl12, sl13, sl14, fnSem, startE, wipeE, N_raw_reach, ir_raw_reach, m1]
  have hl' : l.length ≤ sizeLine := by omega
  rw [if_pos hl', lcGo_enc (f := fun m : Mode => D.int ((m.1 - 1) * m.2)) l []]
  · have e : (l.map fun m : Mode => D.int ((m.1 - 1) * m.2)) = (l.map fun m : Mode => (m.1 - 1) * m.2).map D.int := by rw [List.map_map]; rfl
    simp only [b_nil, b_cons, b_ifs, b_for, b_while, semS, e_lc, e_lc2, e_var, e_int, e_bl, e_non, e_str, e_glob, e_bin, e_neg, e_tst, e_ife, e_tup, e_lst, e_ix, e_slc, e_rev, e_call, e_callK, permL, e_bi, e_isi, e_meth, e_fz, e_fzl, e_sortK, e_isx, e_isb, e_fld, e_callT, e_emp, b_try, isxSem, fldSem, actSem, actOut, catchO, onlyT_at, semEs, semT, semAnd, semOr, semO, semC, semI, R.bind_ok, R.bind_ex, R.bind_bad, R.out_ok, R.out_ex, R.out_bad, thn_nx, thn_ret, thn_brk, thn_ct, thn_ex, thn_bad, val_nx, val_ret, val_ex, tgSem, tgsSem, binSem, addSem, augSem, ixSem, seqOf, lstOf, lstT, newL, cmpSem, cmpInts, cmpI, eqD_int, DV.isNon, biSem, biLen, biInt, biList, biTuple, biTwo, isi_ii, isi_ib, isi_il, isi_it, isi_ll, isi_li, isi_lt, isi_tt, isi_tl, isi_ti, itemsOf, litOf, at0, at1, at2, ix30, ix31, ix32, sl0, sl1, sl2, sl3, sl4, sl5, sl6, sl7, sl8, sl9, sl10, sl11, sl12, sl13, sl14, fnSem, startE, wipeE, List.nil_append, e]
    have hr : (l.map fun m : Mode => (m.1 - 1) * m.2).length ≤ sizeLine := by rw [List.length_map]; omega
    unfold lowM upM
    generalize (l.map fun m : Mode => (m.1 - 1) * m.2) = rs at *
    simp [b_nil, b_cons, b_ifs, b_for, b_while, semS, e_lc, e_lc2, e_var, e_int, e_bl, e_non, e_str, e_glob, e_bin, e_neg, e_tst, e_ife, e_tup, e_lst, e_ix, e_slc, e_rev, e_call, e_callK, permL, e_bi, e_isi, e_meth, e_fz, e_fzl, e_sortK, e_isx, e_isb, e_fld, e_callT, e_emp, b_try, isxSem, fldSem, actSem, actOut, catchO, onlyT_at, semEs, semT, semAnd, semOr, semO, semC, semI, R.bind_ok, R.bind_ex, R.bind_bad, R.out_ok, R.out_ex, R.out_bad, thn_nx, thn_ret, thn_brk, thn_ct, thn_ex, thn_bad, val_nx, val_ret, val_ex, tgSem, tgsSem, binSem, addSem, augSem, ixSem, seqOf, lstOf, lstT, newL, cmpSem, cmpInts, cmpI, eqD_int, DV.isNon, biSem, biLen, biInt, biList, biTuple, biTwo, isi_ii, isi_ib, isi_il, isi_it, isi_ll, isi_li, isi_lt, isi_tt, isi_tl, isi_ti, itemsOf, litOf, at0, at1, at2, ix30, ix31, ix32, sl0, sl1, sl2, sl3, sl4, sl5, sl6, sl7, sl8, sl9, sl10, sl11, sl12, sl13, sl14, fnSem, startE, wipeE, hr]
    rw [lcGo_filter (p := fun r : Int => decide (r < 0)) (f := D.int) rs []]
    · simp [b_nil, b_cons, b_ifs, b_for, b_while, semS, e_lc, e_lc2, e_var, e_int, e_bl, e_non, e_str, e_glob, e_bin, e_neg, e_tst, e_ife, e_tup, e_lst, e_ix, e_slc, e_rev, e_call, e_callK, permL, e_bi, e_isi, e_meth, e_fz, e_fzl, e_sortK, e_isx, e_isb, e_fld, e_callT, e_emp, b_try, isxSem, fldSem, actSem, actOut, catchO, onlyT_at, semEs, semT, semAnd, semOr, semO, semC, semI, R.bind_ok, R.bind_ex, R.bind_bad, R.out_ok, R.out_ex, R.out_bad, thn_nx, thn_ret, thn_brk, thn_ct, thn_ex, thn_bad, val_nx, val_ret, val_ex, tgSem, tgsSem, binSem, addSem, augSem, ixSem, seqOf, lstOf, lstT, newL, cmpSem, cmpInts, cmpI, eqD_int, DV.isNon, biSem, biLen, biInt, biList, biTuple, biTwo, isi_ii, isi_ib, isi_il, isi_it, isi_ll, isi_li, isi_lt, isi_tt, isi_tl, isi_ti, itemsOf, litOf, at0, at1, at2, ix30, ix31, ix32, sl0, sl1, sl2, sl3, sl4, sl5, sl6, sl7, sl8, sl9, sl10, sl11, sl12, sl13, sl14, fnSem, startE, wipeE, biInts, intsOf_map]
      rw [lcGo_filter (p := fun r : Int => decide (0 < r)) (f := D.int) rs []]
      · simp [b_nil, b_cons, b_ifs, b_for, b_while, semS, e_lc, e_lc2, e_var, e_int, e_bl, e_non, e_str, e_glob, e_bin, e_neg, e_tst, e_ife, e_tup, e_lst, e_ix, e_slc, e_rev, e_call, e_callK, permL, e_bi, e_isi, e_meth, e_fz, e_fzl, e_sortK, e_isx, e_isb, e_fld, e_callT, e_emp, b_try, isxSem, fldSem, actSem, actOut, catchO, onlyT_at, semEs, semT, semAnd, semOr, semO, semC, semI, R.bind_ok, R.bind_ex, R.bind_bad, R.out_ok, R.out_ex, R.out_bad, thn_nx, thn_ret, thn_brk, thn_ct, thn_ex, thn_bad, val_nx, val_ret, val_ex, tgSem, tgsSem, binSem, addSem, augSem, ixSem, seqOf, lstOf, lstT, newL, cmpSem, cmpInts, cmpI, eqD_int, DV.isNon, biSem, biLen, biInt, biList, biTuple, biTwo, isi_ii, isi_ib, isi_il, isi_it, isi_ll, isi_li, isi_lt, isi_tt, isi_tl, isi_ti, itemsOf, litOf, at0, at1, at2, ix30, ix31, ix32, sl0, sl1, sl2, sl3, sl4, sl5, sl6, sl7, sl8, sl9, sl10, sl11, sl12, sl13, sl14, fnSem, startE, wipeE, biInts, intsOf_map]
      · intro r hr
        by_cases h0 : 0 < r <;> simp [lcBd, b_nil, b_cons, b_ifs, b_for, b_while, semS, e_lc, e_lc2, e_var, e_int, e_bl, e_non, e_str, e_glob, e_bin, e_neg, e_tst, e_ife, e_tup, e_lst, e_ix, e_slc, e_rev, e_call, e_callK, permL, e_bi, e_isi, e_meth, e_fz, e_fzl, e_sortK, e_isx, e_isb, e_fld, e_callT, e_emp, b_try, isxSem, fldSem, actSem, actOut, catchO, onlyT_at, semEs, semT, semAnd, semOr, semO, semC, semI, R.bind_ok, R.bind_ex, R.bind_bad, R.out_ok, R.out_ex, R.out_bad, thn_nx, thn_ret, thn_brk, thn_ct, thn_ex, thn_bad, val_nx, val_ret, val_ex, tgSem, tgsSem, binSem, addSem, augSem, ixSem, seqOf, lstOf, lstT, newL, cmpSem, cmpInts, cmpI, eqD_int, DV.isNon, biSem, biLen, biInt, biList, biTuple, biTwo, isi_ii, isi_ib, isi_il, isi_it, isi_ll, isi_li, isi_lt, isi_tt, isi_tl, isi_ti, itemsOf, litOf, at0, at1, at2, ix30, ix31, ix32, sl0, sl1, sl2, sl3, sl4, sl5, sl6, sl7, sl8, sl9, sl10, sl11, sl12, sl13, sl14, fnSem, startE, wipeE, h0]
    · intro r hr
      by_cases h0 : r < 0 <;> simp [lcBd, b_nil, b_cons, b_ifs, b_for, b_while, semS, e_lc, e_lc2, e_var, e_int, e_bl, e_non, e_str, e_glob, e_bin, e_neg, e_tst, e_ife, e_tup, e_lst, e_ix, e_slc, e_rev, e_call, e_callK, permL, e_bi, e_isi, e_meth, e_fz, e_fzl, e_sortK, e_isx, e_isb, e_fld, e_callT, e_emp, b_try, isxSem, fldSem, actSem, actOut, catchO, onlyT_at, semEs, semT, semAnd, semOr, semO, semC, semI, R.bind_ok, R.bind_ex, R.bind_bad, R.out_ok, R.out_ex, R.out_bad, thn_nx, thn_ret, thn_brk, thn_ct, thn_ex, thn_bad, val_nx, val_ret, val_ex, tgSem, tgsSem, binSem, addSem, augSem, ixSem, seqOf, lstOf, lstT, newL, cmpSem, cmpInts, cmpI, eqD_int, DV.isNon, biSem, biLen, biInt, biList, biTuple, biTwo, isi_ii, isi_ib, isi_il, isi_it, isi_ll, isi_li, isi_lt, isi_tt, isi_tl, isi_ti, itemsOf, litOf, at0, at1, at2, ix30, ix31, ix32, sl0, sl1, sl2, sl3, sl4, sl5, sl6, sl7, sl8, sl9, sl10, sl11, sl12, sl13, sl14, fnSem, startE, wipeE, h0]
  · intro m hm'
    have hc : CMulW (m.1 - 1) m.2 := mulW_of (a := 135) (b := 200) (by
      have := okM_lt (hm m hm')
      have e : (2 : Nat) ^ 135 = 2 * 2 ^ 134 := by decide +kernel
      omega) (okM_lt2 (hm m hm')) (by decide)
    simp [lcBd, b_nil, b_cons, b_ifs, b_for, b_while, semS, e_lc, e_lc2, e_var, e_int, e_bl, e_non, e_str, e_glob, e_bin, e_neg, e_tst, e_ife, e_tup, e_lst, e_ix, e_slc, e_rev, e_call, e_callK, permL, e_bi, e_isi, e_meth, e_fz, e_fzl, e_sortK, e_isx, e_isb, e_fld, e_callT, e_emp, b_try, isxSem, fldSem, actSem, actOut, catchO, onlyT_at, semEs, semT, semAnd, semOr, semO, semC, semI, R.bind_ok, R.bind_ex, R.bind_bad, R.out_ok, R.out_ex, R.out_bad, thn_nx, thn_ret, thn_brk, thn_ct, thn_ex, thn_bad, val_nx, val_ret, val_ex, tgSem, tgsSem, binSem, addSem, augSem, ixSem, seqOf, lstOf, lstT, newL, cmpSem, cmpInts, cmpI, eqD_int, DV.isNon, biSem, biLen, biInt, biList, biTuple, biTwo, isi_ii, isi_ib, isi_il, isi_it, isi_ll, isi_li, isi_lt, isi_tt, isi_tl, isi_ti, itemsOf, litOf, at0, at1, at2, ix30, ix31, ix32, sl0, sl1, sl2, sl3, sl4, sl5, sl6, sl7, sl8, sl9, sl10, sl11, sl12, sl13, sl14, fnSem, startE, wipeE, eM, hc]
end PF
namespace PF
open PySem PySem.Spec L2 DV
/-! ### the chain -/
def chainR : List Mode → Int → List (List Int)
  | [], _ => []
  | m :: r, u => (if 1 < m.1 then [[m.2, m.1, u]] else []) ++ chainR r (u * m.1)
theorem fold_mul (l : List Mode) : ∀ u v : Int, l.foldl (fun f m => f * m.1) (u * v) = u * l.foldl (fun f m => f * m.1) v := by
  induction l with
  | nil => intro u v; rfl
  | cons m r ih => intro u v; simp only [List.foldl_cons]; rw [Int.mul_assoc, ih]
theorem prodM_cons (m : Mode) (l : List Mode) : prodM (m :: l) = m.1 * prodM l := by
  have := fold_mul l m.1 1
  unfold prodM
  rw [List.foldl_cons, Int.one_mul, ← this, Int.mul_one]
theorem chainR_snoc (m : Mode) : ∀ (l : List Mode) (u : Int), chainR (l ++ [m]) u = chainR l u ++ if 1 < m.1 then [[m.2, m.1, u * prodM l]] else []
  | [], u => by simp [chainR, prodM]
  | x :: l, u => by
    rw [List.cons_append, chainR, chainR_snoc m l, chainR, prodM_cons, Int.mul_assoc, List.append_assoc]
theorem chainR_len : ∀ (l : List Mode) (u : Int), (chainR l u).length ≤ l.length
  | [], u => by simp [chainR]
  | x :: l, u => by
    have := chainR_len l (u * x.1)
    rw [chainR, List.length_append, List.length_cons]
    split <;> simp <;> omega
theorem chainR_three : ∀ (l : List Mode) (u : Int), ∀ r ∈ chainR l u, ∃ t n v, r = [t, n, v]
  | [], u, r, h => by simp [chainR] at h
  | x :: l, u, r, h => by
    rw [chainR] at h
    rcases List.mem_append.mp h with h | h
    · split at h
      · simp at h
        exact ⟨_, _, _, h⟩
      · simp at h
    · exact chainR_three l _ r h
theorem cell_last (s : Sto) (c : Cell) : (s ++ [c])[s.length]? = some c := by simp
theorem set_last (s : Sto) (c c' : Cell) : (s ++ [c]).set s.length c' = s ++ [c'] := by simp [List.set_append]
theorem chain_ok (s : Sto) (h : List (List Mode)) (hl : h.flatten.length ≤ 200) (hm : ∀ m ∈ h.flatten, okM m) : f_chain_of s [eH h] = .ok (.lst ((sortT (chainR h.flatten 1)).map ofInts)) s := by
  have hsz : sizeLine = 16777216 := rfl
  have hb : bnd s.length (.lst ((sortT (chainR h.flatten 1)).map ofInts)) = true := by
    rw [bnd]
    refine bnds_of fun d hd => ?_
    obtain ⟨r, _, rfl⟩ := List.mem_map.mp hd
    rw [ofInts, bnd]
    exact bnds_ints r
  refine fnD_app (junk := [.lst ((chainR h.flatten 1).map ofInts)]) ?_ hb
  have m1 : f_modes_of s [D.lst (h.map eA)] = .ok (.lst (h.flatten.map eM)) s := modes_of_ok s h (by omega)
  have m1 : ∀ c, f_modes_of (s ++ [c]) [D.lst (h.map eA)] = .ok (.lst (h.flatten.map eM)) (s ++ [c]) := fun c => modes_of_ok _ h (by omega)
  unfold eH
  generalize h.flatten = l at *
  simp [b_nil, b_cons, b_ifs, b_for, b_while, semS, e_lc, e_lc2, e_var, e_int, e_bl, e_non, e_str, e_glob, e_bin, e_neg, e_tst, e_ife, e_tup, e_lst, e_ix, e_slc, e_rev, e_call, e_callK, permL, e_bi, e_isi, e_meth, e_fz, e_fzl, e_sortK, e_isx, e_isb, e_fld, e_callT, e_emp, b_try, isxSem, fldSem, actSem, actOut, catchO, onlyT_at, semEs, semT, semAnd, semOr, semO, semC, semI, R.bind_ok, R.bind_ex, R.bind_bad, R.out_ok, R.out_ex, R.out_bad, thn_nx, thn_ret, thn_brk, thn_ct, thn_ex, thn_bad, val_nx, val_ret, val_ex, tgSem, tgsSem, binSem, addSem, augSem, ixSem, seqOf, lstOf, lstT, newL, cmpSem, cmpInts, cmpI, eqD_int, DV.isNon, biSem, biLen, biInt, biList, biTuple, biTwo, isi_ii, isi_ib, isi_il, isi_it, isi_ll, isi_li, isi_lt, isi_tt, isi_tl, isi_ti, itemsOf, litOf, at0, at1, at2, ix30, ix31, ix32, sl0, sl1, sl2, sl3, sl4, sl5, sl6, sl7, sl8, sl9, sl10, sl11, sl12, sl13, sl14, fnSem, startE, wipeE, N_chain_of, ir_chain_of, m1]
  refine pre_k (fun o => (o.thn _).val = _) (fun b ρ s' => s' = s ++ [.lst ((chainR b 1).map ofInts)] ∧ ∃ x y, ρ = [some (.lst (h.map eA)), some (.obj s.length), some (.int (prodM b)), x, y]) ⟨rfl, _, _, rfl⟩ ?_ ?_
  · rintro pre m post rfl ρ s' ⟨rfl, x, y, rfl⟩
    refine ⟨_, _, .inl ?_, rfl, some (.int m.1), some (.int m.2), rfl⟩
    have hc : CMulW (prodM pre) m.1 := mulW_of (prodM_lt pre fun x hx => hm x (List.mem_append_left _ hx)) (okM_lt (hm m (by simp))) (by simp at hl; omega)
    have hlt : (chainR pre 1).length < sizeLine := by
      have := chainR_len pre 1
      simp at hl
      omega
    by_cases h1 : 1 < m.1
    · simp [forBd_at, b_nil, b_cons, b_ifs, b_for, b_while, semS, e_lc, e_lc2, e_var, e_int, e_bl, e_non, e_str, e_glob, e_bin, e_neg, e_tst, e_ife, e_tup, e_lst, e_ix, e_slc, e_rev, e_call, e_callK, permL, e_bi, e_isi, e_meth, e_fz, e_fzl, e_sortK, e_isx, e_isb, e_fld, e_callT, e_emp, b_try, isxSem, fldSem, actSem, actOut, catchO, onlyT_at, semEs, semT, semAnd, semOr, semO, semC, semI, R.bind_ok, R.bind_ex, R.bind_bad, R.out_ok, R.out_ex, R.out_bad, thn_nx, thn_ret, thn_brk, thn_ct, thn_ex, thn_bad, val_nx, val_ret, val_ex, tgSem, tgsSem, binSem, addSem, augSem, ixSem, seqOf, lstOf, lstT, newL, cmpSem, cmpInts, cmpI, eqD_int, DV.isNon, biSem, biLen, biInt, biList, biTuple, biTwo, isi_ii, isi_ib, isi_il, isi_it, isi_ll, isi_li, isi_lt, isi_tt, isi_tl, isi_ti, itemsOf, litOf, at0, at1, at2, ix30, ix31, ix32, sl0, sl1, sl2, sl3, sl4, sl5, sl6, sl7, sl8, sl9, sl10, sl11, sl12, sl13, sl14, fnSem, startE, wipeE, eM, h1, cell_last, meSem, meAppend, prodM_snoc, hc, chainR_snoc, set_last, ofInts, hlt]
    · simp [forBd_at, b_nil, b_cons, b_ifs, b_for, b_while, semS, e_lc, e_lc2, e_var, e_int, e_bl, e_non, e_str, e_glob, e_bin, e_neg, e_tst, e_ife, e_tup, e_lst, e_ix, e_slc, e_rev, e_call, e_callK, permL, e_bi, e_isi, e_meth, e_fz, e_fzl, e_sortK, e_isx, e_isb, e_fld, e_callT, e_emp, b_try, isxSem, fldSem, actSem, actOut, catchO, onlyT_at, semEs, semT, semAnd, semOr, semO, semC, semI, R.bind_ok, R.bind_ex, R.bind_bad, R.out_ok, R.out_ex, R.out_bad, thn_nx, thn_ret, thn_brk, thn_ct, thn_ex, thn_bad, val_nx, val_ret, val_ex, tgSem, tgsSem, binSem, addSem, augSem, ixSem, seqOf, lstOf, lstT, newL, cmpSem, cmpInts, cmpI, eqD_int, DV.isNon, biSem, biLen, biInt, biList, biTuple, biTwo, isi_ii, isi_ib, isi_il, isi_it, isi_ll, isi_li, isi_lt, isi_tt, isi_tl, isi_ti, itemsOf, litOf, at0, at1, at2, ix30, ix31, ix32, sl0, sl1, sl2, sl3, sl4, sl5, sl6, sl7, sl8, sl9, sl10, sl11, sl12, sl13, sl14, fnSem, startE, wipeE, eM, h1, cell_last, meSem, meAppend, prodM_snoc, hc, chainR_snoc, set_last, ofInts, hlt]
  · rintro ρ' s' ⟨rfl, x, y, rfl⟩
    have hq : (chainR l 1).length ≤ sizeLine := by
      have := chainR_len l 1
      omega
    have hne : noneEmpty (chainR l 1) = true := by
      unfold noneEmpty
      rw [List.all_eq_true]
      intro r hr
      obtain ⟨_, _, _, rfl⟩ := chainR_three l 1 r hr
      rfl
    simp [b_nil, b_cons, b_ifs, b_for, b_while, semS, e_lc, e_lc2, e_var, e_int, e_bl, e_non, e_str, e_glob, e_bin, e_neg, e_tst, e_ife, e_tup, e_lst, e_ix, e_slc, e_rev, e_call, e_callK, permL, e_bi, e_isi, e_meth, e_fz, e_fzl, e_sortK, e_isx, e_isb, e_fld, e_callT, e_emp, b_try, isxSem, fldSem, actSem, actOut, catchO, onlyT_at, semEs, semT, semAnd, semOr, semO, semC, semI, R.bind_ok, R.bind_ex, R.bind_bad, R.out_ok, R.out_ex, R.out_bad, thn_nx, thn_ret, thn_brk, thn_ct, thn_ex, thn_bad, val_nx, val_ret, val_ex, tgSem, tgsSem, binSem, addSem, augSem, ixSem, seqOf, lstOf, lstT, newL, cmpSem, cmpInts, cmpI, eqD_int, DV.isNon, biSem, biLen, biInt, biList, biTuple, biTwo, isi_ii, isi_ib, isi_il, isi_it, isi_ll, isi_li, isi_lt, isi_tt, isi_tl, isi_ti, itemsOf, litOf, at0, at1, at2, ix30, ix31, ix32, sl0, sl1, sl2, sl3, sl4, sl5, sl6, sl7, sl8, sl9, sl10, sl11, sl12, sl13, sl14, fnSem, startE, wipeE, cell_last, biSorted, tupsOf_map, hq, hne]
/-! ### the answer -/
inductive Ans where
  | full | out (i : Int) | gap (i : Int) | twice (i : Int)
def eAns : Ans → D
  | .full => .non
  | .out i => .tup [.str "out", .int i]
  | .gap i => .tup [.str "none", .int i]
  | .twice i => .tup [.str "twice", .int i]
theorem bnd_eAns {m : Nat} (a : Ans) : bnd m (eAns a) = true := by cases a <;> simp [eAns, bnd, bnds]
/-- rows in order, from an end on -/
def walkL : List (List Int) → Int → Ans
  | [], _ => .full
  | r :: rs, e => match r with
    | t :: n :: _ => if t = e then walkL rs (e * n) else if e < t then .gap e else .twice t
    | _ => .full
def pairs (l : List Mode) : List (List Int) := (l.filter fun m => decide (1 < m.1)).map fun m => [m.2, m.1]
def ansOf (l : List Mode) : Ans := if lowM l < 0 then .out (lowM l) else walkL (sortT (pairs l)) 1
theorem chainR_pairs : ∀ (l : List Mode) (u : Int), (chainR l u).map (List.take 2) = pairs l
  | [], u => rfl
  | m :: l, u => by
    have ih := chainR_pairs l (u * m.1)
    unfold pairs at *
    rw [chainR, List.map_append, ih]
    by_cases h : 1 < m.1 <;> simp [h]
theorem lex_take {a b : List Int} : HT.lexLt b a = false → HT.lexLt (b.take 2) (a.take 2) = false := by
  intro h
  match a, b with
  | [], [] => rfl
  | [], y :: b => rfl
  | x :: a, [] => simp [HT.lexLt] at h
  | x :: a, y :: b =>
    simp only [List.take_succ_cons, HT.lexLt] at h ⊢
    split at h
    · rename_i e
      rw [if_pos e]
      match a, b with
      | [], [] => rfl
      | [], z :: b => rfl
      | w :: a, [] => simp [HT.lexLt] at h
      | w :: a, z :: b =>
        simp only [List.take_succ_cons, HT.lexLt, List.take_zero] at h ⊢
        split at h
        · rename_i e
          rw [if_pos e]
        · rename_i e
          rw [if_neg e]
          exact h
    · rename_i e
      rw [if_neg e]
      exact h
theorem sort_take (l : List Mode) (u : Int) : (sortT (chainR l u)).map (List.take 2) = sortT (pairs l) := by
  refine sortT_uniq ?_ ?_
  · rw [← chainR_pairs l u]
    exact (sortT_perm _).map _
  · rw [List.pairwise_map]
    refine (sortT_sorted (chainR l u)).imp fun h => ?_
    unfold lexLe at h
    rw [Bool.not_eq_true'] at h
    exact lex_take h
theorem walk_take : ∀ (rs : List (List Int)) (e : Int), (∀ r ∈ rs, ∃ t n v, r = [t, n, v]) → walkL (rs.map (List.take 2)) e = walkL rs e
  | [], e, _ => rfl
  | r :: rs, e, h => by
    obtain ⟨t, n, v, rfl⟩ := h r (List.mem_cons_self ..)
    rw [List.map_cons]
    simp only [List.take, walkL]
    rw [walk_take rs _ fun x hx => h x (List.mem_cons_of_mem _ hx)]
theorem pairs_mem {l : List Mode} {r : List Int} (h : r ∈ pairs l) : ∃ m ∈ l, 1 < m.1 ∧ r = [m.2, m.1] := by
  unfold pairs at h
  obtain ⟨m, hm, rfl⟩ := List.mem_map.mp h
  rw [List.mem_filter] at hm
  exact ⟨m, hm.1, of_decide_eq_true hm.2, rfl⟩
end PF

namespace PF
open PySem PySem.Spec L2 DV
/-! ### holding -/
/-- the end stays small enough -/
def sizesOk (rs : List (List Int)) : Prop := ∀ r ∈ rs, ∃ t n v, r = t :: n :: v ∧ n.natAbs < 2 ^ 134
theorem holding_of_ok (s : Sto) (h : List (List Mode)) (hl : h.flatten.length ≤ 200) (hm : ∀ m ∈ h.flatten, okM m) : f_holding_of s [eH h] = .ok (eAns (ansOf h.flatten)) s := by
  have hsz : sizeLine = 16777216 := rfl
  refine fnD_of ?_ (bnd_eAns _)
  have m1 := raw_reach_ok s h hl hm
  have m2 := chain_ok s h hl hm
  have hthree := chainR_three h.flatten 1
  have hsort := sort_take h.flatten 1
  have hlen := chainR_len h.flatten 1
  have hn : ∀ r ∈ chainR h.flatten 1, ∀ t n v, r = [t, n, v] → n.natAbs < 2 ^ 134 := by
    intro r hr t n v e
    subst e
    have h2 : ([t, n] : List Int) ∈ pairs h.flatten := by
      rw [← chainR_pairs h.flatten 1]
      exact List.mem_map.mpr ⟨_, hr, rfl⟩
    obtain ⟨m, hm', _, e⟩ := pairs_mem h2
    cases e
    exact okM_lt (hm m hm')
  unfold eH at *
  unfold ansOf
  generalize h.flatten = l at *
  by_cases h0 : lowM l < 0
  · simp [b_nil, b_cons, b_ifs, b_for, b_while, semS, e_lc, e_lc2, e_var, e_int, e_bl, e_non, e_str, e_glob, e_bin, e_neg, e_tst, e_ife, e_tup, e_lst, e_ix, e_slc, e_rev, e_call, e_callK, permL, e_bi, e_isi, e_meth, e_fz, e_fzl, e_sortK, e_isx, e_isb, e_fld, e_callT, e_emp, b_try, isxSem, fldSem, actSem, actOut, catchO, onlyT_at, semEs, semT, semAnd, semOr, semO, semC, semI, R.bind_ok, R.bind_ex, R.bind_bad, R.out_ok, R.out_ex, R.out_bad, thn_nx, thn_ret, thn_brk, thn_ct, thn_ex, thn_bad, val_nx, val_ret, val_ex, tgSem, tgsSem, binSem, addSem, augSem, ixSem, seqOf, lstOf, lstT, newL, cmpSem, cmpInts, cmpI, eqD_int, DV.isNon, biSem, biLen, biInt, biList, biTuple, biTwo, isi_ii, isi_ib, isi_il, isi_it, isi_ll, isi_li, isi_lt, isi_tt, isi_tl, isi_ti, itemsOf, litOf, at0, at1, at2, ix30, ix31, ix32, sl0, sl1, sl2, sl3, sl4, sl5, sl6, sl7, sl8, sl9, sl10, sl11, sl12, sl13, sl14, fnSem, startE, wipeE, N_holding_of, ir_holding_of, m1, h0, eAns, show atI [D.int (lowM l), D.int (upM l)] 0 = some (.int (lowM l)) from rfl]
  · simp [b_nil, b_cons, b_ifs, b_for, b_while, semS, e_lc, e_lc2, e_var, e_int, e_bl, e_non, e_str, e_glob, e_bin, e_neg, e_tst, e_ife, e_tup, e_lst, e_ix, e_slc, e_rev, e_call, e_callK, permL, e_bi, e_isi, e_meth, e_fz, e_fzl, e_sortK, e_isx, e_isb, e_fld, e_callT, e_emp, b_try, isxSem, fldSem, actSem, actOut, catchO, onlyT_at, semEs, semT, semAnd, semOr, semO, semC, semI, R.bind_ok, R.bind_ex, R.bind_bad, R.out_ok, R.out_ex, R.out_bad, thn_nx, thn_ret, thn_brk, thn_ct, thn_ex, thn_bad, val_nx, val_ret, val_ex, tgSem, tgsSem, binSem, addSem, augSem, ixSem, seqOf, lstOf, lstT, newL, cmpSem, cmpInts, cmpI, eqD_int, DV.isNon, biSem, biLen, biInt, biList, biTuple, biTwo, isi_ii, isi_ib, isi_il, isi_it, isi_ll, isi_li, isi_lt, isi_tt, isi_tl, isi_ti, itemsOf, litOf, at0, at1, at2, ix30, ix31, ix32, sl0, sl1, sl2, sl3, sl4, sl5, sl6, sl7, sl8, sl9, sl10, sl11, sl12, sl13, sl14, fnSem, startE, wipeE, N_holding_of, ir_holding_of, m1, h0, m2, show atI [D.int (lowM l), D.int (upM l)] 0 = some (.int (lowM l)) from rfl]
    rw [← hsort, walk_take _ _ fun r hr => hthree r ((sortT_perm _).mem_iff.mp hr)]
    have hN : ∀ r ∈ sortT (chainR l 1), ∃ t n v, r = [t, n, v] ∧ n.natAbs < 2 ^ 134 := fun r hr => by
      have hr := (sortT_perm _).mem_iff.mp hr
      obtain ⟨t, n, v, e⟩ := hthree r hr
      exact ⟨t, n, v, e, hn r hr t n v e⟩
    have hL : (sortT (chainR l 1)).length ≤ 200 := by
      rw [(sortT_perm _).length_eq]
      omega
    generalize sortT (chainR l 1) = rs at *
    -- the walk
    generalize hbd : forBd _ _ = bd
    have key : ∀ (xs : List (List Int)) (e : Int) (k : Nat) (a b c : Option D), (∀ r ∈ xs, ∃ t n v, r = [t, n, v] ∧ n.natAbs < 2 ^ 134) → e.natAbs < 2 ^ k → k + 134 * xs.length < 100000 →
        ((forGo bd (xs.map ofInts) [some (D.lst (h.map eA)), some (.int (lowM l)), some (.int e), a, b, c] s).thn (semB (.cons (.ret .non) .nil))).val = .ok (eAns (walkL xs e)) s := by
      intro xs
      induction xs with
      | nil =>
        intro e k a b c _ _ _
        simp [forGo, b_nil, b_cons, b_ifs, b_for, b_while, semS, e_lc, e_lc2, e_var, e_int, e_bl, e_non, e_str, e_glob, e_bin, e_neg, e_tst, e_ife, e_tup, e_lst, e_ix, e_slc, e_rev, e_call, e_callK, permL, e_bi, e_isi, e_meth, e_fz, e_fzl, e_sortK, e_isx, e_isb, e_fld, e_callT, e_emp, b_try, isxSem, fldSem, actSem, actOut, catchO, onlyT_at, semEs, semT, semAnd, semOr, semO, semC, semI, R.bind_ok, R.bind_ex, R.bind_bad, R.out_ok, R.out_ex, R.out_bad, thn_nx, thn_ret, thn_brk, thn_ct, thn_ex, thn_bad, val_nx, val_ret, val_ex, tgSem, tgsSem, binSem, addSem, augSem, ixSem, seqOf, lstOf, lstT, newL, cmpSem, cmpInts, cmpI, eqD_int, DV.isNon, biSem, biLen, biInt, biList, biTuple, biTwo, isi_ii, isi_ib, isi_il, isi_it, isi_ll, isi_li, isi_lt, isi_tt, isi_tl, isi_ti, itemsOf, litOf, at0, at1, at2, ix30, ix31, ix32, sl0, sl1, sl2, sl3, sl4, sl5, sl6, sl7, sl8, sl9, sl10, sl11, sl12, sl13, sl14, fnSem, startE, wipeE, walkL, eAns]
      | cons r xs ih =>
        intro e k a b c hx he hk
        obtain ⟨t, n, v, rfl, hn'⟩ := hx r (List.mem_cons_self ..)
        have hc : CMulW e n := mulW_of he hn' (by simp at hk; omega)
        rw [List.map_cons, forGo_cons, ← hbd]
        by_cases ht : t = e
        · subst ht
          have := ih (t * n) (k + 134) (some (.int t)) (some (.int n)) (some (.int v)) (fun r hr => hx r (List.mem_cons_of_mem _ hr)) (natAbs_mul_lt he hn') (by simp at hk; omega)
          simp [forBd_at, b_nil, b_cons, b_ifs, b_for, b_while, semS, e_lc, e_lc2, e_var, e_int, e_bl, e_non, e_str, e_glob, e_bin, e_neg, e_tst, e_ife, e_tup, e_lst, e_ix, e_slc, e_rev, e_call, e_callK, permL, e_bi, e_isi, e_meth, e_fz, e_fzl, e_sortK, e_isx, e_isb, e_fld, e_callT, e_emp, b_try, isxSem, fldSem, actSem, actOut, catchO, onlyT_at, semEs, semT, semAnd, semOr, semO, semC, semI, R.bind_ok, R.bind_ex, R.bind_bad, R.out_ok, R.out_ex, R.out_bad, thn_nx, thn_ret, thn_brk, thn_ct, thn_ex, thn_bad, val_nx, val_ret, val_ex, tgSem, tgsSem, binSem, addSem, augSem, ixSem, seqOf, lstOf, lstT, newL, cmpSem, cmpInts, cmpI, eqD_int, DV.isNon, biSem, biLen, biInt, biList, biTuple, biTwo, isi_ii, isi_ib, isi_il, isi_it, isi_ll, isi_li, isi_lt, isi_tt, isi_tl, isi_ti, itemsOf, litOf, at0, at1, at2, ix30, ix31, ix32, sl0, sl1, sl2, sl3, sl4, sl5, sl6, sl7, sl8, sl9, sl10, sl11, sl12, sl13, sl14, fnSem, startE, wipeE, ofInts, hc, Out.loop, walkL]
          rw [← hbd] at this
          exact this
        · by_cases ht2 : e < t
          · simp [forBd_at, b_nil, b_cons, b_ifs, b_for, b_while, semS, e_lc, e_lc2, e_var, e_int, e_bl, e_non, e_str, e_glob, e_bin, e_neg, e_tst, e_ife, e_tup, e_lst, e_ix, e_slc, e_rev, e_call, e_callK, permL, e_bi, e_isi, e_meth, e_fz, e_fzl, e_sortK, e_isx, e_isb, e_fld, e_callT, e_emp, b_try, isxSem, fldSem, actSem, actOut, catchO, onlyT_at, semEs, semT, semAnd, semOr, semO, semC, semI, R.bind_ok, R.bind_ex, R.bind_bad, R.out_ok, R.out_ex, R.out_bad, thn_nx, thn_ret, thn_brk, thn_ct, thn_ex, thn_bad, val_nx, val_ret, val_ex, tgSem, tgsSem, binSem, addSem, augSem, ixSem, seqOf, lstOf, lstT, newL, cmpSem, cmpInts, cmpI, eqD_int, DV.isNon, biSem, biLen, biInt, biList, biTuple, biTwo, isi_ii, isi_ib, isi_il, isi_it, isi_ll, isi_li, isi_lt, isi_tt, isi_tl, isi_ti, itemsOf, litOf, at0, at1, at2, ix30, ix31, ix32, sl0, sl1, sl2, sl3, sl4, sl5, sl6, sl7, sl8, sl9, sl10, sl11, sl12, sl13, sl14, fnSem, startE, wipeE, ofInts, ht, ht2, Out.loop, walkL, eAns]
          · simp [forBd_at, b_nil, b_cons, b_ifs, b_for, b_while, semS, e_lc, e_lc2, e_var, e_int, e_bl, e_non, e_str, e_glob, e_bin, e_neg, e_tst, e_ife, e_tup, e_lst, e_ix, e_slc, e_rev, e_call, e_callK, permL, e_bi, e_isi, e_meth, e_fz, e_fzl, e_sortK, e_isx, e_isb, e_fld, e_callT, e_emp, b_try, isxSem, fldSem, actSem, actOut, catchO, onlyT_at, semEs, semT, semAnd, semOr, semO, semC, semI, R.bind_ok, R.bind_ex, R.bind_bad, R.out_ok, R.out_ex, R.out_bad, thn_nx, thn_ret, thn_brk, thn_ct, thn_ex, thn_bad, val_nx, val_ret, val_ex, tgSem, tgsSem, binSem, addSem, augSem, ixSem, seqOf, lstOf, lstT, newL, cmpSem, cmpInts, cmpI, eqD_int, DV.isNon, biSem, biLen, biInt, biList, biTuple, biTwo, isi_ii, isi_ib, isi_il, isi_it, isi_ll, isi_li, isi_lt, isi_tt, isi_tl, isi_ti, itemsOf, litOf, at0, at1, at2, ix30, ix31, ix32, sl0, sl1, sl2, sl3, sl4, sl5, sl6, sl7, sl8, sl9, sl10, sl11, sl12, sl13, sl14, fnSem, startE, wipeE, ofInts, ht, ht2, Out.loop, walkL, eAns]
    exact key rs 1 1 none none none hN (by decide) (by omega)
/-! ### what is due, by the strides -/
theorem q_flat_ok (s : Sto) (h : List (List Mode)) (hl : h.flatten.length ≤ 200) : f__law_q_flat s [eH h] = .ok (eA h.flatten) s := by
  have hsz : sizeLine = 16777216 := rfl
  refine fnD_of ?_ (bnd_eA _)
  unfold eH eA
  simp [b_nil, b_cons, b_ifs, b_for, b_while, semS, e_lc, e_lc2, e_var, e_int, e_bl, e_non, e_str, e_glob, e_bin, e_neg, e_tst, e_ife, e_tup, e_lst, e_ix, e_slc, e_rev, e_call, e_callK, permL, e_bi, e_isi, e_meth, e_fz, e_fzl, e_sortK, e_isx, e_isb, e_fld, e_callT, e_emp, b_try, isxSem, fldSem, actSem, actOut, catchO, onlyT_at, semEs, semT, semAnd, semOr, semO, semC, semI, R.bind_ok, R.bind_ex, R.bind_bad, R.out_ok, R.out_ex, R.out_bad, thn_nx, thn_ret, thn_brk, thn_ct, thn_ex, thn_bad, val_nx, val_ret, val_ex, tgSem, tgsSem, binSem, addSem, augSem, ixSem, seqOf, lstOf, lstT, newL, cmpSem, cmpInts, cmpI, eqD_int, DV.isNon, biSem, biLen, biInt, biList, biTuple, biTwo, isi_ii, isi_ib, isi_il, isi_it, isi_ll, isi_li, isi_lt, isi_tt, isi_tl, isi_ti, itemsOf, litOf, at0, at1, at2, ix30, ix31, ix32, sl0, sl1, sl2, sl3, sl4, sl5, sl6, sl7, sl8, sl9, sl10, sl11, sl12, sl13, sl14, fnSem, startE, wipeE, N__law_q_flat, ir__law_q_flat, -List.map_flatten]
  refine pre_k (fun o => (o.thn _).val = _) (fun b ρ s' => s' = s ∧ ∃ x, ρ = [some (.lst (h.map fun a => .lst (a.map eM))), some (.lst (b.flatten.map eM)), x]) ⟨rfl, _, rfl⟩ ?_ ?_
  · rintro pre a post rfl ρ s' ⟨rfl, x, rfl⟩
    refine ⟨_, s', .inl ?_, rfl, some (.lst (a.map eM)), rfl⟩
    have h1 : pre.flatten.length + a.length ≤ sizeLine := by
      simp at hl
      simp
      omega
    simp [forBd_at, b_nil, b_cons, b_ifs, b_for, b_while, semS, e_lc, e_lc2, e_var, e_int, e_bl, e_non, e_str, e_glob, e_bin, e_neg, e_tst, e_ife, e_tup, e_lst, e_ix, e_slc, e_rev, e_call, e_callK, permL, e_bi, e_isi, e_meth, e_fz, e_fzl, e_sortK, e_isx, e_isb, e_fld, e_callT, e_emp, b_try, isxSem, fldSem, actSem, actOut, catchO, onlyT_at, semEs, semT, semAnd, semOr, semO, semC, semI, R.bind_ok, R.bind_ex, R.bind_bad, R.out_ok, R.out_ex, R.out_bad, thn_nx, thn_ret, thn_brk, thn_ct, thn_ex, thn_bad, val_nx, val_ret, val_ex, tgSem, tgsSem, binSem, addSem, augSem, ixSem, seqOf, lstOf, lstT, newL, cmpSem, cmpInts, cmpI, eqD_int, DV.isNon, biSem, biLen, biInt, biList, biTuple, biTwo, isi_ii, isi_ib, isi_il, isi_it, isi_ll, isi_li, isi_lt, isi_tt, isi_tl, isi_ti, itemsOf, litOf, at0, at1, at2, ix30, ix31, ix32, sl0, sl1, sl2, sl3, sl4, sl5, sl6, sl7, sl8, sl9, sl10, sl11, sl12, sl13, sl14, fnSem, startE, wipeE, h1, -List.map_flatten, -List.length_flatten]
  · rintro ρ' s' ⟨rfl, x, rfl⟩
    simp [b_nil, b_cons, b_ifs, b_for, b_while, semS, e_lc, e_lc2, e_var, e_int, e_bl, e_non, e_str, e_glob, e_bin, e_neg, e_tst, e_ife, e_tup, e_lst, e_ix, e_slc, e_rev, e_call, e_callK, permL, e_bi, e_isi, e_meth, e_fz, e_fzl, e_sortK, e_isx, e_isb, e_fld, e_callT, e_emp, b_try, isxSem, fldSem, actSem, actOut, catchO, onlyT_at, semEs, semT, semAnd, semOr, semO, semC, semI, R.bind_ok, R.bind_ex, R.bind_bad, R.out_ok, R.out_ex, R.out_bad, thn_nx, thn_ret, thn_brk, thn_ct, thn_ex, thn_bad, val_nx, val_ret, val_ex, tgSem, tgsSem, binSem, addSem, augSem, ixSem, seqOf, lstOf, lstT, newL, cmpSem, cmpInts, cmpI, eqD_int, DV.isNon, biSem, biLen, biInt, biList, biTuple, biTwo, isi_ii, isi_ib, isi_il, isi_it, isi_ll, isi_li, isi_lt, isi_tt, isi_tl, isi_ti, itemsOf, litOf, at0, at1, at2, ix30, ix31, ix32, sl0, sl1, sl2, sl3, sl4, sl5, sl6, sl7, sl8, sl9, sl10, sl11, sl12, sl13, sl14, fnSem, startE, wipeE]
end PF

namespace PF
open PySem PySem.Spec L2 DV
/-! ### the pen -/
def primesD : List D := [2147483629, 2147483587, 2147483579, 2147483563, 2147483549, 2147483543, 2147483497, 2147483489, 2147483477, 2147483423, 2147483399, 2147483353, 2147483323].map D.int
theorem prime_at {k : Int} (h0 : 0 ≤ k) (h1 : k < 13) : ∃ p, atI primesD k = some (.int p) ∧ 0 < p ∧ p < 2147483648 := by
  have : k = 0 ∨ k = 1 ∨ k = 2 ∨ k = 3 ∨ k = 4 ∨ k = 5 ∨ k = 6 ∨ k = 7 ∨ k = 8 ∨ k = 9 ∨ k = 10 ∨ k = 11 ∨ k = 12 := by omega
  rcases this with rfl | rfl | rfl | rfl | rfl | rfl | rfl | rfl | rfl | rfl | rfl | rfl | rfl <;> exact ⟨_, rfl, by decide, by decide⟩
theorem spread_ok (s : Sto) (cell at_ : Int) (h0 : 0 ≤ at_) (h1 : at_ < 1000000) : ∃ v, f__law_spread s [.int cell, .int at_] = .ok (.int v) s := by
  have p10 : CPow 10 18 := by decide
  suffices hs : ∃ v, fnSem N__law_spread ir__law_spread s [.int cell, .int at_] = .ok (.int v) s by
    obtain ⟨v, hv⟩ := hs
    exact ⟨v, fnD_of hv (by rw [bnd])⟩
  by_cases hc : 1000000000000000000 ≤ cell
  · simp [b_nil, b_cons, b_ifs, b_for, b_while, semS, e_lc, e_lc2, e_var, e_int, e_bl, e_non, e_str, e_glob, e_bin, e_neg, e_tst, e_ife, e_tup, e_lst, e_ix, e_slc, e_rev, e_call, e_callK, permL, e_bi, e_isi, e_meth, e_fz, e_fzl, e_sortK, e_isx, e_isb, e_fld, e_callT, e_emp, b_try, isxSem, fldSem, actSem, actOut, catchO, onlyT_at, semEs, semT, semAnd, semOr, semO, semC, semI, R.bind_ok, R.bind_ex, R.bind_bad, R.out_ok, R.out_ex, R.out_bad, thn_nx, thn_ret, thn_brk, thn_ct, thn_ex, thn_bad, val_nx, val_ret, val_ex, tgSem, tgsSem, binSem, addSem, augSem, ixSem, seqOf, lstOf, lstT, newL, cmpSem, cmpInts, cmpI, eqD_int, DV.isNon, biSem, biLen, biInt, biList, biTuple, biTwo, isi_ii, isi_ib, isi_il, isi_it, isi_ll, isi_li, isi_lt, isi_tt, isi_tl, isi_ti, itemsOf, litOf, at0, at1, at2, ix30, ix31, ix32, sl0, sl1, sl2, sl3, sl4, sl5, sl6, sl7, sl8, sl9, sl10, sl11, sl12, sl13, sl14, fnSem, startE, wipeE, N__law_spread, ir__law_spread, p10, hc]
  · obtain ⟨p1, e1, a1, b1⟩ := prime_at (k := at_ % 13) (by omega) (by omega)
    obtain ⟨p2, e2, a2, b2⟩ := prime_at (k := (at_ + 5) % 13) (by omega) (by omega)
    obtain ⟨p3, e3, a3, b3⟩ := prime_at (k := (at_ + 7) % 13) (by omega) (by omega)
    have c1 : CMulW 2 at_ := mulW_of (a := 64) (b := 64) (by omega) (by omega) (by decide)
    have c2 : CMulW (cell % 1000000007) (2 * at_ + 69069) := mulW_of (a := 64) (b := 64) (by omega) (by omega) (by decide)
    have c3 : CMulW at_ 40503 := mulW_of (a := 64) (b := 64) (by omega) (by omega) (by decide)
    have n1 : (cell % 1000000007 * (2 * at_ + 69069)).natAbs < 2 ^ (30 + 21) := natAbs_mul_lt (by omega) (by omega)
    have q1 : CPow (cell % 1000000007 * (2 * at_ + 69069) + at_ * 40503 + 977) 3 := ⟨by omega, by omega, by omega⟩
    have o1 := Int.emod_nonneg ((cell % 1000000007 * (2 * at_ + 69069) + at_ * 40503 + 977) ^ 3) (show p1 ≠ 0 by omega)
    have o2 := Int.emod_lt_of_pos ((cell % 1000000007 * (2 * at_ + 69069) + at_ * 40503 + 977) ^ 3) a1
    generalize ho : (cell % 1000000007 * (2 * at_ + 69069) + at_ * 40503 + 977) ^ 3 % p1 = one at *
    have c4 : CMulW one (at_ + 3) := mulW_of (a := 64) (b := 64) (by omega) (by omega) (by decide)
    have n2 : (one * (at_ + 3)).natAbs < 2 ^ (31 + 21) := natAbs_mul_lt (by omega) (by omega)
    have q2 : CPow (one * (at_ + 3) + cell % 65537 + 5) 5 := ⟨by omega, by omega, by omega⟩
    have o3 := Int.emod_nonneg ((one * (at_ + 3) + cell % 65537 + 5) ^ 5) (show p2 ≠ 0 by omega)
    have o4 := Int.emod_lt_of_pos ((one * (at_ + 3) + cell % 65537 + 5) ^ 5) a2
    generalize ht : (one * (at_ + 3) + cell % 65537 + 5) ^ 5 % p2 = two at *
    have q3 : CPow (two + one % 1009 + at_) 3 := ⟨by omega, by omega, by omega⟩
    have c5 : CMulW one 2147483647 := mulW_of (a := 64) (b := 64) (by omega) (by omega) (by decide)
    have n3 : (one * 2147483647).natAbs < 2 ^ (31 + 31) := natAbs_mul_lt (by omega) (by omega)
    have c6 : CMulW (one * 2147483647 + two) 2147483647 := mulW_of (a := 64) (b := 64) (by omega) (by omega) (by decide)
    simp only [primesD, List.map] at e1 e2 e3
    simp [b_nil, b_cons, b_ifs, b_for, b_while, semS, e_lc, e_lc2, e_var, e_int, e_bl, e_non, e_str, e_glob, e_bin, e_neg, e_tst, e_ife, e_tup, e_lst, e_ix, e_slc, e_rev, e_call, e_callK, permL, e_bi, e_isi, e_meth, e_fz, e_fzl, e_sortK, e_isx, e_isb, e_fld, e_callT, e_emp, b_try, isxSem, fldSem, actSem, actOut, catchO, onlyT_at, semEs, semT, semAnd, semOr, semO, semC, semI, R.bind_ok, R.bind_ex, R.bind_bad, R.out_ok, R.out_ex, R.out_bad, thn_nx, thn_ret, thn_brk, thn_ct, thn_ex, thn_bad, val_nx, val_ret, val_ex, tgSem, tgsSem, binSem, addSem, augSem, ixSem, seqOf, lstOf, lstT, newL, cmpSem, cmpInts, cmpI, eqD_int, DV.isNon, biSem, biLen, biInt, biList, biTuple, biTwo, isi_ii, isi_ib, isi_il, isi_it, isi_ll, isi_li, isi_lt, isi_tt, isi_tl, isi_ti, itemsOf, litOf, at0, at1, at2, ix30, ix31, ix32, sl0, sl1, sl2, sl3, sl4, sl5, sl6, sl7, sl8, sl9, sl10, sl11, sl12, sl13, sl14, fnSem, startE, wipeE, N__law_spread, ir__law_spread, p10, hc, c1, c2, c3, c4, c5, c6, q1, q2, q3, e1, e2, e3, ho, ht, a1, a2, a3]
end PF
namespace PF
open PySem PySem.Spec L2 DV
def pen (cells : List Int) (at_ c : Int) : Cell := .lst [.lst (cells.map D.int), .int at_, .int c]
theorem bnd_pen {m : Nat} (cells : List Int) (at_ c : Int) : bndC m (pen cells at_ c) = true := by simp [pen, bndC, bnds, bnd, bnds_ints]
theorem take_ok (s : Sto) (p : Nat) (cells : List Int) (at_ c m : Int) (hp : s[p]? = some (pen cells at_ c)) (h0 : 0 ≤ at_) (h1 : at_ < 900000) (hm : 0 < m) (hm2 : m.natAbs < 2 ^ 200) :
    ∃ r a2 c2, f__law_take s [.obj p, .int m] = .ok (.int r) (s.set p (pen cells a2 c2)) ∧ 0 ≤ r ∧ r < m ∧ at_ ≤ a2 ∧ a2 ≤ at_ + 1 := by
  have hl : p < s.length := (List.getElem?_eq_some_iff.mp hp).1
  have hs : ∀ c, (s.set p c)[p]? = some c := fun c => List.getElem?_set_self hl
  have dv : ∀ x, CDivW x m := fun x => divW_of hm (Nat.lt_of_lt_of_le hm2 (Nat.pow_le_pow_right (by decide) (by decide)))
  have rm : ∀ x : Int, 0 ≤ x % m ∧ x % m < m := fun x => ⟨Int.emod_nonneg _ (by omega), Int.emod_lt_of_pos _ hm⟩
  by_cases hc : c < m
  · -- a new cell
    have p17 : CPow 10 17 := by decide
    have c5 : CMulW at_ 5 := mulW_of (a := 64) (b := 64) (by omega) (by omega) (by decide)
    by_cases ha : at_ < cells.length
    · obtain ⟨x, hx⟩ := at_ints h0 ha
      obtain ⟨v, hv⟩ := spread_ok (s.set p (.lst [.lst (cells.map D.int), .int (at_ + 1), .int c])) x at_ h0 (by omega)
      refine ⟨v % m, at_ + 1, v / m, ?_, (rm v).1, (rm v).2, by omega, by omega⟩
      refine fnD_set0 ?_ (bnd_pen ..) (by rw [bnd])
      unfold pen at *
      simp [b_nil, b_cons, b_ifs, b_for, b_while, semS, e_lc, e_lc2, e_var, e_int, e_bl, e_non, e_str, e_glob, e_bin, e_neg, e_tst, e_ife, e_tup, e_lst, e_ix, e_slc, e_rev, e_call, e_callK, permL, e_bi, e_isi, e_meth, e_fz, e_fzl, e_sortK, e_isx, e_isb, e_fld, e_callT, e_emp, b_try, isxSem, fldSem, actSem, actOut, catchO, onlyT_at, semEs, semT, semAnd, semOr, semO, semC, semI, R.bind_ok, R.bind_ex, R.bind_bad, R.out_ok, R.out_ex, R.out_bad, thn_nx, thn_ret, thn_brk, thn_ct, thn_ex, thn_bad, val_nx, val_ret, val_ex, tgSem, tgsSem, binSem, addSem, augSem, ixSem, seqOf, lstOf, lstT, newL, cmpSem, cmpInts, cmpI, eqD_int, DV.isNon, biSem, biLen, biInt, biList, biTuple, biTwo, isi_ii, isi_ib, isi_il, isi_it, isi_ll, isi_li, isi_lt, isi_tt, isi_tl, isi_ti, itemsOf, litOf, at0, at1, at2, ix30, ix31, ix32, sl0, sl1, sl2, sl3, sl4, sl5, sl6, sl7, sl8, sl9, sl10, sl11, sl12, sl13, sl14, fnSem, startE, wipeE, N__law_take, ir__law_take, hp, hc, hm, dv, stIx, ha, hx, hv, hs]
    · by_cases hz : 0 < cells.length
      · have hz' : (0 : Int) < cells.length := by omega
        obtain ⟨x, hx⟩ := at_ints (ns := cells) (k := (at_ * 5 + 3) % cells.length) (Int.emod_nonneg _ (by omega)) (Int.emod_lt_of_pos _ hz')
        have h17 : 0 < 100000000000000000 + at_ := by omega
        obtain ⟨v, hv⟩ := spread_ok (s.set p (.lst [.lst (cells.map D.int), .int (at_ + 1), .int c])) (x % (100000000000000000 + at_)) at_ h0 (by omega)
        refine ⟨v % m, at_ + 1, v / m, ?_, (rm v).1, (rm v).2, by omega, by omega⟩
        refine fnD_set0 ?_ (bnd_pen ..) (by rw [bnd])
        unfold pen at *
        simp [b_nil, b_cons, b_ifs, b_for, b_while, semS, e_lc, e_lc2, e_var, e_int, e_bl, e_non, e_str, e_glob, e_bin, e_neg, e_tst, e_ife, e_tup, e_lst, e_ix, e_slc, e_rev, e_call, e_callK, permL, e_bi, e_isi, e_meth, e_fz, e_fzl, e_sortK, e_isx, e_isb, e_fld, e_callT, e_emp, b_try, isxSem, fldSem, actSem, actOut, catchO, onlyT_at, semEs, semT, semAnd, semOr, semO, semC, semI, R.bind_ok, R.bind_ex, R.bind_bad, R.out_ok, R.out_ex, R.out_bad, thn_nx, thn_ret, thn_brk, thn_ct, thn_ex, thn_bad, val_nx, val_ret, val_ex, tgSem, tgsSem, binSem, addSem, augSem, ixSem, seqOf, lstOf, lstT, newL, cmpSem, cmpInts, cmpI, eqD_int, DV.isNon, biSem, biLen, biInt, biList, biTuple, biTwo, isi_ii, isi_ib, isi_il, isi_it, isi_ll, isi_li, isi_lt, isi_tt, isi_tl, isi_ti, itemsOf, litOf, at0, at1, at2, ix30, ix31, ix32, sl0, sl1, sl2, sl3, sl4, sl5, sl6, sl7, sl8, sl9, sl10, sl11, sl12, sl13, sl14, fnSem, startE, wipeE, N__law_take, ir__law_take, hp, hc, hm, dv, stIx, ha, hx, hv, hs, hz, c5, p17, h17]
      · obtain ⟨v, hv⟩ := spread_ok (s.set p (.lst [.lst (cells.map D.int), .int (at_ + 1), .int c])) 0 at_ h0 (by omega)
        refine ⟨v % m, at_ + 1, v / m, ?_, (rm v).1, (rm v).2, by omega, by omega⟩
        refine fnD_set0 ?_ (bnd_pen ..) (by rw [bnd])
        unfold pen at *
        simp [b_nil, b_cons, b_ifs, b_for, b_while, semS, e_lc, e_lc2, e_var, e_int, e_bl, e_non, e_str, e_glob, e_bin, e_neg, e_tst, e_ife, e_tup, e_lst, e_ix, e_slc, e_rev, e_call, e_callK, permL, e_bi, e_isi, e_meth, e_fz, e_fzl, e_sortK, e_isx, e_isb, e_fld, e_callT, e_emp, b_try, isxSem, fldSem, actSem, actOut, catchO, onlyT_at, semEs, semT, semAnd, semOr, semO, semC, semI, R.bind_ok, R.bind_ex, R.bind_bad, R.out_ok, R.out_ex, R.out_bad, thn_nx, thn_ret, thn_brk, thn_ct, thn_ex, thn_bad, val_nx, val_ret, val_ex, tgSem, tgsSem, binSem, addSem, augSem, ixSem, seqOf, lstOf, lstT, newL, cmpSem, cmpInts, cmpI, eqD_int, DV.isNon, biSem, biLen, biInt, biList, biTuple, biTwo, isi_ii, isi_ib, isi_il, isi_it, isi_ll, isi_li, isi_lt, isi_tt, isi_tl, isi_ti, itemsOf, litOf, at0, at1, at2, ix30, ix31, ix32, sl0, sl1, sl2, sl3, sl4, sl5, sl6, sl7, sl8, sl9, sl10, sl11, sl12, sl13, sl14, fnSem, startE, wipeE, N__law_take, ir__law_take, hp, hc, hm, dv, stIx, ha, hv, hs, hz]
  · refine ⟨c % m, at_, c / m, ?_, (rm c).1, (rm c).2, by omega, by omega⟩
    refine fnD_set0 ?_ (bnd_pen ..) (by rw [bnd])
    unfold pen at *
    simp [b_nil, b_cons, b_ifs, b_for, b_while, semS, e_lc, e_lc2, e_var, e_int, e_bl, e_non, e_str, e_glob, e_bin, e_neg, e_tst, e_ife, e_tup, e_lst, e_ix, e_slc, e_rev, e_call, e_callK, permL, e_bi, e_isi, e_meth, e_fz, e_fzl, e_sortK, e_isx, e_isb, e_fld, e_callT, e_emp, b_try, isxSem, fldSem, actSem, actOut, catchO, onlyT_at, semEs, semT, semAnd, semOr, semO, semC, semI, R.bind_ok, R.bind_ex, R.bind_bad, R.out_ok, R.out_ex, R.out_bad, thn_nx, thn_ret, thn_brk, thn_ct, thn_ex, thn_bad, val_nx, val_ret, val_ex, tgSem, tgsSem, binSem, addSem, augSem, ixSem, seqOf, lstOf, lstT, newL, cmpSem, cmpInts, cmpI, eqD_int, DV.isNon, biSem, biLen, biInt, biList, biTuple, biTwo, isi_ii, isi_ib, isi_il, isi_it, isi_ll, isi_li, isi_lt, isi_tt, isi_tl, isi_ti, itemsOf, litOf, at0, at1, at2, ix30, ix31, ix32, sl0, sl1, sl2, sl3, sl4, sl5, sl6, sl7, sl8, sl9, sl10, sl11, sl12, sl13, sl14, fnSem, startE, wipeE, N__law_take, ir__law_take, hp, hc, hm, dv, stIx]
theorem atI_mem {α : Type} {xs : List α} {k : Int} (h0 : 0 ≤ k) (h1 : k < xs.length) : ∃ x, atI xs k = some x ∧ x ∈ xs := by
  obtain ⟨i, rfl⟩ := Int.eq_ofNat_of_zero_le h0
  have hi : i < xs.length := by omega
  exact ⟨xs[i], atI_nat hi, List.getElem_mem hi⟩
/-- one of some data that hold no handle -/
theorem pick_ok (s : Sto) (p : Nat) (cells : List Int) (at_ c : Int) (xs : List D) (hp : s[p]? = some (pen cells at_ c)) (h0 : 0 ≤ at_) (h1 : at_ < 900000) (hx : xs ≠ []) (hl : xs.length < 1000) (hb : ∀ x ∈ xs, ∀ m, bnd m x = true) :
    ∃ x a2 c2, f__law_q_pick s [.obj p, .lst xs] = .ok x (s.set p (pen cells a2 c2)) ∧ x ∈ xs ∧ at_ ≤ a2 ∧ a2 ≤ at_ + 1 := by
  have hne : 0 < xs.length := List.length_pos_iff.mpr hx
  obtain ⟨r, a2, c2, e, r0, r1, l1, l2⟩ := take_ok s p cells at_ c xs.length hp h0 h1 (by omega) (by
    have : (1000 : Nat) < 2 ^ 200 := by decide +kernel
    omega)
  obtain ⟨x, ex, hm⟩ := atI_mem r0 r1
  refine ⟨x, a2, c2, ?_, hm, l1, l2⟩
  refine fnD_set0 ?_ (bnd_pen ..) (hb x hm _)
  simp [b_nil, b_cons, b_ifs, b_for, b_while, semS, e_lc, e_lc2, e_var, e_int, e_bl, e_non, e_str, e_glob, e_bin, e_neg, e_tst, e_ife, e_tup, e_lst, e_ix, e_slc, e_rev, e_call, e_callK, permL, e_bi, e_isi, e_meth, e_fz, e_fzl, e_sortK, e_isx, e_isb, e_fld, e_callT, e_emp, b_try, isxSem, fldSem, actSem, actOut, catchO, onlyT_at, semEs, semT, semAnd, semOr, semO, semC, semI, R.bind_ok, R.bind_ex, R.bind_bad, R.out_ok, R.out_ex, R.out_bad, thn_nx, thn_ret, thn_brk, thn_ct, thn_ex, thn_bad, val_nx, val_ret, val_ex, tgSem, tgsSem, binSem, addSem, augSem, ixSem, seqOf, lstOf, lstT, newL, cmpSem, cmpInts, cmpI, eqD_int, DV.isNon, biSem, biLen, biInt, biList, biTuple, biTwo, isi_ii, isi_ib, isi_il, isi_it, isi_ll, isi_li, isi_lt, isi_tt, isi_tl, isi_ti, itemsOf, litOf, at0, at1, at2, ix30, ix31, ix32, sl0, sl1, sl2, sl3, sl4, sl5, sl6, sl7, sl8, sl9, sl10, sl11, sl12, sl13, sl14, fnSem, startE, wipeE, N__law_q_pick, ir__law_q_pick, e, ex]
end PF
namespace PF
open PySem PySem.Spec L2 DV
theorem cut_take (ns : List Int) (k : Nat) : cutD (ns.map D.int) none (some (k : Int)) = (ns.take k).map D.int := by
  unfold cutD
  rw [HT.sIx_none, HT.sIx_nat, List.map_take, Nat.sub_zero, List.drop_zero]
  by_cases h : k ≤ (ns.map D.int).length
  · rw [Nat.min_eq_left h]
  · rw [Nat.min_eq_right (by omega), List.take_length, List.take_of_length_le (by omega)]
theorem drop_take_min {α : Type} (l : List α) (j k : Nat) : (l.drop (min j l.length)).take (min k l.length - min j l.length) = (l.drop j).take (k - j) := by
  by_cases h : j ≤ l.length
  · have e1 : min j l.length = j := Nat.min_eq_left h
    rw [e1]
    by_cases h2 : k ≤ l.length
    · have e2 : min k l.length = k := Nat.min_eq_left h2
      rw [e2]
    · have e2 : min k l.length = l.length := Nat.min_eq_right (by omega)
      rw [e2, List.take_of_length_le (by simp), List.take_of_length_le (by simp; omega)]
  · have e1 : min j l.length = l.length := Nat.min_eq_right (by omega)
    rw [e1, List.drop_eq_nil_of_le (Nat.le_refl _), List.drop_eq_nil_of_le (by omega)]
    simp
theorem cut_mid (ns : List Int) (j k : Nat) : cutD (ns.map D.int) (some (j : Int)) (some (k : Int)) = ((ns.drop j).take (k - j)).map D.int := by
  unfold cutD
  rw [HT.sIx_nat, HT.sIx_nat, drop_take_min, List.map_take, List.map_drop]
theorem ixN_toNat {n : Nat} {k : Int} (h0 : 0 ≤ k) (h1 : k < n) : ixN n k = some k.toNat := by
  obtain ⟨i, rfl⟩ := Int.eq_ofNat_of_zero_le h0
  rw [ixN_nat (by omega), Int.toNat_natCast]
theorem open_ok (ns : List Int) : ∃ cells, f__law_open [] [.scr ns] = .ok (.obj 1) [.dead, pen cells 0 0] := by
  suffices hs : ∃ cells, fnSem N__law_open ir__law_open [] [.scr ns] = .ok (.obj 1) [.dead, pen cells 0 0] by
    obtain ⟨cells, hc⟩ := hs
    refine ⟨cells, ?_⟩
    rw [f__law_open, fnD, hc]
    unfold dropJ
    simp [bnd]
  have c1 := cut_take ns 12
  have c2 := cut_mid ns 12 63
  simp [b_nil, b_cons, b_ifs, b_for, b_while, semS, e_lc, e_lc2, e_var, e_int, e_bl, e_non, e_str, e_glob, e_bin, e_neg, e_tst, e_ife, e_tup, e_lst, e_ix, e_slc, e_rev, e_call, e_callK, permL, e_bi, e_isi, e_meth, e_fz, e_fzl, e_sortK, e_isx, e_isb, e_fld, e_callT, e_emp, b_try, isxSem, fldSem, actSem, actOut, catchO, onlyT_at, semEs, semT, semAnd, semOr, semO, semC, semI, R.bind_ok, R.bind_ex, R.bind_bad, R.out_ok, R.out_ex, R.out_bad, thn_nx, thn_ret, thn_brk, thn_ct, thn_ex, thn_bad, val_nx, val_ret, val_ex, tgSem, tgsSem, binSem, addSem, augSem, ixSem, seqOf, lstOf, lstT, newL, cmpSem, cmpInts, cmpI, eqD_int, DV.isNon, biSem, biLen, biInt, biList, biTuple, biTwo, isi_ii, isi_ib, isi_il, isi_it, isi_ll, isi_li, isi_lt, isi_tt, isi_tl, isi_ti, itemsOf, litOf, at0, at1, at2, ix30, ix31, ix32, sl0, sl1, sl2, sl3, sl4, sl5, sl6, sl7, sl8, sl9, sl10, sl11, sl12, sl13, sl14, fnSem, startE, wipeE, N__law_open, ir__law_open, slcSem]
  simp only [show (12 : Int) = ((12 : Nat) : Int) from rfl, show (63 : Int) = ((63 : Nat) : Int) from rfl, c1, c2]
  simp [b_nil, b_cons, b_ifs, b_for, b_while, semS, e_lc, e_lc2, e_var, e_int, e_bl, e_non, e_str, e_glob, e_bin, e_neg, e_tst, e_ife, e_tup, e_lst, e_ix, e_slc, e_rev, e_call, e_callK, permL, e_bi, e_isi, e_meth, e_fz, e_fzl, e_sortK, e_isx, e_isb, e_fld, e_callT, e_emp, b_try, isxSem, fldSem, actSem, actOut, catchO, onlyT_at, semEs, semT, semAnd, semOr, semO, semC, semI, R.bind_ok, R.bind_ex, R.bind_bad, R.out_ok, R.out_ex, R.out_bad, thn_nx, thn_ret, thn_brk, thn_ct, thn_ex, thn_bad, val_nx, val_ret, val_ex, tgSem, tgsSem, binSem, addSem, augSem, ixSem, seqOf, lstOf, lstT, newL, cmpSem, cmpInts, cmpI, eqD_int, DV.isNon, biSem, biLen, biInt, biList, biTuple, biTwo, isi_ii, isi_ib, isi_il, isi_it, isi_ll, isi_li, isi_lt, isi_tt, isi_tl, isi_ti, itemsOf, litOf, at0, at1, at2, ix30, ix31, ix32, sl0, sl1, sl2, sl3, sl4, sl5, sl6, sl7, sl8, sl9, sl10, sl11, sl12, sl13, sl14, fnSem, startE, wipeE, ← List.map_take, ← List.map_drop]
  generalize hbd : forBd _ _ = bd
  have key : ∀ (ms : List Int) (i : Nat) (cs : List Int) (a b : Option D), (ms ≠ [] → cs.length = 12) → ∃ (cs' : List Int) (a' b' : Option D), forGo bd (enumD i (ms.map D.int)) [some (.scr ns), some (.obj 0), a, b] [.lst (cs.map D.int)] = .nx [some (.scr ns), some (.obj 0), a', b'] [.lst (cs'.map D.int)] := by
    intro ms
    induction ms with
    | nil => intro i cs a b _; exact ⟨cs, a, b, by simp [enumD, forGo]⟩
    | cons m ms ih =>
      intro i cs a b hcs
      have hcs := hcs (by simp)
      obtain ⟨x, hx⟩ := at_ints (ns := cs) (k := (i : Int) % 12) (by omega) (by omega)
      have hi := ixN_toNat (n := (cs.map D.int).length) (k := (i : Int) % 12) (by omega) (by simp; omega)
      obtain ⟨cs', a', b', e⟩ := ih (i + 1) (cs.set ((i : Int) % 12).toNat (x + m)) (some (.int i)) (some (.int m)) (fun _ => by rw [List.length_set]; exact hcs)
      refine ⟨cs', a', b', ?_⟩
      rw [List.map_cons, enumD, forGo_cons, ← hbd]
      rw [← hbd] at e
      simp [forBd_at, b_nil, b_cons, b_ifs, b_for, b_while, semS, e_lc, e_lc2, e_var, e_int, e_bl, e_non, e_str, e_glob, e_bin, e_neg, e_tst, e_ife, e_tup, e_lst, e_ix, e_slc, e_rev, e_call, e_callK, permL, e_bi, e_isi, e_meth, e_fz, e_fzl, e_sortK, e_isx, e_isb, e_fld, e_callT, e_emp, b_try, isxSem, fldSem, actSem, actOut, catchO, onlyT_at, semEs, semT, semAnd, semOr, semO, semC, semI, R.bind_ok, R.bind_ex, R.bind_bad, R.out_ok, R.out_ex, R.out_bad, thn_nx, thn_ret, thn_brk, thn_ct, thn_ex, thn_bad, val_nx, val_ret, val_ex, tgSem, tgsSem, binSem, addSem, augSem, ixSem, seqOf, lstOf, lstT, newL, cmpSem, cmpInts, cmpI, eqD_int, DV.isNon, biSem, biLen, biInt, biList, biTuple, biTwo, isi_ii, isi_ib, isi_il, isi_it, isi_ll, isi_li, isi_lt, isi_tt, isi_tl, isi_ti, itemsOf, litOf, at0, at1, at2, ix30, ix31, ix32, sl0, sl1, sl2, sl3, sl4, sl5, sl6, sl7, sl8, sl9, sl10, sl11, sl12, sl13, sl14, fnSem, startE, wipeE, hx, stIx, Out.loop]
      rw [List.length_map] at hi
      simp [hi, b_nil, b_cons, b_ifs, b_for, b_while, semS, e_lc, e_lc2, e_var, e_int, e_bl, e_non, e_str, e_glob, e_bin, e_neg, e_tst, e_ife, e_tup, e_lst, e_ix, e_slc, e_rev, e_call, e_callK, permL, e_bi, e_isi, e_meth, e_fz, e_fzl, e_sortK, e_isx, e_isb, e_fld, e_callT, e_emp, b_try, isxSem, fldSem, actSem, actOut, catchO, onlyT_at, semEs, semT, semAnd, semOr, semO, semC, semI, R.bind_ok, R.bind_ex, R.bind_bad, R.out_ok, R.out_ex, R.out_bad, thn_nx, thn_ret, thn_brk, thn_ct, thn_ex, thn_bad, val_nx, val_ret, val_ex, tgSem, tgsSem, binSem, addSem, augSem, ixSem, seqOf, lstOf, lstT, newL, cmpSem, cmpInts, cmpI, eqD_int, DV.isNon, biSem, biLen, biInt, biList, biTuple, biTwo, isi_ii, isi_ib, isi_il, isi_it, isi_ll, isi_li, isi_lt, isi_tt, isi_tl, isi_ti, itemsOf, litOf, at0, at1, at2, ix30, ix31, ix32, sl0, sl1, sl2, sl3, sl4, sl5, sl6, sl7, sl8, sl9, sl10, sl11, sl12, sl13, sl14, fnSem, startE, wipeE]
      rw [List.map_set] at e
      exact e
  obtain ⟨cs', a', b', e⟩ := key ((ns.drop 12).take 51) 0 (ns.take 12) none none (fun h => by
    have : (ns.drop 12) ≠ [] := fun z => h (by rw [z]; rfl)
    have := List.length_pos_iff.mpr this
    simp at this ⊢
    omega)
  refine ⟨cs', ?_⟩
  simp only [List.map_take, List.map_drop] at e ⊢
  rw [e]
  simp [b_nil, b_cons, b_ifs, b_for, b_while, semS, e_lc, e_lc2, e_var, e_int, e_bl, e_non, e_str, e_glob, e_bin, e_neg, e_tst, e_ife, e_tup, e_lst, e_ix, e_slc, e_rev, e_call, e_callK, permL, e_bi, e_isi, e_meth, e_fz, e_fzl, e_sortK, e_isx, e_isb, e_fld, e_callT, e_emp, b_try, isxSem, fldSem, actSem, actOut, catchO, onlyT_at, semEs, semT, semAnd, semOr, semO, semC, semI, R.bind_ok, R.bind_ex, R.bind_bad, R.out_ok, R.out_ex, R.out_bad, thn_nx, thn_ret, thn_brk, thn_ct, thn_ex, thn_bad, val_nx, val_ret, val_ex, tgSem, tgsSem, binSem, addSem, augSem, ixSem, seqOf, lstOf, lstT, newL, cmpSem, cmpInts, cmpI, eqD_int, DV.isNon, biSem, biLen, biInt, biList, biTuple, biTwo, isi_ii, isi_ib, isi_il, isi_it, isi_ll, isi_li, isi_lt, isi_tt, isi_tl, isi_ti, itemsOf, litOf, at0, at1, at2, ix30, ix31, ix32, sl0, sl1, sl2, sl3, sl4, sl5, sl6, sl7, sl8, sl9, sl10, sl11, sl12, sl13, sl14, fnSem, startE, wipeE, fzSem, pen]
/-! ### a store with a pen and more -/
section
variable {s : Sto} {p : Nat}
theorem get_app (h : p < s.length) (X : Cell) (t : Sto) : (s.set p X ++ t)[p]? = some X := by
  rw [List.getElem?_append_left (by rw [List.length_set]; exact h), List.getElem?_set_self h]
theorem set_app (h : p < s.length) (X Y : Cell) (t : Sto) : (s.set p X ++ t).set p Y = s.set p Y ++ t := by
  rw [List.set_append_left _ _ (by rw [List.length_set]; exact h), List.set_set]
theorem get_tail (X : Cell) (t : Sto) (k : Nat) : (s.set p X ++ t)[s.length + k]? = t[k]? := by
  rw [List.getElem?_append_right (by rw [List.length_set]; omega), List.length_set, Nat.add_sub_cancel_left]
theorem set_tail (X Y : Cell) (t : Sto) (k : Nat) : (s.set p X ++ t).set (s.length + k) Y = s.set p X ++ t.set k Y := by
  rw [List.set_append_right _ _ (by rw [List.length_set]; omega), List.length_set, Nat.add_sub_cancel_left]
theorem get_tail0 (X : Cell) (t : Sto) : (s.set p X ++ t)[s.length]? = t[0]? := get_tail X t 0
theorem set_tail0 (X Y : Cell) (t : Sto) : (s.set p X ++ t).set s.length Y = s.set p X ++ t.set 0 Y := set_tail X Y t 0
theorem set_self {X : Cell} (h : s[p]? = some X) : s.set p X = s := by
  obtain ⟨hl, e⟩ := List.getElem?_eq_some_iff.mp h
  rw [← e, List.set_getElem_self]
theorem take_at (h : p < s.length) (t : Sto) (cells : List Int) (a c m : Int) (h0 : 0 ≤ a) (h1 : a < 900000) (hm : 0 < m) (hm2 : m.natAbs < 2 ^ 200) :
    ∃ r a2 c2, f__law_take (s.set p (pen cells a c) ++ t) [.obj p, .int m] = .ok (.int r) (s.set p (pen cells a2 c2) ++ t) ∧ 0 ≤ r ∧ r < m ∧ a ≤ a2 ∧ a2 ≤ a + 1 := by
  obtain ⟨r, a2, c2, e, q⟩ := take_ok (s.set p (pen cells a c) ++ t) p cells a c m (get_app h _ _) h0 h1 hm hm2
  rw [set_app h] at e
  exact ⟨r, a2, c2, e, q⟩
theorem pick_at (h : p < s.length) (t : Sto) (cells : List Int) (a c : Int) (xs : List D) (h0 : 0 ≤ a) (h1 : a < 900000) (hx : xs ≠ []) (hl : xs.length < 1000) (hb : ∀ x ∈ xs, ∀ m, bnd m x = true) :
    ∃ x a2 c2, f__law_q_pick (s.set p (pen cells a c) ++ t) [.obj p, .lst xs] = .ok x (s.set p (pen cells a2 c2) ++ t) ∧ x ∈ xs ∧ a ≤ a2 ∧ a2 ≤ a + 1 := by
  obtain ⟨x, a2, c2, e, q⟩ := pick_ok (s.set p (pen cells a c) ++ t) p cells a c xs (get_app h _ _) h0 h1 hx hl hb
  rw [set_app h] at e
  exact ⟨x, a2, c2, e, q⟩
end
end PF

namespace PF
open PySem PySem.Spec L2 DV
/-! ### hands drawn -/
def okT (B T : Int) (m : Mode) : Prop := 1 ≤ m.1 ∧ m.1 ≤ B ∧ -T ≤ m.2 ∧ m.2 ≤ T
theorem pure_modes : ∀ l : List Mode, pureAll (l.map eM) = true
  | [] => rfl
  | m :: l => by
    rw [List.map_cons, pureAll, pure_modes l]
    rfl
theorem lay_modes : ∀ l : List Mode, PyData.canLayAll0 (toPyAll (l.map eM)) = true ∧ PyData.depthAll (toPyAll (l.map eM)) ≤ 1
  | [] => ⟨rfl, by simp [toPyAll, PyData.depthAll]⟩
  | m :: l => by
    obtain ⟨h1, h2⟩ := lay_modes l
    rw [List.map_cons, toPyAll, PyData.canLayAll0, h1, PyData.depthAll]
    simp [eM, toPy, toPyAll, PyData.canLay0, PyData.canLayAll0, PyData.depth, PyData.depthAll, h2]
theorem eqD_nil {s : Sto} {d : D} {l : List Mode} (h : res s d = .lst (l.map eM)) : eqD s d (.lst []) = some l.isEmpty := by
  obtain ⟨h1, h2⟩ := lay_modes l
  unfold eqD
  rw [h]
  have e : PyData.eqvAll (toPyAll (l.map eM)) [] = l.isEmpty := by cases l <;> simp [toPyAll, PyData.eqvAll]
  simp [res, DV.pure, pureAll, pure_modes, toPy, toPyAll, SeqAt.shaped, PyData.canLay0, PyData.canLayAll0, h1, PyData.depth, PyData.depthAll, PyData.eqv, e]
  omega
def sizesD : List D := [1, 2, 2, 2, 3, 3, 4, 5, 7, 1000, 1000000].map D.int
theorem sizes_mem {x : D} (h : x ∈ sizesD) : ∃ v : Int, x = .int v ∧ 1 ≤ v ∧ v ≤ 1000000 := by
  simp [sizesD] at h
  rcases h with rfl | rfl | rfl | rfl | rfl | rfl | rfl | rfl <;> exact ⟨_, rfl, by decide, by decide⟩
def stepsD : List D := [0, 1, 7, -3, 1000000000000000000000000000000].map D.int
theorem steps_mem {x : D} (h : x ∈ stepsD) : ∃ v : Int, x = .int v ∧ -1000000000000000000000000000000 ≤ v ∧ v ≤ 1000000000000000000000000000000 := by
  simp [stepsD] at h
  rcases h with rfl | rfl | rfl | rfl | rfl <;> exact ⟨_, rfl, by decide, by decide⟩
theorem bnd_ints {ns : List Int} : ∀ x ∈ ns.map D.int, ∀ m, bnd m x = true := fun x hx m => by
  obtain ⟨n, _, rfl⟩ := List.mem_map.mp hx
  rw [bnd]
theorem map_erase (l : List Mode) (k : Nat) : (l.map eM).eraseIdx k = (l.eraseIdx k).map eM := by
  induction l generalizing k with
  | nil => rfl
  | cons a l ih => cases k <;> simp [ih]
theorem erase_perm : ∀ (l : List Mode) (i : Nat) (h : i < l.length), (l[i] :: l.eraseIdx i).Perm l
  | [], _, h => absurd h (by simp)
  | a :: l, 0, _ => .refl _
  | a :: l, i + 1, h => by
    have := erase_perm l i (by simpa using h)
    simp only [List.getElem_cons_succ, List.eraseIdx_cons_succ]
    exact (List.Perm.swap _ _ _).trans (this.cons a)
theorem perm_step0 {rows r0 r1 q : List Mode} {i : Nat} (hi : i < rows.length) (h : q.Perm (r0 ++ [rows[i]] ++ r1 ++ rows.eraseIdx i)) : q.Perm (r0 ++ r1 ++ rows) := by
  refine h.trans ?_
  have p := erase_perm rows i hi
  rw [List.perm_iff_count] at p ⊢
  intro a
  have := p a
  simp only [List.count_append, List.count_cons, List.count_nil] at this ⊢
  omega
theorem perm_step1 {rows r0 r1 q : List Mode} {i : Nat} (hi : i < rows.length) (h : q.Perm (r0 ++ (r1 ++ [rows[i]]) ++ rows.eraseIdx i)) : q.Perm (r0 ++ r1 ++ rows) := by
  refine h.trans ?_
  have p := erase_perm rows i hi
  rw [List.perm_iff_count] at p ⊢
  intro a
  have := p a
  simp only [List.count_append, List.count_cons, List.count_nil] at this ⊢
  omega
/-- sizes, each with the unit that the ones ahead of it fill -/
def chainF : List Int → Int → List Mode
  | [], _ => []
  | v :: vs, u => (v, u) :: chainF vs (u * v)
theorem chainF_snoc (v : Int) : ∀ (vs : List Int) (u : Int), chainF (vs ++ [v]) u = chainF vs u ++ [(v, vs.foldl (· * ·) u)]
  | [], u => rfl
  | x :: vs, u => by rw [List.cons_append, chainF, chainF_snoc v vs, chainF]; rfl
/-- hands drawn: modes that go on from one another, and at most one of size 1 -/
def Drawn (h : List (List Mode)) : Prop := ∃ (vs : List Int) (ex : List Mode), h.flatten.Perm (chainF vs 1 ++ ex) ∧ (∀ v ∈ vs, 1 ≤ v ∧ v ≤ 1000000) ∧ vs.length ≤ 6 ∧ ∀ m ∈ ex, m.1 = 1
/-- modes thrown into two rows -/
theorem throw_ok {s : Sto} {p : Nat} (hp : p < s.length) (cells : List Int) (u w z : Option D) (B T : Int) (a0 : Int) : ∀ (k : Nat) (rows r0 r1 : List Mode) (a c : Int) (x y : Option D), rows.length = k → k < 9 → 0 ≤ a → a + 2 * k < 900000 → r0.length + r1.length + k < 1000 →
    (∀ m ∈ rows, okT B T m) → (∀ m ∈ r0, okT B T m) → (∀ m ∈ r1, okT B T m) → ∀ n, k < n →
    ∃ (q0 q1 : List Mode) (a2 c2 : Int) (y : Option D), whileGo (semT (.cmp .NotEq (.var 3) (.lst false .nil)))
      (semB (.cons (.set (.name 6) (.ix (.var 4) (.call "_law_take" 2 f__law_take (.cons (.var 0) (.cons (.int 2) .nil)))))
        (.cons (.ex (.meth .append (.var 6) (.cons (.meth .popAt (.var 3) (.cons (.call "_law_take" 2 f__law_take (.cons (.var 0) (.cons (.bi .len false (.cons (.var 3) .nil)) .nil))) .nil)) .nil))) .nil)))
      n [some (.obj p), u, w, some (.obj s.length), some (.lst [.obj (s.length + 1), .obj (s.length + 2)]), z, x] (s.set p (pen cells a c) ++ [.lst (rows.map eM), .lst (r0.map eM), .lst (r1.map eM)]) =
      .nx [some (.obj p), u, w, some (.obj s.length), some (.lst [.obj (s.length + 1), .obj (s.length + 2)]), z, y] (s.set p (pen cells a2 c2) ++ [.lst [], .lst (q0.map eM), .lst (q1.map eM)]) ∧
      a ≤ a2 ∧ a2 ≤ a + 2 * k ∧ q0.length + q1.length = r0.length + r1.length + k ∧ (∀ m ∈ q0, okT B T m) ∧ (∀ m ∈ q1, okT B T m) ∧ (q0 ++ q1).Perm (r0 ++ r1 ++ rows) := by
  intro k
  induction k with
  | zero =>
    intro rows r0 r1 a c x y hk _ h0 h1 hs hr hr0 hr1 n hn
    have : rows = [] := List.length_eq_zero_iff.mp hk
    subst this
    obtain ⟨n, rfl⟩ : ∃ j, n = j + 1 := ⟨n - 1, by omega⟩
    refine ⟨r0, r1, a, c, x, ?_, by omega, by omega, by omega, hr0, hr1, by rw [List.append_nil]⟩
    rw [whileGo_succ]
    have e := eqD_nil (s := s.set p (pen cells a c) ++ [.lst [], .lst (r0.map eM), .lst (r1.map eM)]) (d := .obj s.length) (l := []) (by simp [res, get_tail0])
    simp [b_nil, b_cons, b_ifs, b_for, b_while, semS, e_lc, e_lc2, e_var, e_int, e_bl, e_non, e_str, e_glob, e_bin, e_neg, e_tst, e_ife, e_tup, e_lst, e_ix, e_slc, e_rev, e_call, e_callK, permL, e_bi, e_isi, e_meth, e_fz, e_fzl, e_sortK, e_isx, e_isb, e_fld, e_callT, e_emp, b_try, isxSem, fldSem, actSem, actOut, catchO, onlyT_at, semEs, semT, semAnd, semOr, semO, semC, semI, R.bind_ok, R.bind_ex, R.bind_bad, R.out_ok, R.out_ex, R.out_bad, thn_nx, thn_ret, thn_brk, thn_ct, thn_ex, thn_bad, val_nx, val_ret, val_ex, tgSem, tgsSem, binSem, addSem, augSem, ixSem, seqOf, lstOf, lstT, newL, cmpSem, cmpInts, cmpI, eqD_int, DV.isNon, biSem, biLen, biInt, biList, biTuple, biTwo, isi_ii, isi_ib, isi_il, isi_it, isi_ll, isi_li, isi_lt, isi_tt, isi_tl, isi_ti, itemsOf, litOf, at0, at1, at2, ix30, ix31, ix32, sl0, sl1, sl2, sl3, sl4, sl5, sl6, sl7, sl8, sl9, sl10, sl11, sl12, sl13, sl14, fnSem, startE, wipeE, e]
  | succ k ih =>
    intro rows r0 r1 a c x y hk hk9 h0 h1 hs hr hr0 hr1 n hn
    obtain ⟨n, rfl⟩ : ∃ j, n = j + 1 := ⟨n - 1, by omega⟩
    obtain ⟨r, a1, c1, e1, b1, b2, b3, b4⟩ := take_at hp [.lst (rows.map eM), .lst (r0.map eM), .lst (r1.map eM)] cells a c 2 h0 (by omega) (by decide) (by decide +kernel)
    obtain ⟨j, a2, c2, e2, b5, b6, b7, b8⟩ := take_at hp [.lst (rows.map eM), .lst (r0.map eM), .lst (r1.map eM)] cells a1 c1 rows.length (by omega) (by omega) (by omega) (by
      have : (1000 : Nat) < 2 ^ 200 := by decide +kernel
      omega)
    obtain ⟨i, rfl⟩ := Int.eq_ofNat_of_zero_le b5
    have hi : i < rows.length := by omega
    have hm := hr rows[i] (List.getElem_mem hi)
    have hget : (rows.map eM)[i]? = some (eM rows[i]) := by rw [List.getElem?_map, List.getElem?_eq_getElem hi]; rfl
    have hlen : (rows.eraseIdx i).length = k := by rw [List.length_eraseIdx_of_lt hi]; omega
    have hr' : ∀ m ∈ rows.eraseIdx i, okT B T m := fun m hm => hr m (List.mem_of_mem_eraseIdx hm)
    have e := eqD_nil (s := s.set p (pen cells a c) ++ [.lst (rows.map eM), .lst (r0.map eM), .lst (r1.map eM)]) (d := .obj s.length) (l := rows) (by simp [res, get_tail0])
    have hne : rows.isEmpty = false := by cases rows <;> simp at *
    have i63 : (i : Int) < 9223372036854775808 := by omega
    have sz : r0.length < sizeLine := by
      have : sizeLine = 16777216 := rfl
      omega
    have sz1 : r1.length < sizeLine := by
      have : sizeLine = 16777216 := rfl
      omega
    rw [whileGo_succ]
    generalize hw : whileGo (semT _) (semB _) n = Wn
    have hcase : r = 0 ∨ r = 1 := by omega
    rcases hcase with rfl | rfl
    · obtain ⟨q0, q1, a3, c3, y3, e3, g1, g2, g3, g4, g5, g6⟩ := ih (rows.eraseIdx i) (r0 ++ [rows[i]]) r1 a2 c2 (some (.obj (s.length + 1))) none hlen (by omega) (by omega) (by omega) (by simp; omega) hr' (fun m hm' => by
        rcases List.mem_append.mp hm' with h | h
        · exact hr0 m h
        · rw [List.mem_singleton.mp h]; exact hm) hr1 n (by omega)
      refine ⟨q0, q1, a3, c3, y3, ?_, by omega, by omega, by rw [g3]; simp; omega, g4, g5, perm_step0 hi g6⟩
      rw [hw] at e3
      simp [b_nil, b_cons, b_ifs, b_for, b_while, semS, e_lc, e_lc2, e_var, e_int, e_bl, e_non, e_str, e_glob, e_bin, e_neg, e_tst, e_ife, e_tup, e_lst, e_ix, e_slc, e_rev, e_call, e_callK, permL, e_bi, e_isi, e_meth, e_fz, e_fzl, e_sortK, e_isx, e_isb, e_fld, e_callT, e_emp, b_try, isxSem, fldSem, actSem, actOut, catchO, onlyT_at, semEs, semT, semAnd, semOr, semO, semC, semI, R.bind_ok, R.bind_ex, R.bind_bad, R.out_ok, R.out_ex, R.out_bad, thn_nx, thn_ret, thn_brk, thn_ct, thn_ex, thn_bad, val_nx, val_ret, val_ex, tgSem, tgsSem, binSem, addSem, augSem, ixSem, seqOf, lstOf, lstT, newL, cmpSem, cmpInts, cmpI, eqD_int, DV.isNon, biSem, biLen, biInt, biList, biTuple, biTwo, isi_ii, isi_ib, isi_il, isi_it, isi_ll, isi_li, isi_lt, isi_tt, isi_tl, isi_ti, itemsOf, litOf, at0, at1, at2, ix30, ix31, ix32, sl0, sl1, sl2, sl3, sl4, sl5, sl6, sl7, sl8, sl9, sl10, sl11, sl12, sl13, sl14, fnSem, startE, wipeE, e, hne, e1, e2, get_tail0, get_tail, set_tail0, set_tail, meSem, mePopAt, meAppend, hget, map_erase, i63, sz, Out.loop]
      simpa using e3
    · obtain ⟨q0, q1, a3, c3, y3, e3, g1, g2, g3, g4, g5, g6⟩ := ih (rows.eraseIdx i) r0 (r1 ++ [rows[i]]) a2 c2 (some (.obj (s.length + 2))) none hlen (by omega) (by omega) (by omega) (by simp; omega) hr' hr0 (fun m hm' => by
        rcases List.mem_append.mp hm' with h | h
        · exact hr1 m h
        · rw [List.mem_singleton.mp h]; exact hm) n (by omega)
      refine ⟨q0, q1, a3, c3, y3, ?_, by omega, by omega, by rw [g3]; simp; omega, g4, g5, perm_step1 hi g6⟩
      rw [hw] at e3
      simp [b_nil, b_cons, b_ifs, b_for, b_while, semS, e_lc, e_lc2, e_var, e_int, e_bl, e_non, e_str, e_glob, e_bin, e_neg, e_tst, e_ife, e_tup, e_lst, e_ix, e_slc, e_rev, e_call, e_callK, permL, e_bi, e_isi, e_meth, e_fz, e_fzl, e_sortK, e_isx, e_isb, e_fld, e_callT, e_emp, b_try, isxSem, fldSem, actSem, actOut, catchO, onlyT_at, semEs, semT, semAnd, semOr, semO, semC, semI, R.bind_ok, R.bind_ex, R.bind_bad, R.out_ok, R.out_ex, R.out_bad, thn_nx, thn_ret, thn_brk, thn_ct, thn_ex, thn_bad, val_nx, val_ret, val_ex, tgSem, tgsSem, binSem, addSem, augSem, ixSem, seqOf, lstOf, lstT, newL, cmpSem, cmpInts, cmpI, eqD_int, DV.isNon, biSem, biLen, biInt, biList, biTuple, biTwo, isi_ii, isi_ib, isi_il, isi_it, isi_ll, isi_li, isi_lt, isi_tt, isi_tl, isi_ti, itemsOf, litOf, at0, at1, at2, ix30, ix31, ix32, sl0, sl1, sl2, sl3, sl4, sl5, sl6, sl7, sl8, sl9, sl10, sl11, sl12, sl13, sl14, fnSem, startE, wipeE, e, hne, e1, e2, get_tail0, get_tail, set_tail0, set_tail, meSem, mePopAt, meAppend, hget, map_erase, i63, sz1, Out.loop]
      simpa using e3
end PF
namespace PF
open PySem PySem.Spec L2 DV
section
variable {s : Sto} {p : Nat} {cells : List Int} {a c : Int}
theorem take_app (hp : s[p]? = some (pen cells a c)) (t : Sto) (m : Int) (h0 : 0 ≤ a) (h1 : a < 900000) (hm : 0 < m) (hm2 : m.natAbs < 2 ^ 200) :
    ∃ r a2 c2, f__law_take (s ++ t) [.obj p, .int m] = .ok (.int r) (s.set p (pen cells a2 c2) ++ t) ∧ 0 ≤ r ∧ r < m ∧ a ≤ a2 ∧ a2 ≤ a + 1 := by
  have hl : p < s.length := (List.getElem?_eq_some_iff.mp hp).1
  have := take_at hl t cells a c m h0 h1 hm hm2
  rwa [set_self hp] at this
end

theorem small_lt {m : Int} (h0 : 0 ≤ m) (h : m < 1000) : m.natAbs < 2 ^ 200 := by
  have : (1000 : Nat) < 2 ^ 200 := by decide +kernel
  omega
/-- what a drawing of hands leaves -/
def HG (s : Sto) (p : Nat) (cells : List Int) (at_ : Int) (r : R D) : Prop := ∃ (h : List (List Mode)) (a2 c2 : Int) (junk : Sto), r = .ok (eH h) (s.set p (pen cells a2 c2) ++ junk) ∧ h.length = 2 ∧ h.flatten.length ≤ 7 ∧ (∀ m ∈ h.flatten, okT 1000000 1000000000000000000000000000000000000 m) ∧ at_ ≤ a2 ∧ a2 ≤ at_ + 40 ∧ Drawn h
theorem hands_ok (s : Sto) (p : Nat) (cells : List Int) (at_ c : Int) (hp : s[p]? = some (pen cells at_ c)) (h0 : 0 ≤ at_) (h1 : at_ < 800000) :
    ∃ h a2 c2, f__law_q_hands s [.obj p] = .ok (eH h) (s.set p (pen cells a2 c2)) ∧ h.length = 2 ∧ h.flatten.length ≤ 7 ∧ (∀ m ∈ h.flatten, okT 1000000 1000000000000000000000000000000000000 m) ∧ at_ ≤ a2 ∧ a2 ≤ at_ + 40 ∧ Drawn h := by
  have hl : p < s.length := (List.getElem?_eq_some_iff.mp hp).1
  obtain ⟨r, a1, c1, e1, b1, b2, b3, b4⟩ := take_app hp [.lst [], .lst [], .lst []] 7 h0 (by omega) (by decide) (by decide +kernel)
  suffices hs : HG s p cells at_ (fnSem N__law_q_hands ir__law_q_hands s [.obj p]) by
    obtain ⟨h, a2, c2, junk, e, q⟩ := hs
    exact ⟨h, a2, c2, fnD_set e (bnd_pen ..) (bnd_eH _), q⟩
  have hr : rOk r := ⟨by omega, by omega⟩
  have p6 : CPow 10 6 := by decide
  have p30 : CPow 10 30 := by decide
  simp [b_nil, b_cons, b_ifs, b_for, b_while, semS, e_lc, e_lc2, e_var, e_int, e_bl, e_non, e_str, e_glob, e_bin, e_neg, e_tst, e_ife, e_tup, e_lst, e_ix, e_slc, e_rev, e_call, e_callK, permL, e_bi, e_isi, e_meth, e_fz, e_fzl, e_sortK, e_isx, e_isb, e_fld, e_callT, e_emp, b_try, isxSem, fldSem, actSem, actOut, catchO, onlyT_at, semEs, semT, semAnd, semOr, semO, semC, semI, R.bind_ok, R.bind_ex, R.bind_bad, R.out_ok, R.out_ex, R.out_bad, thn_nx, thn_ret, thn_brk, thn_ct, thn_ex, thn_bad, val_nx, val_ret, val_ex, tgSem, tgsSem, binSem, addSem, augSem, ixSem, seqOf, lstOf, lstT, newL, cmpSem, cmpInts, cmpI, eqD_int, DV.isNon, biSem, biLen, biInt, biList, biTuple, biTwo, isi_ii, isi_ib, isi_il, isi_it, isi_ll, isi_li, isi_lt, isi_tt, isi_tl, isi_ti, itemsOf, litOf, at0, at1, at2, ix30, ix31, ix32, sl0, sl1, sl2, sl3, sl4, sl5, sl6, sl7, sl8, sl9, sl10, sl11, sl12, sl13, sl14, fnSem, startE, wipeE, N__law_q_hands, ir__law_q_hands, List.append_assoc, e1, hr, show s.length + 1 + 1 = s.length + 2 from rfl]
  rw [rangeD0]
  have hn : r.toNat < 7 := by omega
  generalize hr0 : List.range r.toNat = rs
  have hrl : rs.length < 7 := by rw [← hr0, List.length_range]; exact hn
  refine pre_k (fun o => HG s p cells at_ (o.thn _).val)
    (fun pre ρ s' => ∃ (rows : List Mode) (a c : Int) (u : Nat) (x y : Option D), s' = s.set p (pen cells a c) ++ [.lst (rows.map eM), .lst [], .lst []] ∧ ρ = [some (.obj p), x, some (.int u), some (.obj s.length), some (.lst [.obj (s.length + 1), .obj (s.length + 2)]), y, none] ∧
      rows.length = pre.length ∧ a1 ≤ a ∧ a ≤ a1 + pre.length ∧ u ≤ 1000000 ^ pre.length ∧ (∀ m ∈ rows, okT 1000000 1000000000000000000000000000000000000 m) ∧ ∃ vs : List Int, rows = chainF vs 1 ∧ (u : Int) = vs.foldl (· * ·) 1 ∧ (∀ v ∈ vs, 1 ≤ v ∧ v ≤ 1000000) ∧ vs.length = pre.length)
    ⟨[], a1, c1, 1, none, none, rfl, rfl, rfl, by omega, by simp, by simp, by simp, [], rfl, rfl, by simp, rfl⟩ ?_ ?_
  · rintro pre i post rfl ρ s' ⟨rows, a, c, u, x, y, rfl, rfl, hlen, l1, l2, l3, hrows, vs, hvs, huv, hv1, hvl⟩
    simp at hrl
    obtain ⟨v, a2, c2, e2, hv, l4, l5⟩ := pick_at hl [.lst (rows.map eM), .lst [], .lst []] cells a c sizesD (by omega) (by omega) (by decide) (by decide) bnd_ints
    obtain ⟨v, rfl, v1, v2⟩ := sizes_mem hv
    simp only [sizesD, List.map] at e2
    have hu6 : (u : Int) ≤ 1000000000000000000000000000000000000 := by
      have : 1000000 ^ pre.length ≤ 1000000 ^ 6 := Nat.pow_le_pow_right (by decide) (by omega)
      have e : 1000000 ^ 6 = 1000000000000000000000000000000000000 := by decide +kernel
      omega
    have hmul : CMulW u v := mulW_of (a := 200) (b := 64) (by
      have : 1000000000000000000000000000000000000 < 2 ^ 200 := by decide +kernel
      omega) (by omega) (by decide)
    have sz : rows.length < sizeLine := by
      have : sizeLine = 16777216 := rfl
      omega
    refine ⟨_, _, .inl ?_, rows ++ [(v, (u : Int))], a2, c2, u * v.toNat, some (.int i), some (.int v), rfl, rfl, by simp [hlen], by omega, by simp; omega, ?_, ?_, vs ++ [v], ?_, ?_, ?_, by simp [hvl]⟩
    · have ev : ((u * v.toNat : Nat) : Int) = u * v := by
        rw [Int.natCast_mul, Int.toNat_of_nonneg (by omega)]
      simp [forBd_at, b_nil, b_cons, b_ifs, b_for, b_while, semS, e_lc, e_lc2, e_var, e_int, e_bl, e_non, e_str, e_glob, e_bin, e_neg, e_tst, e_ife, e_tup, e_lst, e_ix, e_slc, e_rev, e_call, e_callK, permL, e_bi, e_isi, e_meth, e_fz, e_fzl, e_sortK, e_isx, e_isb, e_fld, e_callT, e_emp, b_try, isxSem, fldSem, actSem, actOut, catchO, onlyT_at, semEs, semT, semAnd, semOr, semO, semC, semI, R.bind_ok, R.bind_ex, R.bind_bad, R.out_ok, R.out_ex, R.out_bad, thn_nx, thn_ret, thn_brk, thn_ct, thn_ex, thn_bad, val_nx, val_ret, val_ex, tgSem, tgsSem, binSem, addSem, augSem, ixSem, seqOf, lstOf, lstT, newL, cmpSem, cmpInts, cmpI, eqD_int, DV.isNon, biSem, biLen, biInt, biList, biTuple, biTwo, isi_ii, isi_ib, isi_il, isi_it, isi_ll, isi_li, isi_lt, isi_tt, isi_tl, isi_ti, itemsOf, litOf, at0, at1, at2, ix30, ix31, ix32, sl0, sl1, sl2, sl3, sl4, sl5, sl6, sl7, sl8, sl9, sl10, sl11, sl12, sl13, sl14, fnSem, startE, wipeE, p6, e2, get_tail0, set_tail0, meSem, meAppend, sz, hmul, eM, ev]
    · rw [List.length_append, List.length_singleton, Nat.pow_succ]
      exact Nat.mul_le_mul l3 (by omega)
    · intro m hm
      rcases List.mem_append.mp hm with h | h
      · exact hrows m h
      · rw [List.mem_singleton.mp h]
        exact ⟨v1, v2, by omega, hu6⟩
    · rw [chainF_snoc, ← hvs, ← huv]
    · rw [List.foldl_append, ← huv, Int.natCast_mul, Int.toNat_of_nonneg (by omega)]
      rfl
    · intro w hw
      rcases List.mem_append.mp hw with h | h
      · exact hv1 w h
      · rw [List.mem_singleton.mp h]
        exact ⟨v1, v2⟩
  · rintro ρ' s' ⟨rows, a, c, u, x, y, rfl, rfl, hlen, l1, l2, l3, hrows, vs, hvs, huv, hv1, hvl⟩
    obtain ⟨t, a2, c2, e2, b5, b6, b7, b8⟩ := take_at hl [.lst (rows.map eM), .lst [], .lst []] cells a c 3 (by omega) (by omega) (by decide) (by decide +kernel)
    obtain ⟨v, a3, c3, e3, hv, l4, l5⟩ := pick_at hl [.lst (rows.map eM), .lst [], .lst []] cells a2 c2 stepsD (by omega) (by omega) (by decide) (by decide) bnd_ints
    obtain ⟨v, rfl, v1, v2⟩ := steps_mem hv
    simp only [stepsD, List.map] at e3
    have sz : rows.length < sizeLine := by
      have : sizeLine = 16777216 := rfl
      omega
    by_cases ht : t = 0
    · subst ht
      obtain ⟨q0, q1, a4, c4, y4, e4, g1, g2, g3, g4, g5, g6⟩ := throw_ok (s := s) hl cells x (some (.int u)) y 1000000 1000000000000000000000000000000000000 0 (rows.length + 1) (rows ++ [(1, v)]) [] [] a3 c3 none none (by simp) (by omega) (by omega) (by omega) (by simp; omega) (fun m hm => by
        rcases List.mem_append.mp hm with h | h
        · exact hrows m h
        · rw [List.mem_singleton.mp h]
          exact ⟨Int.le_refl 1, show (1 : Int) ≤ 1000000 by decide, show -1000000000000000000000000000000000000 ≤ v by omega, show v ≤ 1000000000000000000000000000000000000 by omega⟩) (by simp) (by simp) 9 (by omega)
      refine ⟨[q0, q1], a4, c4, [.lst [], .dead, .dead], ?_, rfl, by simp at g3 ⊢; omega, ?_, by omega, by omega, ⟨vs, [(1, v)], by rw [← hvs]; simpa using g6, hv1, by omega, by simp⟩⟩
      · simp [b_nil, b_cons, b_ifs, b_for, b_while, semS, e_lc, e_lc2, e_var, e_int, e_bl, e_non, e_str, e_glob, e_bin, e_neg, e_tst, e_ife, e_tup, e_lst, e_ix, e_slc, e_rev, e_call, e_callK, permL, e_bi, e_isi, e_meth, e_fz, e_fzl, e_sortK, e_isx, e_isb, e_fld, e_callT, e_emp, b_try, isxSem, fldSem, actSem, actOut, catchO, onlyT_at, semEs, semT, semAnd, semOr, semO, semC, semI, R.bind_ok, R.bind_ex, R.bind_bad, R.out_ok, R.out_ex, R.out_bad, thn_nx, thn_ret, thn_brk, thn_ct, thn_ex, thn_bad, val_nx, val_ret, val_ex, tgSem, tgsSem, binSem, addSem, augSem, ixSem, seqOf, lstOf, lstT, newL, cmpSem, cmpInts, cmpI, eqD_int, DV.isNon, biSem, biLen, biInt, biList, biTuple, biTwo, isi_ii, isi_ib, isi_il, isi_it, isi_ll, isi_li, isi_lt, isi_tt, isi_tl, isi_ti, itemsOf, litOf, at0, at1, at2, ix30, ix31, ix32, sl0, sl1, sl2, sl3, sl4, sl5, sl6, sl7, sl8, sl9, sl10, sl11, sl12, sl13, sl14, fnSem, startE, wipeE, p30, e2, e3, get_tail0, set_tail0, meSem, meAppend, sz, eM] at e4 ⊢
        rw [e4]
        simp [b_nil, b_cons, b_ifs, b_for, b_while, semS, e_lc, e_lc2, e_var, e_int, e_bl, e_non, e_str, e_glob, e_bin, e_neg, e_tst, e_ife, e_tup, e_lst, e_ix, e_slc, e_rev, e_call, e_callK, permL, e_bi, e_isi, e_meth, e_fz, e_fzl, e_sortK, e_isx, e_isb, e_fld, e_callT, e_emp, b_try, isxSem, fldSem, actSem, actOut, catchO, onlyT_at, semEs, semT, semAnd, semOr, semO, semC, semI, R.bind_ok, R.bind_ex, R.bind_bad, R.out_ok, R.out_ex, R.out_bad, thn_nx, thn_ret, thn_brk, thn_ct, thn_ex, thn_bad, val_nx, val_ret, val_ex, tgSem, tgsSem, binSem, addSem, augSem, ixSem, seqOf, lstOf, lstT, newL, cmpSem, cmpInts, cmpI, eqD_int, DV.isNon, biSem, biLen, biInt, biList, biTuple, biTwo, isi_ii, isi_ib, isi_il, isi_it, isi_ll, isi_li, isi_lt, isi_tt, isi_tl, isi_ti, itemsOf, litOf, at0, at1, at2, ix30, ix31, ix32, sl0, sl1, sl2, sl3, sl4, sl5, sl6, sl7, sl8, sl9, sl10, sl11, sl12, sl13, sl14, fnSem, startE, wipeE, fzlSem, fzAll, get_tail, set_tail, eA, eH]
      · intro m hm
        simp at hm
        rcases hm with h | h
        · exact g4 m h
        · exact g5 m h
    · obtain ⟨q0, q1, a4, c4, y4, e4, g1, g2, g3, g4, g5, g6⟩ := throw_ok (s := s) hl cells x (some (.int u)) y 1000000 1000000000000000000000000000000000000 0 rows.length rows [] [] a2 c2 none none rfl (by omega) (by omega) (by omega) (by simp; omega) hrows (by simp) (by simp) 9 (by omega)
      refine ⟨[q0, q1], a4, c4, [.lst [], .dead, .dead], ?_, rfl, by simp at g3 ⊢; omega, ?_, by omega, by omega, ⟨vs, [], by rw [← hvs]; simpa using g6, hv1, by omega, by simp⟩⟩
      · simp [b_nil, b_cons, b_ifs, b_for, b_while, semS, e_lc, e_lc2, e_var, e_int, e_bl, e_non, e_str, e_glob, e_bin, e_neg, e_tst, e_ife, e_tup, e_lst, e_ix, e_slc, e_rev, e_call, e_callK, permL, e_bi, e_isi, e_meth, e_fz, e_fzl, e_sortK, e_isx, e_isb, e_fld, e_callT, e_emp, b_try, isxSem, fldSem, actSem, actOut, catchO, onlyT_at, semEs, semT, semAnd, semOr, semO, semC, semI, R.bind_ok, R.bind_ex, R.bind_bad, R.out_ok, R.out_ex, R.out_bad, thn_nx, thn_ret, thn_brk, thn_ct, thn_ex, thn_bad, val_nx, val_ret, val_ex, tgSem, tgsSem, binSem, addSem, augSem, ixSem, seqOf, lstOf, lstT, newL, cmpSem, cmpInts, cmpI, eqD_int, DV.isNon, biSem, biLen, biInt, biList, biTuple, biTwo, isi_ii, isi_ib, isi_il, isi_it, isi_ll, isi_li, isi_lt, isi_tt, isi_tl, isi_ti, itemsOf, litOf, at0, at1, at2, ix30, ix31, ix32, sl0, sl1, sl2, sl3, sl4, sl5, sl6, sl7, sl8, sl9, sl10, sl11, sl12, sl13, sl14, fnSem, startE, wipeE, p30, e2, e3, get_tail0, set_tail0, meSem, meAppend, sz, eM, ht] at e4 ⊢
        rw [e4]
        simp [b_nil, b_cons, b_ifs, b_for, b_while, semS, e_lc, e_lc2, e_var, e_int, e_bl, e_non, e_str, e_glob, e_bin, e_neg, e_tst, e_ife, e_tup, e_lst, e_ix, e_slc, e_rev, e_call, e_callK, permL, e_bi, e_isi, e_meth, e_fz, e_fzl, e_sortK, e_isx, e_isb, e_fld, e_callT, e_emp, b_try, isxSem, fldSem, actSem, actOut, catchO, onlyT_at, semEs, semT, semAnd, semOr, semO, semC, semI, R.bind_ok, R.bind_ex, R.bind_bad, R.out_ok, R.out_ex, R.out_bad, thn_nx, thn_ret, thn_brk, thn_ct, thn_ex, thn_bad, val_nx, val_ret, val_ex, tgSem, tgsSem, binSem, addSem, augSem, ixSem, seqOf, lstOf, lstT, newL, cmpSem, cmpInts, cmpI, eqD_int, DV.isNon, biSem, biLen, biInt, biList, biTuple, biTwo, isi_ii, isi_ib, isi_il, isi_it, isi_ll, isi_li, isi_lt, isi_tt, isi_tl, isi_ti, itemsOf, litOf, at0, at1, at2, ix30, ix31, ix32, sl0, sl1, sl2, sl3, sl4, sl5, sl6, sl7, sl8, sl9, sl10, sl11, sl12, sl13, sl14, fnSem, startE, wipeE, fzlSem, fzAll, get_tail, set_tail, eA, eH]
      · intro m hm
        simp at hm
        rcases hm with h | h
        · exact g4 m h
        · exact g5 m h
end PF

namespace PF
open PySem PySem.Spec L2 DV
/-! ### hands drawn hold all -/
theorem perm_sum' {a b : List Int} (h : a.Perm b) : a.sum = b.sum := by
  induction h with
  | nil => rfl
  | cons x _ ih => rw [List.sum_cons, List.sum_cons, ih]
  | swap x y l => simp only [List.sum_cons]; omega
  | trans _ _ h1 h2 => rw [h1, h2]
theorem chain_ge : ∀ (vs : List Int) (u : Int), 0 < u → (∀ v ∈ vs, 1 ≤ v) → ∀ r ∈ pairs (chainF vs u), ∃ t n, r = [t, n] ∧ u ≤ t ∧ 1 < n
  | [], _, _, _, r, h => by simp [chainF, pairs] at h
  | v :: vs, u, hu, hv, r, h => by
    have h1 := hv v (List.mem_cons_self ..)
    have hle : u ≤ u * v := by
      have := Int.mul_le_mul_of_nonneg_left h1 (show 0 ≤ u by omega)
      omega
    have ih := chain_ge vs (u * v) (by omega) fun x hx => hv x (List.mem_cons_of_mem _ hx)
    unfold pairs at *
    rw [chainF, List.filter_cons] at h
    split at h
    · rename_i hc
      rcases List.mem_cons.mp h with rfl | h
      · exact ⟨u, v, rfl, Int.le_refl _, of_decide_eq_true hc⟩
      · obtain ⟨t, n, e, q1, q2⟩ := ih r h
        exact ⟨t, n, e, by omega, q2⟩
    · obtain ⟨t, n, e, q1, q2⟩ := ih r h
      exact ⟨t, n, e, by omega, q2⟩
theorem chain_sorted : ∀ (vs : List Int) (u : Int), 0 < u → (∀ v ∈ vs, 1 ≤ v) → (pairs (chainF vs u)).Pairwise fun a b => HT.lexLt b a = false
  | [], _, _, _ => by simp [chainF, pairs]
  | v :: vs, u, hu, hv => by
    have h1 := hv v (List.mem_cons_self ..)
    have hv' : ∀ x ∈ vs, 1 ≤ x := fun x hx => hv x (List.mem_cons_of_mem _ hx)
    have hp : 0 < u * v := Int.mul_pos hu (by omega)
    have ih := chain_sorted vs (u * v) hp hv'
    have hg := chain_ge vs (u * v) hp hv'
    unfold pairs at *
    rw [chainF, List.filter_cons]
    split
    · rename_i hc
      have hc : 1 < v := of_decide_eq_true hc
      rw [List.map_cons]
      refine List.pairwise_cons.mpr ⟨fun b hb => ?_, ih⟩
      obtain ⟨t, n, rfl, q1, q2⟩ := hg b hb
      have hlt : u < t := by
        have := Int.mul_le_mul_of_nonneg_left (show 2 ≤ v by omega) (show 0 ≤ u by omega)
        omega
      rw [HT.lexLt_cons, if_neg (by omega)]
      exact decide_eq_false (by omega)
    · exact ih
theorem walk_chain : ∀ (vs : List Int) (u : Int), (∀ v ∈ vs, 1 ≤ v) → walkL (pairs (chainF vs u)) u = .full
  | [], _, _ => rfl
  | v :: vs, u, hv => by
    have h1 := hv v (List.mem_cons_self ..)
    have ih := walk_chain vs (u * v) fun x hx => hv x (List.mem_cons_of_mem _ hx)
    unfold pairs at *
    rw [chainF, List.filter_cons]
    split
    · rw [List.map_cons, walkL, if_pos rfl]
      exact ih
    · rename_i hc
      have hc : ¬ 1 < v := fun z => hc (decide_eq_true z)
      have e : v = 1 := by omega
      rw [e, Int.mul_one] at ih ⊢
      exact ih
theorem pairs_append (a b : List Mode) : pairs (a ++ b) = pairs a ++ pairs b := by simp [pairs]
theorem pairs_one : ∀ (l : List Mode), (∀ m ∈ l, m.1 = 1) → pairs l = []
  | [], _ => rfl
  | m :: l, h => by
    have h1 := h m (List.mem_cons_self ..)
    have := pairs_one l fun x hx => h x (List.mem_cons_of_mem _ hx)
    unfold pairs at *
    rw [List.filter_cons, h1]
    exact this
theorem drawn_sort {h : List (List Mode)} {vs : List Int} {ex : List Mode} (hp : h.flatten.Perm (chainF vs 1 ++ ex)) (hv : ∀ v ∈ vs, 1 ≤ v) (he : ∀ m ∈ ex, m.1 = 1) : sortT (pairs h.flatten) = pairs (chainF vs 1) := by
  refine (sortT_uniq ?_ (chain_sorted vs 1 (by decide) hv)).symm
  have e : (pairs h.flatten).Perm (pairs (chainF vs 1 ++ ex)) := by
    unfold pairs
    exact (hp.filter _).map _
  rw [pairs_append, pairs_one ex he, List.append_nil] at e
  exact e.symm
theorem low_zero : ∀ (l : List Mode), (∀ m ∈ l, ¬ (m.1 - 1) * m.2 < 0) → lowM l = 0
  | [], _ => rfl
  | m :: l, h => by
    have h1 := h m (List.mem_cons_self ..)
    have ih := low_zero l fun x hx => h x (List.mem_cons_of_mem _ hx)
    unfold lowM at *
    rw [List.map_cons, List.filter_cons, if_neg (by simpa using h1)]
    exact ih
theorem chain_mem : ∀ (vs : List Int) (u : Int), 0 < u → (∀ v ∈ vs, 1 ≤ v) → ∀ m ∈ chainF vs u, 1 ≤ m.1 ∧ 0 < m.2
  | [], _, _, _, m, h => by simp [chainF] at h
  | v :: vs, u, hu, hv, m, h => by
    have h1 := hv v (List.mem_cons_self ..)
    rw [chainF] at h
    rcases List.mem_cons.mp h with rfl | h
    · exact ⟨h1, hu⟩
    · exact chain_mem vs (u * v) (Int.mul_pos hu (by omega)) (fun x hx => hv x (List.mem_cons_of_mem _ hx)) m h
theorem drawn_full {h : List (List Mode)} (hd : Drawn h) : ansOf h.flatten = .full := by
  obtain ⟨vs, ex, hp, hv, hl, he⟩ := hd
  have hv' : ∀ v ∈ vs, 1 ≤ v := fun v h => (hv v h).1
  have h0 : lowM h.flatten = 0 := low_zero _ fun m hm => by
    rcases List.mem_append.mp (hp.mem_iff.mp hm) with h | h
    · obtain ⟨a, b⟩ := chain_mem vs 1 (by decide) hv' m h
      have := Int.mul_nonneg (show 0 ≤ m.1 - 1 by omega) (show 0 ≤ m.2 by omega)
      omega
    · rw [he m h]
      simp
  unfold ansOf
  rw [if_neg (by omega), drawn_sort hp hv' he]
  exact walk_chain vs 1 hv'
end PF

namespace PF
open PySem PySem.Spec L2 DV
/-! ### values -/
def valM : List Mode → Int → Int
  | [], _ => 0
  | m :: r, i => i % m.1 * m.2 + valM r (i / m.1)
def leftM : List Mode → Int → Int
  | [], i => i
  | m :: r, i => leftM r (i / m.1)
theorem leftM_snoc (m : Mode) : ∀ (l : List Mode) (i : Int), leftM (l ++ [m]) i = leftM l i / m.1
  | [], i => rfl
  | x :: l, i => by rw [List.cons_append, leftM, leftM_snoc m l, leftM]
theorem valM_snoc (m : Mode) : ∀ (l : List Mode) (i : Int), valM (l ++ [m]) i = valM l i + leftM l i % m.1 * m.2
  | [], i => by simp [valM, leftM]
  | x :: l, i => by rw [List.cons_append, valM, valM_snoc m l, valM, leftM]; omega
theorem leftM_le : ∀ (l : List Mode) (i : Int), (∀ m ∈ l, 1 ≤ m.1) → 0 ≤ i → 0 ≤ leftM l i ∧ leftM l i ≤ i
  | [], i, _, h => ⟨h, Int.le_refl _⟩
  | m :: l, i, hm, h => by
    have h1 := hm m (List.mem_cons_self ..)
    have h2 : 0 ≤ i / m.1 := Int.ediv_nonneg h (by omega)
    have h3 : i / m.1 ≤ i := Int.ediv_le_self _ h
    obtain ⟨a, b⟩ := leftM_le l (i / m.1) (fun x hx => hm x (List.mem_cons_of_mem _ hx)) h2
    exact ⟨a, by rw [leftM]; omega⟩
theorem raw_value_ok (s : Sto) (h : List (List Mode)) (hl : h.flatten.length ≤ 200) (hm : ∀ m ∈ h.flatten, okM m) (i : Int) (h0 : 0 ≤ i) (h1 : i.natAbs < 2 ^ 300) : f_raw_value s [eH h, .int i] = .ok (.int (valM h.flatten i)) s := by
  have hsz : sizeLine = 16777216 := rfl
  refine fnD_of ?_ (by rw [bnd])
  have m1 : f_modes_of s [D.lst (h.map eA)] = .ok (.lst (h.flatten.map eM)) s := modes_of_ok s h (by omega)
  unfold eH
  generalize h.flatten = l at *
  simp [b_nil, b_cons, b_ifs, b_for, b_while, semS, e_lc, e_lc2, e_var, e_int, e_bl, e_non, e_str, e_glob, e_bin, e_neg, e_tst, e_ife, e_tup, e_lst, e_ix, e_slc, e_rev, e_call, e_callK, permL, e_bi, e_isi, e_meth, e_fz, e_fzl, e_sortK, e_isx, e_isb, e_fld, e_callT, e_emp, b_try, isxSem, fldSem, actSem, actOut, catchO, onlyT_at, semEs, semT, semAnd, semOr, semO, semC, semI, R.bind_ok, R.bind_ex, R.bind_bad, R.out_ok, R.out_ex, R.out_bad, thn_nx, thn_ret, thn_brk, thn_ct, thn_ex, thn_bad, val_nx, val_ret, val_ex, tgSem, tgsSem, binSem, addSem, augSem, ixSem, seqOf, lstOf, lstT, newL, cmpSem, cmpInts, cmpI, eqD_int, DV.isNon, biSem, biLen, biInt, biList, biTuple, biTwo, isi_ii, isi_ib, isi_il, isi_it, isi_ll, isi_li, isi_lt, isi_tt, isi_tl, isi_ti, itemsOf, litOf, at0, at1, at2, ix30, ix31, ix32, sl0, sl1, sl2, sl3, sl4, sl5, sl6, sl7, sl8, sl9, sl10, sl11, sl12, sl13, sl14, fnSem, startE, wipeE, N_raw_value, ir_raw_value, m1]
  refine pre_k (fun o => (o.thn _).val = _) (fun b ρ s' => s' = s ∧ ∃ x y, ρ = [some (.lst (h.map eA)), some (.int i), some (.int (valM b i)), some (.int (leftM b i)), x, y]) ⟨rfl, _, _, rfl⟩ ?_ ?_
  · rintro pre m post rfl ρ s' ⟨rfl, x, y, rfl⟩
    refine ⟨_, s', .inl ?_, rfl, some (.int m.1), some (.int m.2), rfl⟩
    have hok := hm m (by simp)
    have hp : 0 < m.1 := by have := hok.1.1; omega
    obtain ⟨a, b⟩ := leftM_le pre i (fun x hx => (hm x (List.mem_append_left _ hx)).1.1) h0
    have r0 := Int.emod_nonneg (leftM pre i) (show m.1 ≠ 0 by omega)
    have r1 : leftM pre i % m.1 ≤ leftM pre i := by
      have := Int.mul_nonneg (show 0 ≤ m.1 by omega) (Int.ediv_nonneg a (show 0 ≤ m.1 by omega))
      rw [Int.emod_def]
      omega
    have hc : CMulW (leftM pre i % m.1) m.2 := mulW_of (a := 300) (b := 200) (Nat.lt_of_le_of_lt (by omega) h1) (okM_lt2 hok) (by decide)
    have hd : CDivW (leftM pre i) m.1 := divW_of hp (Nat.lt_of_lt_of_le (okM_lt hok) (Nat.pow_le_pow_right (by decide) (by decide)))
    simp [forBd_at, b_nil, b_cons, b_ifs, b_for, b_while, semS, e_lc, e_lc2, e_var, e_int, e_bl, e_non, e_str, e_glob, e_bin, e_neg, e_tst, e_ife, e_tup, e_lst, e_ix, e_slc, e_rev, e_call, e_callK, permL, e_bi, e_isi, e_meth, e_fz, e_fzl, e_sortK, e_isx, e_isb, e_fld, e_callT, e_emp, b_try, isxSem, fldSem, actSem, actOut, catchO, onlyT_at, semEs, semT, semAnd, semOr, semO, semC, semI, R.bind_ok, R.bind_ex, R.bind_bad, R.out_ok, R.out_ex, R.out_bad, thn_nx, thn_ret, thn_brk, thn_ct, thn_ex, thn_bad, val_nx, val_ret, val_ex, tgSem, tgsSem, binSem, addSem, augSem, ixSem, seqOf, lstOf, lstT, newL, cmpSem, cmpInts, cmpI, eqD_int, DV.isNon, biSem, biLen, biInt, biList, biTuple, biTwo, isi_ii, isi_ib, isi_il, isi_it, isi_ll, isi_li, isi_lt, isi_tt, isi_tl, isi_ti, itemsOf, litOf, at0, at1, at2, ix30, ix31, ix32, sl0, sl1, sl2, sl3, sl4, sl5, sl6, sl7, sl8, sl9, sl10, sl11, sl12, sl13, sl14, fnSem, startE, wipeE, eM, hp, hc, hd, valM_snoc, leftM_snoc]
  · rintro ρ' s' ⟨rfl, x, y, rfl⟩
    simp [b_nil, b_cons, b_ifs, b_for, b_while, semS, e_lc, e_lc2, e_var, e_int, e_bl, e_non, e_str, e_glob, e_bin, e_neg, e_tst, e_ife, e_tup, e_lst, e_ix, e_slc, e_rev, e_call, e_callK, permL, e_bi, e_isi, e_meth, e_fz, e_fzl, e_sortK, e_isx, e_isb, e_fld, e_callT, e_emp, b_try, isxSem, fldSem, actSem, actOut, catchO, onlyT_at, semEs, semT, semAnd, semOr, semO, semC, semI, R.bind_ok, R.bind_ex, R.bind_bad, R.out_ok, R.out_ex, R.out_bad, thn_nx, thn_ret, thn_brk, thn_ct, thn_ex, thn_bad, val_nx, val_ret, val_ex, tgSem, tgsSem, binSem, addSem, augSem, ixSem, seqOf, lstOf, lstT, newL, cmpSem, cmpInts, cmpI, eqD_int, DV.isNon, biSem, biLen, biInt, biList, biTuple, biTwo, isi_ii, isi_ib, isi_il, isi_it, isi_ll, isi_li, isi_lt, isi_tt, isi_tl, isi_ti, itemsOf, litOf, at0, at1, at2, ix30, ix31, ix32, sl0, sl1, sl2, sl3, sl4, sl5, sl6, sl7, sl8, sl9, sl10, sl11, sl12, sl13, sl14, fnSem, startE, wipeE]
/-! ### hands that hold all -/
/-- what holds of hands that the law draws -/
structure Hnd (h : List (List Mode)) : Prop where
  two : h.length = 2
  few : h.flatten.length ≤ 7
  ok : ∀ m ∈ h.flatten, okM m
  full : ansOf h.flatten = .full
  many : prodM h.flatten ≤ 10000000000000000000000000000000000000000
theorem cut_first (xs : List D) (k : Nat) : cutD xs none (some (k : Int)) = xs.take k := by
  unfold cutD
  rw [HT.sIx_none, HT.sIx_nat, Nat.sub_zero, List.drop_zero]
  by_cases h : k ≤ xs.length
  · rw [Nat.min_eq_left h]
  · rw [Nat.min_eq_right (by omega), List.take_length, List.take_of_length_le (by omega)]
theorem need_hands_ok (s : Sto) {h : List (List Mode)} (g : Hnd h) : f_need_hands s [eH h] = .ok .non s := by
  have e1 := is_axes_ok s h (by have := g.two; omega) (by have := g.few; omega) g.ok g.many
  have e2 := holding_of_ok s h (by have := g.few; omega) g.ok
  rw [g.full] at e2
  have h2 := g.two
  have e3 : f_need_axes s [eH h] = .ok .non s := by
    refine fnD_of ?_ (by rw [bnd])
    simp [b_nil, b_cons, b_ifs, b_for, b_while, semS, e_lc, e_lc2, e_var, e_int, e_bl, e_non, e_str, e_glob, e_bin, e_neg, e_tst, e_ife, e_tup, e_lst, e_ix, e_slc, e_rev, e_call, e_callK, permL, e_bi, e_isi, e_meth, e_fz, e_fzl, e_sortK, e_isx, e_isb, e_fld, e_callT, e_emp, b_try, isxSem, fldSem, actSem, actOut, catchO, onlyT_at, semEs, semT, semAnd, semOr, semO, semC, semI, R.bind_ok, R.bind_ex, R.bind_bad, R.out_ok, R.out_ex, R.out_bad, thn_nx, thn_ret, thn_brk, thn_ct, thn_ex, thn_bad, val_nx, val_ret, val_ex, tgSem, tgsSem, binSem, addSem, augSem, ixSem, seqOf, lstOf, lstT, newL, cmpSem, cmpInts, cmpI, eqD_int, DV.isNon, biSem, biLen, biInt, biList, biTuple, biTwo, isi_ii, isi_ib, isi_il, isi_it, isi_ll, isi_li, isi_lt, isi_tt, isi_tl, isi_ti, itemsOf, litOf, at0, at1, at2, ix30, ix31, ix32, sl0, sl1, sl2, sl3, sl4, sl5, sl6, sl7, sl8, sl9, sl10, sl11, sl12, sl13, sl14, fnSem, startE, wipeE, N_need_axes, ir_need_axes, e1]
  have e4 : f_does_hold_all s [eH h] = .ok (.bl true) s := by
    refine fnD_of ?_ (by rw [bnd])
    unfold eH at *
    simp [b_nil, b_cons, b_ifs, b_for, b_while, semS, e_lc, e_lc2, e_var, e_int, e_bl, e_non, e_str, e_glob, e_bin, e_neg, e_tst, e_ife, e_tup, e_lst, e_ix, e_slc, e_rev, e_call, e_callK, permL, e_bi, e_isi, e_meth, e_fz, e_fzl, e_sortK, e_isx, e_isb, e_fld, e_callT, e_emp, b_try, isxSem, fldSem, actSem, actOut, catchO, onlyT_at, semEs, semT, semAnd, semOr, semO, semC, semI, R.bind_ok, R.bind_ex, R.bind_bad, R.out_ok, R.out_ex, R.out_bad, thn_nx, thn_ret, thn_brk, thn_ct, thn_ex, thn_bad, val_nx, val_ret, val_ex, tgSem, tgsSem, binSem, addSem, augSem, ixSem, seqOf, lstOf, lstT, newL, cmpSem, cmpInts, cmpI, eqD_int, DV.isNon, biSem, biLen, biInt, biList, biTuple, biTwo, isi_ii, isi_ib, isi_il, isi_it, isi_ll, isi_li, isi_lt, isi_tt, isi_tl, isi_ti, itemsOf, litOf, at0, at1, at2, ix30, ix31, ix32, sl0, sl1, sl2, sl3, sl4, sl5, sl6, sl7, sl8, sl9, sl10, sl11, sl12, sl13, sl14, fnSem, startE, wipeE, N_does_hold_all, ir_does_hold_all, e2, h2, eAns]
  refine fnD_of ?_ (by rw [bnd])
  simp [b_nil, b_cons, b_ifs, b_for, b_while, semS, e_lc, e_lc2, e_var, e_int, e_bl, e_non, e_str, e_glob, e_bin, e_neg, e_tst, e_ife, e_tup, e_lst, e_ix, e_slc, e_rev, e_call, e_callK, permL, e_bi, e_isi, e_meth, e_fz, e_fzl, e_sortK, e_isx, e_isb, e_fld, e_callT, e_emp, b_try, isxSem, fldSem, actSem, actOut, catchO, onlyT_at, semEs, semT, semAnd, semOr, semO, semC, semI, R.bind_ok, R.bind_ex, R.bind_bad, R.out_ok, R.out_ex, R.out_bad, thn_nx, thn_ret, thn_brk, thn_ct, thn_ex, thn_bad, val_nx, val_ret, val_ex, tgSem, tgsSem, binSem, addSem, augSem, ixSem, seqOf, lstOf, lstT, newL, cmpSem, cmpInts, cmpI, eqD_int, DV.isNon, biSem, biLen, biInt, biList, biTuple, biTwo, isi_ii, isi_ib, isi_il, isi_it, isi_ll, isi_li, isi_lt, isi_tt, isi_tl, isi_ti, itemsOf, litOf, at0, at1, at2, ix30, ix31, ix32, sl0, sl1, sl2, sl3, sl4, sl5, sl6, sl7, sl8, sl9, sl10, sl11, sl12, sl13, sl14, fnSem, startE, wipeE, N_need_hands, ir_need_hands, e3, e4]
theorem need_work_ok (s : Sto) {h : List (List Mode)} (g : Hnd h) (n : Int) (h0 : 0 ≤ n) (h1 : n ≤ 10000000000000000000000000000000000000000) : f_need_work s [eH h, .int n] = .ok .non s := by
  refine fnD_of ?_ (by rw [bnd])
  simp [b_nil, b_cons, b_ifs, b_for, b_while, semS, e_lc, e_lc2, e_var, e_int, e_bl, e_non, e_str, e_glob, e_bin, e_neg, e_tst, e_ife, e_tup, e_lst, e_ix, e_slc, e_rev, e_call, e_callK, permL, e_bi, e_isi, e_meth, e_fz, e_fzl, e_sortK, e_isx, e_isb, e_fld, e_callT, e_emp, b_try, isxSem, fldSem, actSem, actOut, catchO, onlyT_at, semEs, semT, semAnd, semOr, semO, semC, semI, R.bind_ok, R.bind_ex, R.bind_bad, R.out_ok, R.out_ex, R.out_bad, thn_nx, thn_ret, thn_brk, thn_ct, thn_ex, thn_bad, val_nx, val_ret, val_ex, tgSem, tgsSem, binSem, addSem, augSem, ixSem, seqOf, lstOf, lstT, newL, cmpSem, cmpInts, cmpI, eqD_int, DV.isNon, biSem, biLen, biInt, biList, biTuple, biTwo, isi_ii, isi_ib, isi_il, isi_it, isi_ll, isi_li, isi_lt, isi_tt, isi_tl, isi_ti, itemsOf, litOf, at0, at1, at2, ix30, ix31, ix32, sl0, sl1, sl2, sl3, sl4, sl5, sl6, sl7, sl8, sl9, sl10, sl11, sl12, sl13, sl14, fnSem, startE, wipeE, N_need_work, ir_need_work, need_hands_ok s g, is_integer_int, h0, h1]
theorem need_below_ok (s : Sto) (i n : Int) (h0 : 0 ≤ i) (h1 : i < n) : f_need_below s [.int i, .int n] = .ok .non s := by
  refine fnD_of ?_ (by rw [bnd])
  have h2 : i ≤ n - 1 := by omega
  simp [b_nil, b_cons, b_ifs, b_for, b_while, semS, e_lc, e_lc2, e_var, e_int, e_bl, e_non, e_str, e_glob, e_bin, e_neg, e_tst, e_ife, e_tup, e_lst, e_ix, e_slc, e_rev, e_call, e_callK, permL, e_bi, e_isi, e_meth, e_fz, e_fzl, e_sortK, e_isx, e_isb, e_fld, e_callT, e_emp, b_try, isxSem, fldSem, actSem, actOut, catchO, onlyT_at, semEs, semT, semAnd, semOr, semO, semC, semI, R.bind_ok, R.bind_ex, R.bind_bad, R.out_ok, R.out_ex, R.out_bad, thn_nx, thn_ret, thn_brk, thn_ct, thn_ex, thn_bad, val_nx, val_ret, val_ex, tgSem, tgsSem, binSem, addSem, augSem, ixSem, seqOf, lstOf, lstT, newL, cmpSem, cmpInts, cmpI, eqD_int, DV.isNon, biSem, biLen, biInt, biList, biTuple, biTwo, isi_ii, isi_ib, isi_il, isi_it, isi_ll, isi_li, isi_lt, isi_tt, isi_tl, isi_ti, itemsOf, litOf, at0, at1, at2, ix30, ix31, ix32, sl0, sl1, sl2, sl3, sl4, sl5, sl6, sl7, sl8, sl9, sl10, sl11, sl12, sl13, sl14, fnSem, startE, wipeE, N_need_below, ir_need_below, is_integer_int, h0, h2]
theorem raw_rounds_ok (s : Sto) {h : List (List Mode)} (g : Hnd h) (hp : 0 < prodM h.flatten) (n : Int) : f_raw_rounds s [eH h, .int n] = .ok (.int (-(-n / prodM h.flatten))) s := by
  have e1 := raw_size_ok s h (by have := g.few; omega) g.ok
  have hd : CDivW (-n) (prodM h.flatten) := divW_of hp (Nat.lt_of_lt_of_le (prodM_lt _ g.ok) (Nat.pow_le_pow_right (by decide) (by have := g.few; omega)))
  refine fnD_of ?_ (by rw [bnd])
  simp [b_nil, b_cons, b_ifs, b_for, b_while, semS, e_lc, e_lc2, e_var, e_int, e_bl, e_non, e_str, e_glob, e_bin, e_neg, e_tst, e_ife, e_tup, e_lst, e_ix, e_slc, e_rev, e_call, e_callK, permL, e_bi, e_isi, e_meth, e_fz, e_fzl, e_sortK, e_isx, e_isb, e_fld, e_callT, e_emp, b_try, isxSem, fldSem, actSem, actOut, catchO, onlyT_at, semEs, semT, semAnd, semOr, semO, semC, semI, R.bind_ok, R.bind_ex, R.bind_bad, R.out_ok, R.out_ex, R.out_bad, thn_nx, thn_ret, thn_brk, thn_ct, thn_ex, thn_bad, val_nx, val_ret, val_ex, tgSem, tgsSem, binSem, addSem, augSem, ixSem, seqOf, lstOf, lstT, newL, cmpSem, cmpInts, cmpI, eqD_int, DV.isNon, biSem, biLen, biInt, biList, biTuple, biTwo, isi_ii, isi_ib, isi_il, isi_it, isi_ll, isi_li, isi_lt, isi_tt, isi_tl, isi_ti, itemsOf, litOf, at0, at1, at2, ix30, ix31, ix32, sl0, sl1, sl2, sl3, sl4, sl5, sl6, sl7, sl8, sl9, sl10, sl11, sl12, sl13, sl14, fnSem, startE, wipeE, N_raw_rounds, ir_raw_rounds, e1, hd]
theorem rounds_of_ok (s : Sto) {h : List (List Mode)} (g : Hnd h) (hp : 0 < prodM h.flatten) (n : Int) (h0 : 0 ≤ n) (h1 : n ≤ 10000000000000000000000000000000000000000) : f_rounds_of s [eH h, .int n] = .ok (.int (-(-n / prodM h.flatten))) s := by
  refine fnD_of ?_ (by rw [bnd])
  simp [b_nil, b_cons, b_ifs, b_for, b_while, semS, e_lc, e_lc2, e_var, e_int, e_bl, e_non, e_str, e_glob, e_bin, e_neg, e_tst, e_ife, e_tup, e_lst, e_ix, e_slc, e_rev, e_call, e_callK, permL, e_bi, e_isi, e_meth, e_fz, e_fzl, e_sortK, e_isx, e_isb, e_fld, e_callT, e_emp, b_try, isxSem, fldSem, actSem, actOut, catchO, onlyT_at, semEs, semT, semAnd, semOr, semO, semC, semI, R.bind_ok, R.bind_ex, R.bind_bad, R.out_ok, R.out_ex, R.out_bad, thn_nx, thn_ret, thn_brk, thn_ct, thn_ex, thn_bad, val_nx, val_ret, val_ex, tgSem, tgsSem, binSem, addSem, augSem, ixSem, seqOf, lstOf, lstT, newL, cmpSem, cmpInts, cmpI, eqD_int, DV.isNon, biSem, biLen, biInt, biList, biTuple, biTwo, isi_ii, isi_ib, isi_il, isi_it, isi_ll, isi_li, isi_lt, isi_tt, isi_tl, isi_ti, itemsOf, litOf, at0, at1, at2, ix30, ix31, ix32, sl0, sl1, sl2, sl3, sl4, sl5, sl6, sl7, sl8, sl9, sl10, sl11, sl12, sl13, sl14, fnSem, startE, wipeE, N_rounds_of, ir_rounds_of, need_work_ok s g n h0 h1, raw_rounds_ok s g hp n]
theorem workers_of_ok (s : Sto) (x y : List Mode) (hl : x.length ≤ 200) (hm : ∀ m ∈ x, okM m) : f_workers_of s [eH [x, y]] = .ok (.int (prodM x)) s := by
  have e1 := raw_size_ok s [x] (by simpa using hl) (by simpa using hm)
  have c1 := cut_first [eA x, eA y] 1
  refine fnD_of ?_ (by rw [bnd])
  simp [eH] at e1
  simp [b_nil, b_cons, b_ifs, b_for, b_while, semS, e_lc, e_lc2, e_var, e_int, e_bl, e_non, e_str, e_glob, e_bin, e_neg, e_tst, e_ife, e_tup, e_lst, e_ix, e_slc, e_rev, e_call, e_callK, permL, e_bi, e_isi, e_meth, e_fz, e_fzl, e_sortK, e_isx, e_isb, e_fld, e_callT, e_emp, b_try, isxSem, fldSem, actSem, actOut, catchO, onlyT_at, semEs, semT, semAnd, semOr, semO, semC, semI, R.bind_ok, R.bind_ex, R.bind_bad, R.out_ok, R.out_ex, R.out_bad, thn_nx, thn_ret, thn_brk, thn_ct, thn_ex, thn_bad, val_nx, val_ret, val_ex, tgSem, tgsSem, binSem, addSem, augSem, ixSem, seqOf, lstOf, lstT, newL, cmpSem, cmpInts, cmpI, eqD_int, DV.isNon, biSem, biLen, biInt, biList, biTuple, biTwo, isi_ii, isi_ib, isi_il, isi_it, isi_ll, isi_li, isi_lt, isi_tt, isi_tl, isi_ti, itemsOf, litOf, at0, at1, at2, ix30, ix31, ix32, sl0, sl1, sl2, sl3, sl4, sl5, sl6, sl7, sl8, sl9, sl10, sl11, sl12, sl13, sl14, fnSem, startE, wipeE, N_workers_of, ir_workers_of, eH, slcSem]
  simp only [show (1 : Int) = ((1 : Nat) : Int) from rfl, c1]
  simp [b_nil, b_cons, b_ifs, b_for, b_while, semS, e_lc, e_lc2, e_var, e_int, e_bl, e_non, e_str, e_glob, e_bin, e_neg, e_tst, e_ife, e_tup, e_lst, e_ix, e_slc, e_rev, e_call, e_callK, permL, e_bi, e_isi, e_meth, e_fz, e_fzl, e_sortK, e_isx, e_isb, e_fld, e_callT, e_emp, b_try, isxSem, fldSem, actSem, actOut, catchO, onlyT_at, semEs, semT, semAnd, semOr, semO, semC, semI, R.bind_ok, R.bind_ex, R.bind_bad, R.out_ok, R.out_ex, R.out_bad, thn_nx, thn_ret, thn_brk, thn_ct, thn_ex, thn_bad, val_nx, val_ret, val_ex, tgSem, tgsSem, binSem, addSem, augSem, ixSem, seqOf, lstOf, lstT, newL, cmpSem, cmpInts, cmpI, eqD_int, DV.isNon, biSem, biLen, biInt, biList, biTuple, biTwo, isi_ii, isi_ib, isi_il, isi_it, isi_ll, isi_li, isi_lt, isi_tt, isi_tl, isi_ti, itemsOf, litOf, at0, at1, at2, ix30, ix31, ix32, sl0, sl1, sl2, sl3, sl4, sl5, sl6, sl7, sl8, sl9, sl10, sl11, sl12, sl13, sl14, fnSem, startE, wipeE, e1]
end PF

namespace PF
open PySem PySem.Spec L2 DV
theorem cut_rest (xs : List D) (k : Nat) : cutD xs (some (k : Int)) none = xs.drop k := by
  unfold cutD
  rw [HT.sIx_none, HT.sIx_nat]
  by_cases h : k ≤ xs.length
  · rw [Nat.min_eq_left h, List.take_of_length_le (by simp)]
  · rw [Nat.min_eq_right (by omega), List.drop_eq_nil_of_le (Nat.le_refl _), List.drop_eq_nil_of_le (by omega)]
    simp
theorem element_of_ok (s : Sto) (x y : List Mode) (g : Hnd [x, y]) (n r w k : Int) (h0 : 0 ≤ n) (h1 : n ≤ 10000000000000000000000000000000000000000) (r0 : 0 ≤ r) (r1 : r < -(-n / prodM (x ++ y))) (w0 : 0 ≤ w) (w1 : w < prodM x) (k0 : 0 ≤ k) (k1 : k < prodM y)
    (hp : 0 < prodM (x ++ y)) (hr2 : r.natAbs < 2 ^ 200) (hi : (w + k * prodM x).natAbs < 2 ^ 300) :
    f_element_of s [eH [x, y], .int n, .int r, .int w, .int k] = .ok (if r * prodM (x ++ y) + valM (x ++ y) (w + k * prodM x) < n then .int (r * prodM (x ++ y) + valM (x ++ y) (w + k * prodM x)) else .non) s := by
  have hf : ([x, y] : List (List Mode)).flatten = x ++ y := by simp
  have few := g.few
  rw [hf, List.length_append] at few
  have ok := g.ok
  rw [hf] at ok
  have okx : ∀ m ∈ x, okM m := fun m hm => ok m (List.mem_append_left _ hm)
  have oky : ∀ m ∈ y, okM m := fun m hm => ok m (List.mem_append_right _ hm)
  have i0 : 0 ≤ w + k * prodM x := by
    have := Int.mul_nonneg k0 (show 0 ≤ prodM x by omega)
    omega
  have e1 := need_work_ok s g n h0 h1
  have e2 := raw_rounds_ok s g (by rw [hf]; exact hp) n
  rw [hf] at e2
  have e3 := need_below_ok s r _ r0 r1
  have e4 := workers_of_ok s x y (by omega) okx
  have e5 := need_below_ok s w _ w0 w1
  have e6 := raw_size_ok s [y] (by simp; omega) (by simpa using oky)
  have e7 := need_below_ok s k _ k0 k1
  have e8 := raw_size_ok s [x, y] (by rw [hf, List.length_append]; omega) (by rw [hf]; exact ok)
  have e9 := raw_value_ok s [x, y] (by rw [hf, List.length_append]; omega) (by rw [hf]; exact ok) (w + k * prodM x) i0 hi
  rw [hf] at e8 e9
  have c1 := cut_rest [eA x, eA y] 1
  have hc1 : CMulW r (prodM (x ++ y)) := mulW_of hr2 (prodM_lt _ ok) (by rw [List.length_append]; omega)
  have hc2 : CMulW k (prodM x) := mulW_of (Nat.lt_trans (show k.natAbs < (prodM y).natAbs by omega) (prodM_lt _ oky)) (prodM_lt _ okx) (by omega)
  refine fnD_of ?_ (by split <;> rw [bnd])
  have hy : ([y] : List (List Mode)).flatten = y := by simp
  rw [hy] at e6
  generalize hE : eH [x, y] = E at *
  have eE : E = .lst [eA x, eA y] := by rw [← hE]; rfl
  have hS : ∀ ρ : DV.Env, ρ[0]? = some (some E) → semE (.slc false (.var 0) (.some (.int 1)) .none) ρ s = .ok (eH [y]) s := by
    intro ρ hρ
    simp [b_nil, b_cons, b_ifs, b_for, b_while, semS, e_lc, e_lc2, e_var, e_int, e_bl, e_non, e_str, e_glob, e_bin, e_neg, e_tst, e_ife, e_tup, e_lst, e_ix, e_slc, e_rev, e_call, e_callK, permL, e_bi, e_isi, e_meth, e_fz, e_fzl, e_sortK, e_isx, e_isb, e_fld, e_callT, e_emp, b_try, isxSem, fldSem, actSem, actOut, catchO, onlyT_at, semEs, semT, semAnd, semOr, semO, semC, semI, R.bind_ok, R.bind_ex, R.bind_bad, R.out_ok, R.out_ex, R.out_bad, thn_nx, thn_ret, thn_brk, thn_ct, thn_ex, thn_bad, val_nx, val_ret, val_ex, tgSem, tgsSem, binSem, addSem, augSem, ixSem, seqOf, lstOf, lstT, newL, cmpSem, cmpInts, cmpI, eqD_int, DV.isNon, biSem, biLen, biInt, biList, biTuple, biTwo, isi_ii, isi_ib, isi_il, isi_it, isi_ll, isi_li, isi_lt, isi_tt, isi_tl, isi_ti, itemsOf, litOf, at0, at1, at2, ix30, ix31, ix32, sl0, sl1, sl2, sl3, sl4, sl5, sl6, sl7, sl8, sl9, sl10, sl11, sl12, sl13, sl14, fnSem, startE, wipeE, hρ, eE, slcSem]
    simp only [show (1 : Int) = ((1 : Nat) : Int) from rfl, c1]
    rfl
  by_cases hd : r * prodM (x ++ y) + valM (x ++ y) (w + k * prodM x) < n
  · simp [b_nil, b_cons, b_ifs, b_for, b_while, semS, e_lc, e_lc2, e_var, e_int, e_bl, e_non, e_str, e_glob, e_bin, e_neg, e_tst, e_ife, e_tup, e_lst, e_ix, e_slc, e_rev, e_call, e_callK, permL, e_bi, e_isi, e_meth, e_fz, e_fzl, e_sortK, e_isx, e_isb, e_fld, e_callT, e_emp, b_try, isxSem, fldSem, actSem, actOut, catchO, onlyT_at, semEs, semT, semAnd, semOr, semO, semC, semI, R.bind_ok, R.bind_ex, R.bind_bad, R.out_ok, R.out_ex, R.out_bad, thn_nx, thn_ret, thn_brk, thn_ct, thn_ex, thn_bad, val_nx, val_ret, val_ex, tgSem, tgsSem, binSem, addSem, augSem, ixSem, seqOf, lstOf, lstT, newL, cmpSem, cmpInts, cmpI, eqD_int, DV.isNon, biSem, biLen, biInt, biList, biTuple, biTwo, isi_ii, isi_ib, isi_il, isi_it, isi_ll, isi_li, isi_lt, isi_tt, isi_tl, isi_ti, itemsOf, litOf, at0, at1, at2, ix30, ix31, ix32, sl0, sl1, sl2, sl3, sl4, sl5, sl6, sl7, sl8, sl9, sl10, sl11, sl12, sl13, sl14, fnSem, startE, wipeE, N_element_of, ir_element_of, -e_slc, hS, e1, e2, e3, e4, e5, e6, e7, e8, e9, hc1, hc2, hd]
  · simp [b_nil, b_cons, b_ifs, b_for, b_while, semS, e_lc, e_lc2, e_var, e_int, e_bl, e_non, e_str, e_glob, e_bin, e_neg, e_tst, e_ife, e_tup, e_lst, e_ix, e_slc, e_rev, e_call, e_callK, permL, e_bi, e_isi, e_meth, e_fz, e_fzl, e_sortK, e_isx, e_isb, e_fld, e_callT, e_emp, b_try, isxSem, fldSem, actSem, actOut, catchO, onlyT_at, semEs, semT, semAnd, semOr, semO, semC, semI, R.bind_ok, R.bind_ex, R.bind_bad, R.out_ok, R.out_ex, R.out_bad, thn_nx, thn_ret, thn_brk, thn_ct, thn_ex, thn_bad, val_nx, val_ret, val_ex, tgSem, tgsSem, binSem, addSem, augSem, ixSem, seqOf, lstOf, lstT, newL, cmpSem, cmpInts, cmpI, eqD_int, DV.isNon, biSem, biLen, biInt, biList, biTuple, biTwo, isi_ii, isi_ib, isi_il, isi_it, isi_ll, isi_li, isi_lt, isi_tt, isi_tl, isi_ti, itemsOf, litOf, at0, at1, at2, ix30, ix31, ix32, sl0, sl1, sl2, sl3, sl4, sl5, sl6, sl7, sl8, sl9, sl10, sl11, sl12, sl13, sl14, fnSem, startE, wipeE, N_element_of, ir_element_of, -e_slc, hS, e1, e2, e3, e4, e5, e6, e7, e8, e9, hc1, hc2, hd]
end PF

namespace PF
open PySem PySem.Spec L2 DV
/-! ### chains that go on without a gap -/
def contig : List (List Int) → Int → Prop
  | [], _ => True
  | r :: rs, e => ∃ n u, r = [e, n, u] ∧ 1 < n ∧ n.natAbs < 2 ^ 134 ∧ contig rs (e * n)
def endR : List (List Int) → Int → Int
  | [], e => e
  | r :: rs, e => endR rs (e * r.getD 1 0)
theorem contig_split : ∀ (a b : List (List Int)) (e : Int), contig (a ++ b) e → contig a e ∧ contig b (endR a e)
  | [], b, e, h => ⟨trivial, h⟩
  | r :: a, b, e, h => by
    obtain ⟨n, u, rfl, h1, h2, h3⟩ := h
    obtain ⟨q1, q2⟩ := contig_split a b (e * n) h3
    exact ⟨⟨n, u, rfl, h1, h2, q1⟩, q2⟩
theorem contig_last : ∀ (a : List (List Int)) (r : List Int) (e : Int), contig (a ++ [r]) e → ∃ t n u, r = [t, n, u] ∧ t * n = endR (a ++ [r]) e
  | [], r, e, h => by
    obtain ⟨n, u, rfl, _⟩ := h
    exact ⟨e, n, u, rfl, rfl⟩
  | q :: a, r, e, h => by
    obtain ⟨n, u, rfl, _, _, h3⟩ := h
    exact contig_last a r (e * n) h3
theorem contig_pos : ∀ (a : List (List Int)) (e : Int), 0 < e → contig a e → 0 < endR a e
  | [], e, h, _ => h
  | r :: a, e, h, hc => by
    obtain ⟨n, u, rfl, h1, _, h3⟩ := hc
    exact contig_pos a (e * n) (Int.mul_pos h (by omega)) h3
theorem contig_lt : ∀ (a : List (List Int)) (e : Int) (k : Nat), e.natAbs < 2 ^ k → contig a e → (endR a e).natAbs < 2 ^ (134 * a.length + k)
  | [], e, k, h, _ => by simpa [endR] using h
  | r :: a, e, k, h, hc => by
    obtain ⟨n, u, rfl, _, h2, h3⟩ := hc
    have := contig_lt a (e * n) (k + 134) (natAbs_mul_lt h h2) h3
    rwa [show 134 * a.length + (k + 134) = 134 * ([e, n, u] :: a).length + k from by simp; omega] at this
/-- the end ahead of a row -/
theorem last_end_ok (s : Sto) (a b : List (List Int)) (hc : contig (a ++ b) 1) (hl : a.length < 100) : f_last_end s [.lst ((a ++ b).map ofInts), .int a.length] = .ok (.int (endR a 1)) s := by
  refine fnD_of ?_ (by rw [bnd])
  rcases List.eq_nil_or_concat a with rfl | ⟨c, r, rfl⟩
  · simp [b_nil, b_cons, b_ifs, b_for, b_while, semS, e_lc, e_lc2, e_var, e_int, e_bl, e_non, e_str, e_glob, e_bin, e_neg, e_tst, e_ife, e_tup, e_lst, e_ix, e_slc, e_rev, e_call, e_callK, permL, e_bi, e_isi, e_meth, e_fz, e_fzl, e_sortK, e_isx, e_isb, e_fld, e_callT, e_emp, b_try, isxSem, fldSem, actSem, actOut, catchO, onlyT_at, semEs, semT, semAnd, semOr, semO, semC, semI, R.bind_ok, R.bind_ex, R.bind_bad, R.out_ok, R.out_ex, R.out_bad, thn_nx, thn_ret, thn_brk, thn_ct, thn_ex, thn_bad, val_nx, val_ret, val_ex, tgSem, tgsSem, binSem, addSem, augSem, ixSem, seqOf, lstOf, lstT, newL, cmpSem, cmpInts, cmpI, eqD_int, DV.isNon, biSem, biLen, biInt, biList, biTuple, biTwo, isi_ii, isi_ib, isi_il, isi_it, isi_ll, isi_li, isi_lt, isi_tt, isi_tl, isi_ti, itemsOf, litOf, at0, at1, at2, ix30, ix31, ix32, sl0, sl1, sl2, sl3, sl4, sl5, sl6, sl7, sl8, sl9, sl10, sl11, sl12, sl13, sl14, fnSem, startE, wipeE, N_last_end, ir_last_end, endR]
  · rw [List.concat_eq_append] at *
    obtain ⟨q1, _⟩ := contig_split (c ++ [r]) b 1 hc
    obtain ⟨t, n, u, rfl, e⟩ := contig_last c r 1 q1
    have ha : atI ((c ++ [[t, n, u]] ++ b).map ofInts) (((c ++ [[t, n, u]]).length : Int) - 1) = some (ofInts [t, n, u]) := by
      rw [show ((c ++ [[t, n, u]]).length : Int) - 1 = (c.length : Int) from by simp]
      rw [DV.atI_nat (by simp)]
      simp
    have hp : (0 : Int) < ((c ++ [[t, n, u]]).length : Int) := by simp <;> omega
    have hr : contig [[t, n, u]] (endR c 1) := (contig_split c [[t, n, u]] 1 q1).2
    obtain ⟨n', u', e2, _, hn, _⟩ := hr
    have e3 : t = endR c 1 := by simp at e2; exact e2.1
    have e4 : n = n' := by simp at e2; exact e2.2.1
    have hcm : CMulW t n := mulW_of (a := 134 * c.length + 1) (b := 134) (by rw [e3]; exact contig_lt c 1 1 (by decide) (contig_split c [[t, n, u]] 1 q1).1) (by rw [e4]; exact hn) (by simp at hl; omega)
    generalize hk : ((c ++ [[t, n, u]]).length : Int) = k at *
    generalize hL : (c ++ [[t, n, u]] ++ b).map ofInts = L at *
    rw [← e]
    simp [b_nil, b_cons, b_ifs, b_for, b_while, semS, e_lc, e_lc2, e_var, e_int, e_bl, e_non, e_str, e_glob, e_bin, e_neg, e_tst, e_ife, e_tup, e_lst, e_ix, e_slc, e_rev, e_call, e_callK, permL, e_bi, e_isi, e_meth, e_fz, e_fzl, e_sortK, e_isx, e_isb, e_fld, e_callT, e_emp, b_try, isxSem, fldSem, actSem, actOut, catchO, onlyT_at, semEs, semT, semAnd, semOr, semO, semC, semI, R.bind_ok, R.bind_ex, R.bind_bad, R.out_ok, R.out_ex, R.out_bad, thn_nx, thn_ret, thn_brk, thn_ct, thn_ex, thn_bad, val_nx, val_ret, val_ex, tgSem, tgsSem, binSem, addSem, augSem, ixSem, seqOf, lstOf, lstT, newL, cmpSem, cmpInts, cmpI, eqD_int, DV.isNon, biSem, biLen, biInt, biList, biTuple, biTwo, isi_ii, isi_ib, isi_il, isi_it, isi_ll, isi_li, isi_lt, isi_tt, isi_tl, isi_ti, itemsOf, litOf, at0, at1, at2, ix30, ix31, ix32, sl0, sl1, sl2, sl3, sl4, sl5, sl6, sl7, sl8, sl9, sl10, sl11, sl12, sl13, sl14, fnSem, startE, wipeE, N_last_end, ir_last_end, ha, hp, ofInts, hcm]
theorem enumD_map (i : Nat) : ∀ (rs : List (List Int)), enumD i (rs.map ofInts) = (rs.zipIdx i).map fun q => D.tup [.int q.2, ofInts q.1]
  | [] => rfl
  | r :: rs => by rw [List.map_cons, enumD, enumD_map (i + 1) rs]; rfl
theorem sound_rows_ok (s : Sto) (rs : List (List Int)) (hc : contig rs 1) (hl : rs.length < 100) : f_sound_rows s [.lst (rs.map ofInts)] = .ok (.int rs.length) s := by
  refine fnD_of ?_ (by rw [bnd])
  simp [b_nil, b_cons, b_ifs, b_for, b_while, semS, e_lc, e_lc2, e_var, e_int, e_bl, e_non, e_str, e_glob, e_bin, e_neg, e_tst, e_ife, e_tup, e_lst, e_ix, e_slc, e_rev, e_call, e_callK, permL, e_bi, e_isi, e_meth, e_fz, e_fzl, e_sortK, e_isx, e_isb, e_fld, e_callT, e_emp, b_try, isxSem, fldSem, actSem, actOut, catchO, onlyT_at, semEs, semT, semAnd, semOr, semO, semC, semI, R.bind_ok, R.bind_ex, R.bind_bad, R.out_ok, R.out_ex, R.out_bad, thn_nx, thn_ret, thn_brk, thn_ct, thn_ex, thn_bad, val_nx, val_ret, val_ex, tgSem, tgsSem, binSem, addSem, augSem, ixSem, seqOf, lstOf, lstT, newL, cmpSem, cmpInts, cmpI, eqD_int, DV.isNon, biSem, biLen, biInt, biList, biTuple, biTwo, isi_ii, isi_ib, isi_il, isi_it, isi_ll, isi_li, isi_lt, isi_tt, isi_tl, isi_ti, itemsOf, litOf, at0, at1, at2, ix30, ix31, ix32, sl0, sl1, sl2, sl3, sl4, sl5, sl6, sl7, sl8, sl9, sl10, sl11, sl12, sl13, sl14, fnSem, startE, wipeE, N_sound_rows, ir_sound_rows]
  generalize hbd : forBd _ _ = bd
  have key : ∀ (b a : List (List Int)) (x1 x2 x3 x4 : Option D), rs = a ++ b → ∃ y1 y2 y3 y4, forGo bd (enumD a.length (b.map ofInts)) [some (.lst (rs.map ofInts)), x1, x2, x3, x4] s = .nx [some (.lst (rs.map ofInts)), y1, y2, y3, y4] s := by
    intro b
    induction b with
    | nil => intro a x1 x2 x3 x4 _; exact ⟨x1, x2, x3, x4, by simp [enumD, forGo]⟩
    | cons r b ih =>
      intro a x1 x2 x3 x4 hab
      obtain ⟨q1, q2⟩ := contig_split a (r :: b) 1 (by rw [← hab]; exact hc)
      obtain ⟨n, u, rfl, h1, h2, _⟩ := q2
      have hpos := contig_pos a 1 (by decide) q1
      have hle := last_end_ok s a ([endR a 1, n, u] :: b) (by rw [← hab]; exact hc) (by rw [hab] at hl; simp at hl; omega)
      rw [← hab] at hle
      obtain ⟨y1, y2, y3, y4, e⟩ := ih (a ++ [[endR a 1, n, u]]) (some (.int a.length)) (some (.int (endR a 1))) (some (.int n)) (some (.int u)) (by rw [hab]; simp)
      refine ⟨y1, y2, y3, y4, ?_⟩
      rw [List.length_append, List.length_singleton] at e
      rw [List.map_cons, enumD, forGo_cons, ← hbd]
      rw [← hbd] at e
      have hn : ¬ endR a 1 ≤ 0 := by omega
      have hm : endR a 1 % endR a 1 = 0 := Int.emod_self
      simp [forBd_at, b_nil, b_cons, b_ifs, b_for, b_while, semS, e_lc, e_lc2, e_var, e_int, e_bl, e_non, e_str, e_glob, e_bin, e_neg, e_tst, e_ife, e_tup, e_lst, e_ix, e_slc, e_rev, e_call, e_callK, permL, e_bi, e_isi, e_meth, e_fz, e_fzl, e_sortK, e_isx, e_isb, e_fld, e_callT, e_emp, b_try, isxSem, fldSem, actSem, actOut, catchO, onlyT_at, semEs, semT, semAnd, semOr, semO, semC, semI, R.bind_ok, R.bind_ex, R.bind_bad, R.out_ok, R.out_ex, R.out_bad, thn_nx, thn_ret, thn_brk, thn_ct, thn_ex, thn_bad, val_nx, val_ret, val_ex, tgSem, tgsSem, binSem, addSem, augSem, ixSem, seqOf, lstOf, lstT, newL, cmpSem, cmpInts, cmpI, eqD_int, DV.isNon, biSem, biLen, biInt, biList, biTuple, biTwo, isi_ii, isi_ib, isi_il, isi_it, isi_ll, isi_li, isi_lt, isi_tt, isi_tl, isi_ti, itemsOf, litOf, at0, at1, at2, ix30, ix31, ix32, sl0, sl1, sl2, sl3, sl4, sl5, sl6, sl7, sl8, sl9, sl10, sl11, sl12, sl13, sl14, fnSem, startE, wipeE, ofInts, hle, hn, hm, hpos, Out.loop]
      exact e
  obtain ⟨y1, y2, y3, y4, e⟩ := key rs [] none none none none rfl
  have e' : forGo bd (enumD 0 (rs.map ofInts)) [some (.lst (rs.map ofInts)), none, none, none, none] s = .nx [some (.lst (rs.map ofInts)), y1, y2, y3, y4] s := e
  rw [e']
  simp [b_nil, b_cons, b_ifs, b_for, b_while, semS, e_lc, e_lc2, e_var, e_int, e_bl, e_non, e_str, e_glob, e_bin, e_neg, e_tst, e_ife, e_tup, e_lst, e_ix, e_slc, e_rev, e_call, e_callK, permL, e_bi, e_isi, e_meth, e_fz, e_fzl, e_sortK, e_isx, e_isb, e_fld, e_callT, e_emp, b_try, isxSem, fldSem, actSem, actOut, catchO, onlyT_at, semEs, semT, semAnd, semOr, semO, semC, semI, R.bind_ok, R.bind_ex, R.bind_bad, R.out_ok, R.out_ex, R.out_bad, thn_nx, thn_ret, thn_brk, thn_ct, thn_ex, thn_bad, val_nx, val_ret, val_ex, tgSem, tgsSem, binSem, addSem, augSem, ixSem, seqOf, lstOf, lstT, newL, cmpSem, cmpInts, cmpI, eqD_int, DV.isNon, biSem, biLen, biInt, biList, biTuple, biTwo, isi_ii, isi_ib, isi_il, isi_it, isi_ll, isi_li, isi_lt, isi_tt, isi_tl, isi_ti, itemsOf, litOf, at0, at1, at2, ix30, ix31, ix32, sl0, sl1, sl2, sl3, sl4, sl5, sl6, sl7, sl8, sl9, sl10, sl11, sl12, sl13, sl14, fnSem, startE, wipeE]
theorem contig_ge : ∀ (a : List (List Int)) (e : Int), 0 < e → contig a e → e ≤ endR a e
  | [], e, _, _ => Int.le_refl _
  | r :: a, e, h, hc => by
    obtain ⟨n, u, rfl, h1, _, h3⟩ := hc
    have := contig_ge a (e * n) (Int.mul_pos h (by omega)) h3
    have h4 := Int.mul_le_mul_of_nonneg_left (show 1 ≤ n by omega) (show 0 ≤ e by omega)
    show e ≤ endR a (e * n)
    omega
theorem contig_in : ∀ (a : List (List Int)) (e : Int), 0 < e → contig a e → ∀ r ∈ a, ∃ t n u, r = [t, n, u] ∧ 0 < t ∧ t < endR a e ∧ 1 < n ∧ n.natAbs < 2 ^ 134
  | [], e, _, _, r, h => by simp at h
  | q :: a, e, h, hc, r, hr => by
    obtain ⟨n, u, rfl, h1, h2, h3⟩ := hc
    have hp := Int.mul_pos h (show 0 < n by omega)
    rcases List.mem_cons.mp hr with rfl | hr
    · have := contig_ge a (e * n) hp h3
      have h4 := Int.mul_le_mul_of_nonneg_left (show 2 ≤ n by omega) (show 0 ≤ e by omega)
      exact ⟨e, n, u, rfl, h, by show e < endR a (e * n); omega, h1, h2⟩
    · exact contig_in a (e * n) hp h3 r hr
theorem against_ok (s : Sto) (rs : List (List Int)) (hc : contig rs 1) (hl : rs.length < 100) : f_certificate_against s [.lst (rs.map ofInts), .int rs.length, .int (endR rs 1)] = .ok .non s := by
  have hle := last_end_ok s rs [] (by rw [List.append_nil]; exact hc) hl
  rw [List.append_nil] at hle
  have hin := contig_in rs 1 (by decide) hc
  have hpos := contig_pos rs 1 (by decide) hc
  refine fnD_of ?_ (by rw [bnd])
  simp [b_nil, b_cons, b_ifs, b_for, b_while, semS, e_lc, e_lc2, e_var, e_int, e_bl, e_non, e_str, e_glob, e_bin, e_neg, e_tst, e_ife, e_tup, e_lst, e_ix, e_slc, e_rev, e_call, e_callK, permL, e_bi, e_isi, e_meth, e_fz, e_fzl, e_sortK, e_isx, e_isb, e_fld, e_callT, e_emp, b_try, isxSem, fldSem, actSem, actOut, catchO, onlyT_at, semEs, semT, semAnd, semOr, semO, semC, semI, R.bind_ok, R.bind_ex, R.bind_bad, R.out_ok, R.out_ex, R.out_bad, thn_nx, thn_ret, thn_brk, thn_ct, thn_ex, thn_bad, val_nx, val_ret, val_ex, tgSem, tgsSem, binSem, addSem, augSem, ixSem, seqOf, lstOf, lstT, newL, cmpSem, cmpInts, cmpI, eqD_int, DV.isNon, biSem, biLen, biInt, biList, biTuple, biTwo, isi_ii, isi_ib, isi_il, isi_it, isi_ll, isi_li, isi_lt, isi_tt, isi_tl, isi_ti, itemsOf, litOf, at0, at1, at2, ix30, ix31, ix32, sl0, sl1, sl2, sl3, sl4, sl5, sl6, sl7, sl8, sl9, sl10, sl11, sl12, sl13, sl14, fnSem, startE, wipeE, N_certificate_against, ir_certificate_against]
  refine pre_k (fun o => (o.thn _).val = _) (fun _ ρ s' => s' = s ∧ ∃ x y z, ρ = [some (.lst (rs.map ofInts)), some (.int rs.length), some (.int (endR rs 1)), x, y, z]) ⟨rfl, _, _, _, rfl⟩ ?_ ?_
  · rintro pre r post hrs ρ s' ⟨rfl, x, y, z, rfl⟩
    obtain ⟨t, n, u, rfl, t0, t1, _, _⟩ := hin r (by rw [hrs]; simp)
    have a1 : ¬ t < 0 := by omega
    have a2 : ¬ endR rs 1 ≤ t := by omega
    have a3 : ¬ t = 0 := by omega
    refine ⟨_, s', .inl ?_, rfl, some (.int t), some (.int n), some (.int u), rfl⟩
    simp [forBd_at, b_nil, b_cons, b_ifs, b_for, b_while, semS, e_lc, e_lc2, e_var, e_int, e_bl, e_non, e_str, e_glob, e_bin, e_neg, e_tst, e_ife, e_tup, e_lst, e_ix, e_slc, e_rev, e_call, e_callK, permL, e_bi, e_isi, e_meth, e_fz, e_fzl, e_sortK, e_isx, e_isb, e_fld, e_callT, e_emp, b_try, isxSem, fldSem, actSem, actOut, catchO, onlyT_at, semEs, semT, semAnd, semOr, semO, semC, semI, R.bind_ok, R.bind_ex, R.bind_bad, R.out_ok, R.out_ex, R.out_bad, thn_nx, thn_ret, thn_brk, thn_ct, thn_ex, thn_bad, val_nx, val_ret, val_ex, tgSem, tgsSem, binSem, addSem, augSem, ixSem, seqOf, lstOf, lstT, newL, cmpSem, cmpInts, cmpI, eqD_int, DV.isNon, biSem, biLen, biInt, biList, biTuple, biTwo, isi_ii, isi_ib, isi_il, isi_it, isi_ll, isi_li, isi_lt, isi_tt, isi_tl, isi_ti, itemsOf, litOf, at0, at1, at2, ix30, ix31, ix32, sl0, sl1, sl2, sl3, sl4, sl5, sl6, sl7, sl8, sl9, sl10, sl11, sl12, sl13, sl14, fnSem, startE, wipeE, ofInts, a1, a2, a3]
  · rintro ρ' s' ⟨rfl, x, y, z, rfl⟩
    have hm : endR rs 1 % endR rs 1 = 0 := Int.emod_self
    simp [b_nil, b_cons, b_ifs, b_for, b_while, semS, e_lc, e_lc2, e_var, e_int, e_bl, e_non, e_str, e_glob, e_bin, e_neg, e_tst, e_ife, e_tup, e_lst, e_ix, e_slc, e_rev, e_call, e_callK, permL, e_bi, e_isi, e_meth, e_fz, e_fzl, e_sortK, e_isx, e_isb, e_fld, e_callT, e_emp, b_try, isxSem, fldSem, actSem, actOut, catchO, onlyT_at, semEs, semT, semAnd, semOr, semO, semC, semI, R.bind_ok, R.bind_ex, R.bind_bad, R.out_ok, R.out_ex, R.out_bad, thn_nx, thn_ret, thn_brk, thn_ct, thn_ex, thn_bad, val_nx, val_ret, val_ex, tgSem, tgsSem, binSem, addSem, augSem, ixSem, seqOf, lstOf, lstT, newL, cmpSem, cmpInts, cmpI, eqD_int, DV.isNon, biSem, biLen, biInt, biList, biTuple, biTwo, isi_ii, isi_ib, isi_il, isi_it, isi_ll, isi_li, isi_lt, isi_tt, isi_tl, isi_ti, itemsOf, litOf, at0, at1, at2, ix30, ix31, ix32, sl0, sl1, sl2, sl3, sl4, sl5, sl6, sl7, sl8, sl9, sl10, sl11, sl12, sl13, sl14, fnSem, startE, wipeE, hle, hm, hpos]
theorem sound_chain_ok (s : Sto) (h : List (List Mode)) (hl : h.flatten.length ≤ 50) (hm : ∀ m ∈ h.flatten, okM m) (hc : contig (sortT (chainR h.flatten 1)) 1) : f_sound_chain s [eH h, .int (endR (sortT (chainR h.flatten 1)) 1)] = .ok (.lst ((sortT (chainR h.flatten 1)).map ofInts)) s := by
  have e1 := chain_ok s h (by omega) hm
  have hlen : (sortT (chainR h.flatten 1)).length < 100 := by
    rw [(sortT_perm _).length_eq]
    have := chainR_len h.flatten 1
    omega
  have e2 := sound_rows_ok s _ hc hlen
  have e3 := against_ok s _ hc hlen
  have hb : bnd s.length (.lst ((sortT (chainR h.flatten 1)).map ofInts)) = true := by
    rw [bnd]
    refine bnds_of fun d hd => ?_
    obtain ⟨r, _, rfl⟩ := List.mem_map.mp hd
    rw [ofInts, bnd]
    exact DV.bnds_ints r
  refine fnD_of ?_ hb
  simp [b_nil, b_cons, b_ifs, b_for, b_while, semS, e_lc, e_lc2, e_var, e_int, e_bl, e_non, e_str, e_glob, e_bin, e_neg, e_tst, e_ife, e_tup, e_lst, e_ix, e_slc, e_rev, e_call, e_callK, permL, e_bi, e_isi, e_meth, e_fz, e_fzl, e_sortK, e_isx, e_isb, e_fld, e_callT, e_emp, b_try, isxSem, fldSem, actSem, actOut, catchO, onlyT_at, semEs, semT, semAnd, semOr, semO, semC, semI, R.bind_ok, R.bind_ex, R.bind_bad, R.out_ok, R.out_ex, R.out_bad, thn_nx, thn_ret, thn_brk, thn_ct, thn_ex, thn_bad, val_nx, val_ret, val_ex, tgSem, tgsSem, binSem, addSem, augSem, ixSem, seqOf, lstOf, lstT, newL, cmpSem, cmpInts, cmpI, eqD_int, DV.isNon, biSem, biLen, biInt, biList, biTuple, biTwo, isi_ii, isi_ib, isi_il, isi_it, isi_ll, isi_li, isi_lt, isi_tt, isi_tl, isi_ti, itemsOf, litOf, at0, at1, at2, ix30, ix31, ix32, sl0, sl1, sl2, sl3, sl4, sl5, sl6, sl7, sl8, sl9, sl10, sl11, sl12, sl13, sl14, fnSem, startE, wipeE, N_sound_chain, ir_sound_chain, e1, e2, e3]
end PF

namespace PF
open PySem PySem.Spec L2 DV
theorem contig_walk : ∀ (rs : List (List Int)) (e : Int), (∀ r ∈ rs, ∃ t n u, r = [t, n, u] ∧ 1 < n ∧ n.natAbs < 2 ^ 134) → walkL rs e = .full → contig rs e
  | [], _, _, _ => trivial
  | r :: rs, e, h, hw => by
    obtain ⟨t, n, u, rfl, h1, h2⟩ := h r (List.mem_cons_self ..)
    rw [walkL] at hw
    split at hw
    · rename_i ht
      subst ht
      exact ⟨n, u, rfl, h1, h2, contig_walk rs _ (fun x hx => h x (List.mem_cons_of_mem _ hx)) hw⟩
    · split at hw <;> cases hw
theorem contig_full {h : List (List Mode)} (g : Hnd h) : contig (sortT (chainR h.flatten 1)) 1 := by
  have hthree := chainR_three h.flatten 1
  refine contig_walk _ 1 (fun r hr => ?_) ?_
  · have hr := (sortT_perm _).mem_iff.mp hr
    obtain ⟨t, n, v, rfl⟩ := hthree r hr
    have h2 : ([t, n] : List Int) ∈ pairs h.flatten := by
      rw [← chainR_pairs h.flatten 1]
      exact List.mem_map.mpr ⟨_, hr, rfl⟩
    obtain ⟨m, hm', h1, e⟩ := pairs_mem h2
    cases e
    exact ⟨_, _, v, rfl, h1, okM_lt (g.ok m hm')⟩
  · have hf := g.full
    unfold ansOf at hf
    split at hf
    · cases hf
    · rw [← sort_take h.flatten 1, walk_take _ _ fun r hr => hthree r ((sortT_perm _).mem_iff.mp hr)] at hf
      exact hf
/-! ### axes made short -/
def shortStep (f : List Mode) (m : Mode) : List Mode := if m.1 = 1 then f else match f.getLast? with
  | some p => if m.2 = p.1 * p.2 then f.dropLast ++ [(p.1 * m.1, p.2)] else f ++ [m]
  | none => f ++ [m]
theorem mod_merge {i a b : Int} (ha : 0 < a) (hb : 0 < b) : i % (a * b) = i % a + a * (i / a % b) := by
  have h1 := Int.emod_add_mul_ediv i a
  have h2 := Int.emod_add_mul_ediv (i / a) b
  have r0 := Int.emod_nonneg i (show a ≠ 0 by omega)
  have r1 := Int.emod_lt_of_pos i ha
  have q0 := Int.emod_nonneg (i / a) (show b ≠ 0 by omega)
  have q1 := Int.emod_lt_of_pos (i / a) hb
  have e : i = (i % a + a * (i / a % b)) + a * b * (i / a / b) := by
    have : a * (i / a) = a * (i / a % b) + a * b * (i / a / b) := by
      rw [Int.mul_assoc, ← Int.mul_add, h2]
    omega
  have hlt : i % a + a * (i / a % b) < a * b := by
    have := Int.mul_le_mul_of_nonneg_left (show i / a % b + 1 ≤ b by omega) (show 0 ≤ a by omega)
    rw [Int.mul_add] at this
    omega
  have hge : 0 ≤ i % a + a * (i / a % b) := by
    have := Int.mul_nonneg (show 0 ≤ a by omega) q0
    omega
  have : i % (a * b) = (i % a + a * (i / a % b)) % (a * b) := by
    conv => lhs; rw [e]
    rw [Int.add_mul_emod_self_left]
  rw [this, Int.emod_eq_of_lt hge hlt]
end PF

namespace PF
open PySem PySem.Spec L2 DV
theorem ixN_last (n : Nat) : ixN (n + 1) (-1) = some n := by
  unfold ixN
  simp
  omega
theorem atI_last (xs : List D) (d : D) : atI (xs ++ [d]) (-1) = some d := by
  unfold atI
  rw [List.length_append, List.length_singleton, ixN_last]
  simp
theorem short_len (f : List Mode) (m : Mode) : (shortStep f m).length ≤ f.length + 1 := by
  unfold shortStep
  split
  · omega
  · split
    · split
      · simp <;> omega
      · simp
    · simp
/-- the product of the sizes of a short axis stays as it was -/
theorem short_axis_ok (s : Sto) (l : List Mode) (hl : l.length ≤ 200) (hm : ∀ a b, l = a ++ b → ∀ p ∈ a.foldl shortStep [], p.1.natAbs < 2 ^ 2000 ∧ p.2.natAbs < 2 ^ 2000) (hs : ∀ m ∈ l, m.1.natAbs < 2 ^ 2000) : f_short_axis s [.lst (l.map eM)] = .ok (.lst ((l.foldl shortStep []).map eM)) s := by
  have hsz : sizeLine = 16777216 := rfl
  refine fnD_app (junk := [.dead]) ?_ (bnd_eA _)
  have hlen : ∀ (a : List Mode) (f : List Mode), (a.foldl shortStep f).length ≤ f.length + a.length := by
    intro a
    induction a with
    | nil => intro f; simp
    | cons m a ih =>
      intro f
      have h1 := ih (shortStep f m)
      have h2 := short_len f m
      simp only [List.foldl_cons, List.length_cons]
      omega
  simp [b_nil, b_cons, b_ifs, b_for, b_while, semS, e_lc, e_lc2, e_var, e_int, e_bl, e_non, e_str, e_glob, e_bin, e_neg, e_tst, e_ife, e_tup, e_lst, e_ix, e_slc, e_rev, e_call, e_callK, permL, e_bi, e_isi, e_meth, e_fz, e_fzl, e_sortK, e_isx, e_isb, e_fld, e_callT, e_emp, b_try, isxSem, fldSem, actSem, actOut, catchO, onlyT_at, semEs, semT, semAnd, semOr, semO, semC, semI, R.bind_ok, R.bind_ex, R.bind_bad, R.out_ok, R.out_ex, R.out_bad, thn_nx, thn_ret, thn_brk, thn_ct, thn_ex, thn_bad, val_nx, val_ret, val_ex, tgSem, tgsSem, binSem, addSem, augSem, ixSem, seqOf, lstOf, lstT, newL, cmpSem, cmpInts, cmpI, eqD_int, DV.isNon, biSem, biLen, biInt, biList, biTuple, biTwo, isi_ii, isi_ib, isi_il, isi_it, isi_ll, isi_li, isi_lt, isi_tt, isi_tl, isi_ti, itemsOf, litOf, at0, at1, at2, ix30, ix31, ix32, sl0, sl1, sl2, sl3, sl4, sl5, sl6, sl7, sl8, sl9, sl10, sl11, sl12, sl13, sl14, fnSem, startE, wipeE, N_short_axis, ir_short_axis]
  refine pre_k (fun o => (o.thn _).val = _) (fun b ρ s' => s' = s ++ [.lst ((b.foldl shortStep []).map eM)] ∧ ∃ x y, ρ = [some (.lst (l.map eM)), some (.obj s.length), x, y]) ⟨rfl, _, _, rfl⟩ ?_ ?_
  · rintro pre m post hpre ρ s' ⟨rfl, x, y, rfl⟩
    have hf := hm pre (m :: post) hpre
    have hfl := hlen pre []
    have hl2 : pre.length < 200 := by rw [hpre] at hl; simp at hl; omega
    have hmm := hs m (by rw [hpre]; simp)
    rw [show (pre ++ [m]).foldl shortStep [] = shortStep (pre.foldl shortStep []) m from by simp]
    generalize pre.foldl shortStep [] = f at *
    have hlt : f.length < sizeLine := by simp at hfl; omega
    by_cases h1 : m.1 = 1
    · refine ⟨_, _, .inr ?_, rfl, some (.int m.1), some (.int m.2), rfl⟩
      simp [forBd_at, b_nil, b_cons, b_ifs, b_for, b_while, semS, e_lc, e_lc2, e_var, e_int, e_bl, e_non, e_str, e_glob, e_bin, e_neg, e_tst, e_ife, e_tup, e_lst, e_ix, e_slc, e_rev, e_call, e_callK, permL, e_bi, e_isi, e_meth, e_fz, e_fzl, e_sortK, e_isx, e_isb, e_fld, e_callT, e_emp, b_try, isxSem, fldSem, actSem, actOut, catchO, onlyT_at, semEs, semT, semAnd, semOr, semO, semC, semI, R.bind_ok, R.bind_ex, R.bind_bad, R.out_ok, R.out_ex, R.out_bad, thn_nx, thn_ret, thn_brk, thn_ct, thn_ex, thn_bad, val_nx, val_ret, val_ex, tgSem, tgsSem, binSem, addSem, augSem, ixSem, seqOf, lstOf, lstT, newL, cmpSem, cmpInts, cmpI, eqD_int, DV.isNon, biSem, biLen, biInt, biList, biTuple, biTwo, isi_ii, isi_ib, isi_il, isi_it, isi_ll, isi_li, isi_lt, isi_tt, isi_tl, isi_ti, itemsOf, litOf, at0, at1, at2, ix30, ix31, ix32, sl0, sl1, sl2, sl3, sl4, sl5, sl6, sl7, sl8, sl9, sl10, sl11, sl12, sl13, sl14, fnSem, startE, wipeE, eM, h1, shortStep]
    · rcases List.eq_nil_or_concat f with rfl | ⟨g, p, rfl⟩
      · refine ⟨_, _, .inl ?_, rfl, some (.int m.1), some (.int m.2), rfl⟩
        have en := eqD_nil (s := s ++ [.lst []]) (d := .obj s.length) (l := []) (by simp [res])
        simp [forBd_at, b_nil, b_cons, b_ifs, b_for, b_while, semS, e_lc, e_lc2, e_var, e_int, e_bl, e_non, e_str, e_glob, e_bin, e_neg, e_tst, e_ife, e_tup, e_lst, e_ix, e_slc, e_rev, e_call, e_callK, permL, e_bi, e_isi, e_meth, e_fz, e_fzl, e_sortK, e_isx, e_isb, e_fld, e_callT, e_emp, b_try, isxSem, fldSem, actSem, actOut, catchO, onlyT_at, semEs, semT, semAnd, semOr, semO, semC, semI, R.bind_ok, R.bind_ex, R.bind_bad, R.out_ok, R.out_ex, R.out_bad, thn_nx, thn_ret, thn_brk, thn_ct, thn_ex, thn_bad, val_nx, val_ret, val_ex, tgSem, tgsSem, binSem, addSem, augSem, ixSem, seqOf, lstOf, lstT, newL, cmpSem, cmpInts, cmpI, eqD_int, DV.isNon, biSem, biLen, biInt, biList, biTuple, biTwo, isi_ii, isi_ib, isi_il, isi_it, isi_ll, isi_li, isi_lt, isi_tt, isi_tl, isi_ti, itemsOf, litOf, at0, at1, at2, ix30, ix31, ix32, sl0, sl1, sl2, sl3, sl4, sl5, sl6, sl7, sl8, sl9, sl10, sl11, sl12, sl13, sl14, fnSem, startE, wipeE, eM, h1, shortStep, en, cell_last, set_last, meSem, meAppend, show 0 < sizeLine by decide]
      · rw [List.concat_eq_append] at *
        have hp := hf p (by simp)
        have en := eqD_nil (s := s ++ [.lst ((g ++ [p]).map eM)]) (d := .obj s.length) (l := g ++ [p]) (by simp [res])
        have ec1 : CMulW p.1 p.2 := mulW_of hp.1 hp.2 (by decide)
        have ec2 : CMulW p.1 m.1 := mulW_of hp.1 hmm (by decide)
        have ea : atI (g.map eM ++ [eM p]) (-1) = some (eM p) := atI_last _ _
        have ei : ixN (g.length + 1) (-1) = some g.length := ixN_last _
        refine ⟨_, _, .inl ?_, rfl, some (.int m.1), some (.int m.2), rfl⟩
        have hset : ∀ y z : D, (g.map eM ++ [y]).set g.length z = g.map eM ++ [z] := fun y z => by simp [List.set_append]
        simp only [List.map_append, List.map_cons, List.map_nil] at en ⊢
        simp only [eM] at en ea
        by_cases h2 : m.2 = p.1 * p.2
        · simp [forBd_at, b_nil, b_cons, b_ifs, b_for, b_while, semS, e_lc, e_lc2, e_var, e_int, e_bl, e_non, e_str, e_glob, e_bin, e_neg, e_tst, e_ife, e_tup, e_lst, e_ix, e_slc, e_rev, e_call, e_callK, permL, e_bi, e_isi, e_meth, e_fz, e_fzl, e_sortK, e_isx, e_isb, e_fld, e_callT, e_emp, b_try, isxSem, fldSem, actSem, actOut, catchO, onlyT_at, semEs, semT, semAnd, semOr, semO, semC, semI, R.bind_ok, R.bind_ex, R.bind_bad, R.out_ok, R.out_ex, R.out_bad, thn_nx, thn_ret, thn_brk, thn_ct, thn_ex, thn_bad, val_nx, val_ret, val_ex, tgSem, tgsSem, binSem, addSem, augSem, ixSem, seqOf, lstOf, lstT, newL, cmpSem, cmpInts, cmpI, eqD_int, DV.isNon, biSem, biLen, biInt, biList, biTuple, biTwo, isi_ii, isi_ib, isi_il, isi_it, isi_ll, isi_li, isi_lt, isi_tt, isi_tl, isi_ti, itemsOf, litOf, at0, at1, at2, ix30, ix31, ix32, sl0, sl1, sl2, sl3, sl4, sl5, sl6, sl7, sl8, sl9, sl10, sl11, sl12, sl13, sl14, fnSem, startE, wipeE, h1, h2, shortStep, en, cell_last, set_last, ea, ei, ec1, ec2, stIx, eM, hset]
        · have hlt2 : g.length + 1 < sizeLine := by simpa using hlt
          simp [forBd_at, b_nil, b_cons, b_ifs, b_for, b_while, semS, e_lc, e_lc2, e_var, e_int, e_bl, e_non, e_str, e_glob, e_bin, e_neg, e_tst, e_ife, e_tup, e_lst, e_ix, e_slc, e_rev, e_call, e_callK, permL, e_bi, e_isi, e_meth, e_fz, e_fzl, e_sortK, e_isx, e_isb, e_fld, e_callT, e_emp, b_try, isxSem, fldSem, actSem, actOut, catchO, onlyT_at, semEs, semT, semAnd, semOr, semO, semC, semI, R.bind_ok, R.bind_ex, R.bind_bad, R.out_ok, R.out_ex, R.out_bad, thn_nx, thn_ret, thn_brk, thn_ct, thn_ex, thn_bad, val_nx, val_ret, val_ex, tgSem, tgsSem, binSem, addSem, augSem, ixSem, seqOf, lstOf, lstT, newL, cmpSem, cmpInts, cmpI, eqD_int, DV.isNon, biSem, biLen, biInt, biList, biTuple, biTwo, isi_ii, isi_ib, isi_il, isi_it, isi_ll, isi_li, isi_lt, isi_tt, isi_tl, isi_ti, itemsOf, litOf, at0, at1, at2, ix30, ix31, ix32, sl0, sl1, sl2, sl3, sl4, sl5, sl6, sl7, sl8, sl9, sl10, sl11, sl12, sl13, sl14, fnSem, startE, wipeE, h1, h2, shortStep, en, cell_last, set_last, ea, ei, ec1, ec2, meSem, meAppend, eM, hlt2]
  · rintro ρ' s' ⟨rfl, x, y, rfl⟩
    simp [b_nil, b_cons, b_ifs, b_for, b_while, semS, e_lc, e_lc2, e_var, e_int, e_bl, e_non, e_str, e_glob, e_bin, e_neg, e_tst, e_ife, e_tup, e_lst, e_ix, e_slc, e_rev, e_call, e_callK, permL, e_bi, e_isi, e_meth, e_fz, e_fzl, e_sortK, e_isx, e_isb, e_fld, e_callT, e_emp, b_try, isxSem, fldSem, actSem, actOut, catchO, onlyT_at, semEs, semT, semAnd, semOr, semO, semC, semI, R.bind_ok, R.bind_ex, R.bind_bad, R.out_ok, R.out_ex, R.out_bad, thn_nx, thn_ret, thn_brk, thn_ct, thn_ex, thn_bad, val_nx, val_ret, val_ex, tgSem, tgsSem, binSem, addSem, augSem, ixSem, seqOf, lstOf, lstT, newL, cmpSem, cmpInts, cmpI, eqD_int, DV.isNon, biSem, biLen, biInt, biList, biTuple, biTwo, isi_ii, isi_ib, isi_il, isi_it, isi_ll, isi_li, isi_lt, isi_tt, isi_tl, isi_ti, itemsOf, litOf, at0, at1, at2, ix30, ix31, ix32, sl0, sl1, sl2, sl3, sl4, sl5, sl6, sl7, sl8, sl9, sl10, sl11, sl12, sl13, sl14, fnSem, startE, wipeE, cell_last, fzSem, set_last]
end PF

namespace PF
open PySem PySem.Spec L2 DV
theorem short_keeps (f : List Mode) (m : Mode) (i : Int) (h0 : 0 ≤ i) (hf : ∀ p ∈ f, 1 ≤ p.1) (hm : 1 ≤ m.1) : valM (shortStep f m) i = valM (f ++ [m]) i ∧ leftM (shortStep f m) i = leftM (f ++ [m]) i := by
  unfold shortStep
  by_cases h1 : m.1 = 1
  · rw [if_pos h1, valM_snoc, leftM_snoc, h1]
    simp
  · rw [if_neg h1]
    rcases List.eq_nil_or_concat f with rfl | ⟨g, p, rfl⟩
    · exact ⟨rfl, rfl⟩
    · rw [List.concat_eq_append] at *
      have hp := hf p (by simp)
      simp only [List.getLast?_append, List.getLast?_singleton, Option.some_or, List.dropLast_concat]
      split
      · rename_i h2
        have hL := (leftM_le g i (fun x hx => hf x (by simp [hx])) h0).1
        rw [valM_snoc, valM_snoc, valM_snoc, leftM_snoc, leftM_snoc, leftM_snoc]
        dsimp only
        rw [mod_merge (by omega) (by omega), h2]
        refine ⟨?_, ?_⟩
        · generalize leftM g i % p.1 = A
          generalize leftM g i / p.1 % m.1 = B
          rw [Int.add_mul, Int.mul_comm p.1 B, Int.mul_assoc]
          omega
        · rw [leftM_snoc, Int.ediv_ediv_of_nonneg (by omega)]
      · exact ⟨rfl, rfl⟩
end PF

namespace PF
open PySem PySem.Spec L2 DV
def backL (rs : List (List Int)) : List Mode := rs.flatMap fun r => [(1, 0), (r.getD 1 0, r.getD 2 0)]
theorem endR_snoc (r : List Int) : ∀ (a : List (List Int)) (e : Int), endR (a ++ [r]) e = endR a e * r.getD 1 0
  | [], e => rfl
  | q :: a, e => endR_snoc r a _
theorem raw_back_ok (s : Sto) (h : List (List Mode)) (Rs : List (List Int)) (hR : Rs = sortT (chainR h.flatten 1)) (hl : h.flatten.length ≤ 50) (hm : ∀ m ∈ h.flatten, okM m) (hc : contig Rs 1)
    (hs : ∀ s', f_short_axis s' [.lst ((backL Rs ++ [(1, 0)]).map eM)] = .ok (.lst (((backL Rs ++ [(1, 0)]).foldl shortStep []).map eM)) s') :
    f_raw_back s [eH h, .int (endR Rs 1)] = .ok (.lst (((backL Rs ++ [(1, 0)]).foldl shortStep []).map eM)) s := by
  have e1 := sound_chain_ok s h hl hm (by rw [← hR]; exact hc)
  rw [← hR] at e1
  have hlen : Rs.length ≤ 50 := by
    rw [hR, (sortT_perm _).length_eq]
    have := chainR_len h.flatten 1
    omega
  have hbl : ∀ a : List (List Int), (backL a).length = 2 * a.length := by
    intro a
    induction a with
    | nil => rfl
    | cons q a ih => unfold backL at *; rw [List.flatMap_cons, List.length_append, ih]; simp; omega
  have hsz : sizeLine = 16777216 := rfl
  have hpos := contig_pos Rs 1 (by decide) hc
  have hself : endR Rs 1 / endR Rs 1 = 1 := Int.ediv_self (by omega)
  have hdv : CDivW (endR Rs 1) (endR Rs 1) := divW_of hpos (Nat.lt_of_lt_of_le (contig_lt Rs 1 1 (by decide) hc) (Nat.pow_le_pow_right (by decide) (by omega)))
  refine fnD_app (junk := [.lst ((backL Rs).map eM)]) ?_ (bnd_eA _)
  generalize eH h = E at *
  clear hR
  simp [b_nil, b_cons, b_ifs, b_for, b_while, semS, e_lc, e_lc2, e_var, e_int, e_bl, e_non, e_str, e_glob, e_bin, e_neg, e_tst, e_ife, e_tup, e_lst, e_ix, e_slc, e_rev, e_call, e_callK, permL, e_bi, e_isi, e_meth, e_fz, e_fzl, e_sortK, e_isx, e_isb, e_fld, e_callT, e_emp, b_try, isxSem, fldSem, actSem, actOut, catchO, onlyT_at, semEs, semT, semAnd, semOr, semO, semC, semI, R.bind_ok, R.bind_ex, R.bind_bad, R.out_ok, R.out_ex, R.out_bad, thn_nx, thn_ret, thn_brk, thn_ct, thn_ex, thn_bad, val_nx, val_ret, val_ex, tgSem, tgsSem, binSem, addSem, augSem, ixSem, seqOf, lstOf, lstT, newL, cmpSem, cmpInts, cmpI, eqD_int, DV.isNon, biSem, biLen, biInt, biList, biTuple, biTwo, isi_ii, isi_ib, isi_il, isi_it, isi_ll, isi_li, isi_lt, isi_tt, isi_tl, isi_ti, itemsOf, litOf, at0, at1, at2, ix30, ix31, ix32, sl0, sl1, sl2, sl3, sl4, sl5, sl6, sl7, sl8, sl9, sl10, sl11, sl12, sl13, sl14, fnSem, startE, wipeE, N_raw_back, ir_raw_back, e1]
  refine pre_k (fun o => (o.thn _).val = _) (fun b ρ s' => s' = s ++ [.lst ((backL b).map eM)] ∧ ∃ x y z, ρ = [some E, some (.int (endR Rs 1)), some (.lst (Rs.map ofInts)), some (.obj s.length), some (.int (endR b 1)), x, y, z]) ⟨rfl, _, _, _, rfl⟩ ?_ ?_
  · rintro pre r post hpre ρ s' ⟨rfl, x, y, z, rfl⟩
    obtain ⟨q1, q2⟩ := contig_split pre (r :: post) 1 (by rw [← hpre]; exact hc)
    obtain ⟨n, u, rfl, h1, h2, _⟩ := q2
    have hp := contig_pos pre 1 (by decide) q1
    have hpl : pre.length < 50 := by rw [hpre] at hlen; simp at hlen; omega
    have hlt := contig_lt pre 1 1 (by decide) q1
    have hd : CDivW (endR pre 1) (endR pre 1) := divW_of hp (Nat.lt_of_lt_of_le hlt (Nat.pow_le_pow_right (by decide) (by omega)))
    have hq : endR pre 1 / endR pre 1 = 1 := Int.ediv_self (by omega)
    have hcm : CMulW (endR pre 1) n := mulW_of hlt h2 (by omega)
    have hb := hbl pre
    have hz : (backL pre).length + 2 ≤ sizeLine := by omega
    have hbs : backL (pre ++ [[endR pre 1, n, u]]) = backL pre ++ [(1, 0), (n, u)] := by simp [backL]
    refine ⟨_, _, .inl ?_, rfl, some (.int (endR pre 1)), some (.int n), some (.int u), rfl⟩
    rw [hbs, endR_snoc]
    simp [forBd_at, b_nil, b_cons, b_ifs, b_for, b_while, semS, e_lc, e_lc2, e_var, e_int, e_bl, e_non, e_str, e_glob, e_bin, e_neg, e_tst, e_ife, e_tup, e_lst, e_ix, e_slc, e_rev, e_call, e_callK, permL, e_bi, e_isi, e_meth, e_fz, e_fzl, e_sortK, e_isx, e_isb, e_fld, e_callT, e_emp, b_try, isxSem, fldSem, actSem, actOut, catchO, onlyT_at, semEs, semT, semAnd, semOr, semO, semC, semI, R.bind_ok, R.bind_ex, R.bind_bad, R.out_ok, R.out_ex, R.out_bad, thn_nx, thn_ret, thn_brk, thn_ct, thn_ex, thn_bad, val_nx, val_ret, val_ex, tgSem, tgsSem, binSem, addSem, augSem, ixSem, seqOf, lstOf, lstT, newL, cmpSem, cmpInts, cmpI, eqD_int, DV.isNon, biSem, biLen, biInt, biList, biTuple, biTwo, isi_ii, isi_ib, isi_il, isi_it, isi_ll, isi_li, isi_lt, isi_tt, isi_tl, isi_ti, itemsOf, litOf, at0, at1, at2, ix30, ix31, ix32, sl0, sl1, sl2, sl3, sl4, sl5, sl6, sl7, sl8, sl9, sl10, sl11, sl12, sl13, sl14, fnSem, startE, wipeE, ofInts, cell_last, set_last, meSem, meExtend, hd, hq, hcm, hz, eM]
  · rintro ρ' s' ⟨rfl, x, y, z, rfl⟩
    have hb := hbl Rs
    have hz : (backL Rs).length + 1 ≤ sizeLine := by omega
    have hs := hs (s ++ [.lst ((backL Rs).map eM)])
    rw [List.map_append] at hs
    simp only [List.map_cons, List.map_nil, eM] at hs
    simp [b_nil, b_cons, b_ifs, b_for, b_while, semS, e_lc, e_lc2, e_var, e_int, e_bl, e_non, e_str, e_glob, e_bin, e_neg, e_tst, e_ife, e_tup, e_lst, e_ix, e_slc, e_rev, e_call, e_callK, permL, e_bi, e_isi, e_meth, e_fz, e_fzl, e_sortK, e_isx, e_isb, e_fld, e_callT, e_emp, b_try, isxSem, fldSem, actSem, actOut, catchO, onlyT_at, semEs, semT, semAnd, semOr, semO, semC, semI, R.bind_ok, R.bind_ex, R.bind_bad, R.out_ok, R.out_ex, R.out_bad, thn_nx, thn_ret, thn_brk, thn_ct, thn_ex, thn_bad, val_nx, val_ret, val_ex, tgSem, tgsSem, binSem, addSem, augSem, ixSem, seqOf, lstOf, lstT, newL, cmpSem, cmpInts, cmpI, eqD_int, DV.isNon, biSem, biLen, biInt, biList, biTuple, biTwo, isi_ii, isi_ib, isi_il, isi_it, isi_ll, isi_li, isi_lt, isi_tt, isi_tl, isi_ti, itemsOf, litOf, at0, at1, at2, ix30, ix31, ix32, sl0, sl1, sl2, sl3, sl4, sl5, sl6, sl7, sl8, sl9, sl10, sl11, sl12, sl13, sl14, fnSem, startE, wipeE, cell_last, hdv, hself, hz, hs]
end PF

namespace PF
open PySem PySem.Spec L2 DV
theorem short_pos (f : List Mode) (m : Mode) (hf : ∀ p ∈ f, 1 ≤ p.1) (hm : 1 ≤ m.1) : ∀ p ∈ shortStep f m, 1 ≤ p.1 := by
  intro p hp
  unfold shortStep at hp
  split at hp
  · exact hf p hp
  · split at hp
    · rename_i q hq
      have h1 := hf q (List.mem_of_getLast? hq)
      split at hp
      · rcases List.mem_append.mp hp with h | h
        · exact hf p ((List.dropLast_sublist f).mem h)
        · rw [List.mem_singleton.mp h]
          have := Int.mul_pos (show 0 < q.1 by omega) (show 0 < m.1 by omega)
          show 1 ≤ q.1 * m.1
          omega
      · rcases List.mem_append.mp hp with h | h
        · exact hf p h
        · rw [List.mem_singleton.mp h]; exact hm
    · rcases List.mem_append.mp hp with h | h
      · exact hf p h
      · rw [List.mem_singleton.mp h]; exact hm
/-- valM from a state of what is left -/
theorem valM_app : ∀ (a b : List Mode) (i : Int), valM (a ++ b) i = valM a i + valM b (leftM a i)
  | [], b, i => by simp [valM, leftM]
  | m :: a, b, i => by rw [List.cons_append, valM, valM_app a b, valM, leftM]; omega
theorem short_fold : ∀ (l f : List Mode) (i : Int), 0 ≤ i → (∀ p ∈ f, 1 ≤ p.1) → (∀ p ∈ l, 1 ≤ p.1) → valM (l.foldl shortStep f) i = valM (f ++ l) i
  | [], f, i, _, _, _ => by simp
  | m :: l, f, i, h0, hf, hl => by
    have hm := hl m (List.mem_cons_self ..)
    have ih := short_fold l (shortStep f m) i h0 (short_pos f m hf hm) fun x hx => hl x (List.mem_cons_of_mem _ hx)
    obtain ⟨k1, k2⟩ := short_keeps f m i h0 hf hm
    rw [List.foldl_cons, ih, valM_app, k1, k2, ← valM_app, List.append_assoc]
    rfl
end PF

namespace Mix
section
variable {α : Type} (p n : α → Int)
def cont : List α → Int → Prop
  | [], _ => True
  | r :: rs, e => p r = e ∧ 1 < n r ∧ cont rs (e * n r)
def endC : List α → Int → Int
  | [], e => e
  | r :: rs, e => endC rs (e * n r)
def sumC (f : α → Int) : List α → Int
  | [] => 0
  | r :: rs => f r + sumC f rs
end
section
variable {α : Type} {p n : α → Int}
theorem mod_merge {i a b : Int} (ha : 0 < a) (hb : 0 < b) : i % (a * b) = i % a + a * (i / a % b) := by
  have h1 := Int.emod_add_mul_ediv i a
  have h2 := Int.emod_add_mul_ediv (i / a) b
  have r0 := Int.emod_nonneg i (show a ≠ 0 by omega)
  have r1 := Int.emod_lt_of_pos i ha
  have q0 := Int.emod_nonneg (i / a) (show b ≠ 0 by omega)
  have q1 := Int.emod_lt_of_pos (i / a) hb
  have e : i = (i % a + a * (i / a % b)) + a * b * (i / a / b) := by
    have : a * (i / a) = a * (i / a % b) + a * b * (i / a / b) := by
      rw [Int.mul_assoc, ← Int.mul_add, h2]
    omega
  have hlt : i % a + a * (i / a % b) < a * b := by
    have := Int.mul_le_mul_of_nonneg_left (show i / a % b + 1 ≤ b by omega) (show 0 ≤ a by omega)
    rw [Int.mul_add] at this
    omega
  have hge : 0 ≤ i % a + a * (i / a % b) := by
    have := Int.mul_nonneg (show 0 ≤ a by omega) q0
    omega
  have : i % (a * b) = (i % a + a * (i / a % b)) % (a * b) := by
    conv => lhs; rw [e]
    rw [Int.add_mul_emod_self_left]
  rw [this, Int.emod_eq_of_lt hge hlt]
theorem cont_dvd : ∀ (rs : List α) (e : Int), cont p n rs e → ∀ r ∈ rs, e ∣ p r
  | [], _, _, _, h => by cases h
  | q :: rs, e, h, r, hr => by
    rcases List.mem_cons.mp hr with rfl | hr
    · exact ⟨1, by rw [h.1, Int.mul_one]⟩
    · have := cont_dvd rs _ h.2.2 r hr
      exact Int.dvd_trans (Int.dvd_mul_right ..) this
theorem sum_dvd {e : Int} {f : α → Int} : ∀ (rs : List α), (∀ r ∈ rs, e ∣ f r) → e ∣ sumC f rs
  | [], _ => ⟨0, by simp [sumC]⟩
  | r :: rs, h => Int.dvd_add (h r (List.mem_cons_self ..)) (sum_dvd rs fun x hx => h x (List.mem_cons_of_mem _ hx))
theorem cont_pos : ∀ (rs : List α) (e : Int), 0 < e → cont p n rs e → 0 < endC n rs e
  | [], _, h, _ => h
  | r :: rs, e, h, hc => cont_pos rs _ (Int.mul_pos h (by have := hc.2.1; omega)) hc.2.2
theorem cont_ppos : ∀ (rs : List α) (e : Int), 0 < e → cont p n rs e → ∀ r ∈ rs, 0 < p r ∧ 1 < n r
  | [], _, _, _, _, h => by cases h
  | q :: rs, e, h, hc, r, hr => by
    rcases List.mem_cons.mp hr with rfl | hr
    · exact ⟨by rw [hc.1]; exact h, hc.2.1⟩
    · exact cont_ppos rs _ (Int.mul_pos h (by have := hc.2.1; omega)) hc.2.2 r hr
/-- digits, put together, are read back -/
theorem digits (c : α → Int) : ∀ (rs : List α) (e low : Int), 0 < e → cont p n rs e → (∀ r ∈ rs, 0 ≤ c r ∧ c r < n r) → 0 ≤ low → low < e →
    (∀ r ∈ rs, (low + sumC (fun r => c r * p r) rs) / p r % n r = c r) ∧ 0 ≤ low + sumC (fun r => c r * p r) rs ∧ low + sumC (fun r => c r * p r) rs < endC n rs e
  | [], e, low, he, _, _, h0, h1 => ⟨fun r h => (by cases h), by simpa [sumC] using h0, by simpa [sumC, endC] using h1⟩
  | r :: rs, e, low, he, hc, hd, h0, h1 => by
    obtain ⟨d0, d1⟩ := hd r (List.mem_cons_self ..)
    have hn := hc.2.1
    have hen : 0 < e * n r := Int.mul_pos he (by omega)
    have l0 : 0 ≤ low + c r * e := by
      have := Int.mul_nonneg d0 (show 0 ≤ e by omega)
      omega
    have l1 : low + c r * e < e * n r := by
      have := Int.mul_le_mul_of_nonneg_right (show c r + 1 ≤ n r by omega) (show 0 ≤ e by omega)
      rw [Int.add_mul, Int.mul_comm (n r)] at this
      omega
    obtain ⟨a, b, c'⟩ := digits c rs (e * n r) (low + c r * e) hen hc.2.2 (fun x hx => hd x (List.mem_cons_of_mem _ hx)) l0 l1
    have hs : low + sumC (fun r => c r * p r) (r :: rs) = low + c r * e + sumC (fun r => c r * p r) rs := by
      rw [sumC, hc.1]; omega
    rw [hs]
    refine ⟨fun x hx => ?_, b, c'⟩
    rcases List.mem_cons.mp hx with rfl | hx
    · obtain ⟨k, hk⟩ := sum_dvd (e := e * n x) (f := fun r => c r * p r) rs fun y hy => by
        obtain ⟨k, hk⟩ := cont_dvd rs _ hc.2.2 y hy
        exact ⟨c y * k, by show c y * p y = _; rw [hk]; simp [Int.mul_comm, Int.mul_left_comm, Int.mul_assoc]⟩
      rw [hk, hc.1]
      have e1 : low + c x * e + e * n x * k = low + e * (c x + n x * k) := by
        rw [Int.mul_add, Int.mul_assoc, Int.mul_comm (c x) e]; omega
      rw [e1, Int.add_mul_ediv_left _ _ (by omega), Int.ediv_eq_zero_of_lt h0 h1, Int.zero_add, Int.add_mul_emod_self_left, Int.emod_eq_of_lt d0 d1]
    · exact a x hx
/-- a number is what its digits make -/
theorem remake : ∀ (rs : List α) (e x : Int), 0 < e → cont p n rs e → sumC (fun r => x / p r % n r * p r) rs = x % endC n rs e - x % e
  | [], e, x, _, _ => by simp [sumC, endC]
  | r :: rs, e, x, he, hc => by
    have hn := hc.2.1
    rw [sumC, remake rs (e * n r) x (Int.mul_pos he (by omega)) hc.2.2, endC, mod_merge he (by omega), hc.1, Int.mul_comm e (x / e % n r)]
    omega
theorem sumC_congr {f g : α → Int} : ∀ (rs : List α), (∀ r ∈ rs, f r = g r) → sumC f rs = sumC g rs
  | [], _ => rfl
  | r :: rs, h => by rw [sumC, sumC, h r (List.mem_cons_self ..), sumC_congr rs fun x hx => h x (List.mem_cons_of_mem _ hx)]
theorem sumC_perm {f : α → Int} {a b : List α} (h : a.Perm b) : sumC f a = sumC f b := by
  induction h with
  | nil => rfl
  | cons x _ ih => rw [sumC, sumC, ih]
  | swap x y l => simp only [sumC]; omega
  | trans _ _ a b => rw [a, b]
theorem endC_perm {a b : List α} (h : a.Perm b) : ∀ e, endC n a e = endC n b e := by
  induction h with
  | nil => intro e; rfl
  | cons x _ ih => intro e; rw [endC, endC, ih]
  | swap x y l => intro e; simp only [endC]; rw [Int.mul_assoc, Int.mul_assoc, Int.mul_comm (n y)]
  | trans _ _ a b => intro e; rw [a, b]
theorem sumC_app {f : α → Int} : ∀ (a b : List α), sumC f (a ++ b) = sumC f a + sumC f b
  | [], b => by simp [sumC]
  | r :: a, b => by rw [List.cons_append, sumC, sumC, sumC_app a b]; omega
end
end Mix

namespace PF
open PySem PySem.Spec L2 DV Mix
/-! ### values and indices undo each other -/
def prow (r : List Int) : Int := r.getD 0 0
def nrow (r : List Int) : Int := r.getD 1 0
def urow (r : List Int) : Int := r.getD 2 0
theorem chain_cont : ∀ (l : List Mode) (u : Int), (∀ m ∈ l, 1 ≤ m.1) → cont urow nrow (chainR l u) u ∧ endC nrow (chainR l u) u = u * prodM l
  | [], u, _ => ⟨trivial, by simp [chainR, endC, prodM]⟩
  | m :: l, u, h => by
    have hm := h m (List.mem_cons_self ..)
    obtain ⟨a, b⟩ := chain_cont l (u * m.1) fun x hx => h x (List.mem_cons_of_mem _ hx)
    rw [chainR, prodM_cons, ← Int.mul_assoc]
    by_cases h1 : 1 < m.1
    · rw [if_pos h1]
      exact ⟨⟨rfl, h1, a⟩, b⟩
    · have e1 : m.1 = 1 := by omega
      rw [if_neg h1, List.nil_append]
      rw [e1, Int.mul_one] at a b ⊢
      exact ⟨a, b⟩
theorem valM_chain : ∀ (l : List Mode) (u i : Int), 0 < u → (∀ m ∈ l, 1 ≤ m.1) → valM l (i / u) = sumC (fun r => i / urow r % nrow r * prow r) (chainR l u)
  | [], u, i, _, _ => rfl
  | m :: l, u, i, hu, h => by
    have hm := h m (List.mem_cons_self ..)
    have ih := valM_chain l (u * m.1) i (Int.mul_pos hu (by omega)) fun x hx => h x (List.mem_cons_of_mem _ hx)
    rw [valM, Int.ediv_ediv_of_nonneg (by omega), ih, chainR]
    by_cases h1 : 1 < m.1
    · rw [if_pos h1]
      rfl
    · have e1 : m.1 = 1 := by omega
      rw [if_neg h1, List.nil_append, e1, Int.emod_one, Int.zero_mul, Int.zero_add]
theorem contig_cont : ∀ (rs : List (List Int)) (e : Int), contig rs e → cont prow nrow rs e
  | [], _, _ => trivial
  | r :: rs, e, h => by
    obtain ⟨n, u, rfl, h1, _, h2⟩ := h
    exact ⟨rfl, h1, contig_cont rs _ h2⟩
theorem endR_endC : ∀ (rs : List (List Int)) (e : Int), endR rs e = endC nrow rs e
  | [], _ => rfl
  | r :: rs, e => endR_endC rs _
theorem valM_back : ∀ (rs : List (List Int)) (e v : Int), 0 < e → contig rs e → valM (backL rs) (v / e) = sumC (fun r => v / prow r % nrow r * urow r) rs
  | [], _, _, _, _ => rfl
  | r :: rs, e, v, he, h => by
    obtain ⟨n, u, rfl, h1, _, h2⟩ := h
    have ih := valM_back rs (e * n) v (Int.mul_pos he (by omega)) h2
    show valM ((1, 0) :: (n, u) :: backL rs) (v / e) = _
    rw [valM, valM, sumC]
    dsimp only
    rw [Int.ediv_one, Int.ediv_ediv_of_nonneg (by omega), ih, Int.emod_one, Int.zero_mul, Int.zero_add]
    rfl
/-- the index that a place has -/
def idxR (rs : List (List Int)) (v : Int) : Int := valM (backL rs ++ [(1, 0)]) v
theorem idxR_sum (rs : List (List Int)) (v : Int) (h : contig rs 1) : idxR rs v = sumC (fun r => v / prow r % nrow r * urow r) rs := by
  have := valM_back rs 1 v (by decide) h
  rw [Int.ediv_one] at this
  unfold idxR
  rw [valM_app, this, valM, valM]
  simp
section
variable {l : List Mode} {rs : List (List Int)}
theorem prod_end (hp : rs.Perm (chainR l 1)) (h1 : ∀ m ∈ l, 1 ≤ m.1) : endC nrow rs 1 = prodM l := by
  rw [endC_perm hp, (chain_cont l 1 h1).2, Int.one_mul]
theorem back_of_val (hp : rs.Perm (chainR l 1)) (hc : contig rs 1) (h1 : ∀ m ∈ l, 1 ≤ m.1) (i : Int) (h0 : 0 ≤ i) (hi : i < prodM l) : idxR rs (valM l i) = i ∧ 0 ≤ valM l i ∧ valM l i < prodM l := by
  have c1 := contig_cont rs 1 hc
  obtain ⟨c2, e2⟩ := chain_cont l 1 h1
  have ev : valM l i = 0 + sumC (fun r => i / urow r % nrow r * prow r) rs := by
    have := valM_chain l 1 i (by decide) h1
    rw [Int.ediv_one] at this
    rw [this, Int.zero_add]
    exact (sumC_perm hp).symm
  obtain ⟨d1, d2, d3⟩ := digits (p := prow) (n := nrow) (fun r => i / urow r % nrow r) rs 1 0 (by decide) c1 (fun r hr => by
    have := (cont_ppos rs 1 (by decide) c1 r hr).2
    exact ⟨Int.emod_nonneg _ (by omega), Int.emod_lt_of_pos _ (by omega)⟩) (by decide) (by decide)
  rw [← ev] at d1 d2 d3
  rw [prod_end hp h1] at d3
  refine ⟨?_, d2, d3⟩
  rw [idxR_sum rs _ hc, sumC_congr rs (g := fun r => i / urow r % nrow r * urow r) fun r hr => by rw [d1 r hr], sumC_perm hp, remake _ 1 i (by decide) c2, e2, Int.one_mul, Int.emod_one, Int.emod_eq_of_lt h0 hi]
  omega
theorem val_of_back (hp : rs.Perm (chainR l 1)) (hc : contig rs 1) (h1 : ∀ m ∈ l, 1 ≤ m.1) (v : Int) (h0 : 0 ≤ v) (hv : v < prodM l) : valM l (idxR rs v) = v ∧ 0 ≤ idxR rs v ∧ idxR rs v < prodM l := by
  have c1 := contig_cont rs 1 hc
  obtain ⟨c2, e2⟩ := chain_cont l 1 h1
  rw [Int.one_mul] at e2
  have ev : idxR rs v = 0 + sumC (fun r => v / prow r % nrow r * urow r) (chainR l 1) := by
    rw [idxR_sum rs v hc, Int.zero_add, sumC_perm hp]
  obtain ⟨d1, d2, d3⟩ := digits (p := urow) (n := nrow) (fun r => v / prow r % nrow r) (chainR l 1) 1 0 (by decide) c2 (fun r hr => by
    have := (cont_ppos _ 1 (by decide) c2 r hr).2
    exact ⟨Int.emod_nonneg _ (by omega), Int.emod_lt_of_pos _ (by omega)⟩) (by decide) (by decide)
  rw [← ev] at d1 d2 d3
  rw [e2] at d3
  refine ⟨?_, d2, d3⟩
  have := valM_chain l 1 (idxR rs v) (by decide) h1
  rw [Int.ediv_one] at this
  rw [this, sumC_congr (chainR l 1) (g := fun r => v / prow r % nrow r * prow r) fun r hr => by rw [d1 r hr], ← sumC_perm hp, remake rs 1 v (by decide) c1, prod_end hp h1, Int.emod_one, Int.emod_eq_of_lt h0 hv]
  omega
end
/-! ### short axes, at any sizes -/
theorem prodM_pos : ∀ (l : List Mode), (∀ m ∈ l, 1 ≤ m.1) → 1 ≤ prodM l
  | [], _ => by simp [prodM]
  | m :: l, h => by
    have h1 := prodM_pos l fun x hx => h x (List.mem_cons_of_mem _ hx)
    have h2 := h m (List.mem_cons_self ..)
    rw [prodM_cons]
    have := Int.mul_le_mul h2 h1 (by decide) (by omega)
    omega
theorem prodM_app (a b : List Mode) : prodM (a ++ b) = prodM a * prodM b := by
  induction a with
  | nil => simp [prodM]
  | cons m a ih => rw [List.cons_append, prodM_cons, prodM_cons, ih, Int.mul_assoc]
theorem mem_le_prod : ∀ (l : List Mode), (∀ m ∈ l, 1 ≤ m.1) → ∀ m ∈ l, m.1 ≤ prodM l
  | [], _, m, h => by cases h
  | q :: l, h, m, hm => by
    have h1 := prodM_pos l fun x hx => h x (List.mem_cons_of_mem _ hx)
    have h2 := h q (List.mem_cons_self ..)
    rw [prodM_cons]
    rcases List.mem_cons.mp hm with rfl | hm
    · have := Int.mul_le_mul_of_nonneg_left h1 (show 0 ≤ m.1 by omega)
      omega
    · have h3 := mem_le_prod l (fun x hx => h x (List.mem_cons_of_mem _ hx)) m hm
      have := Int.mul_le_mul_of_nonneg_right h2 (show 0 ≤ prodM l by omega)
      omega
theorem short_prod (f : List Mode) (m : Mode) : prodM (shortStep f m) = prodM (f ++ [m]) := by
  unfold shortStep
  split
  · rename_i h
    rw [prodM_snoc, h, Int.mul_one]
  · split
    · rename_i p hp
      split
      · rcases List.eq_nil_or_concat f with rfl | ⟨g, q, rfl⟩
        · simp at hp
        · rw [List.concat_eq_append] at *
          simp at hp
          subst hp
          rw [List.dropLast_concat, prodM_snoc, prodM_snoc, prodM_snoc, Int.mul_assoc]
      · rfl
    · rfl
theorem short_prods : ∀ (l f : List Mode), prodM (l.foldl shortStep f) = prodM (f ++ l)
  | [], f => by simp
  | m :: l, f => by rw [List.foldl_cons, short_prods l, prodM_app, short_prod, ← prodM_app, List.append_assoc]; rfl
theorem shorts_pos : ∀ (l f : List Mode), (∀ p ∈ f, 1 ≤ p.1) → (∀ p ∈ l, 1 ≤ p.1) → ∀ p ∈ l.foldl shortStep f, 1 ≤ p.1
  | [], f, h, _ => h
  | m :: l, f, h, hl => shorts_pos l _ (short_pos f m h (hl m (List.mem_cons_self ..))) fun x hx => hl x (List.mem_cons_of_mem _ hx)
theorem short_strides (P : Int → Prop) (f : List Mode) (m : Mode) (hf : ∀ p ∈ f, P p.2) (hm : P m.2) : ∀ p ∈ shortStep f m, P p.2 := by
  intro p hp
  unfold shortStep at hp
  split at hp
  · exact hf p hp
  · split at hp
    · rename_i q hq
      split at hp
      · rcases List.mem_append.mp hp with h | h
        · exact hf p ((List.dropLast_sublist f).mem h)
        · rw [List.mem_singleton.mp h]
          exact hf q (List.mem_of_getLast? hq)
      · rcases List.mem_append.mp hp with h | h
        · exact hf p h
        · rw [List.mem_singleton.mp h]; exact hm
    · rcases List.mem_append.mp hp with h | h
      · exact hf p h
      · rw [List.mem_singleton.mp h]; exact hm
theorem shorts_strides (P : Int → Prop) : ∀ (l f : List Mode), (∀ p ∈ f, P p.2) → (∀ p ∈ l, P p.2) → ∀ p ∈ l.foldl shortStep f, P p.2
  | [], f, h, _ => h
  | m :: l, f, h, hl => shorts_strides P l _ (short_strides P f m h (hl m (List.mem_cons_self ..))) fun x hx => hl x (List.mem_cons_of_mem _ hx)
def shortL (l : List Mode) : List Mode := l.foldl shortStep []
theorem short_axis_ok' (s : Sto) (l : List Mode) (hl : l.length ≤ 200) (h1 : ∀ m ∈ l, 1 ≤ m.1) (hp : prodM l < 2 ^ 2000) (hs : ∀ m ∈ l, m.2.natAbs < 2 ^ 2000) : f_short_axis s [.lst (l.map eM)] = .ok (.lst ((shortL l).map eM)) s := by
  refine short_axis_ok s l hl ?_ fun m hm => ?_
  · rintro a b rfl p hpp
    have g1 : ∀ m ∈ a, 1 ≤ m.1 := fun m hm => h1 m (List.mem_append_left _ hm)
    have g2 : ∀ m ∈ b, 1 ≤ m.1 := fun m hm => h1 m (List.mem_append_right _ hm)
    have k1 := shorts_pos a [] (by simp) g1
    refine ⟨?_, shorts_strides (fun i => i.natAbs < 2 ^ 2000) a [] (by simp) (fun m hm => hs m (List.mem_append_left _ hm)) p hpp⟩
    have k2 := mem_le_prod _ k1 p hpp
    have k3 := short_prods a []
    rw [List.nil_append] at k3
    rw [k3] at k2
    rw [prodM_app] at hp
    have k4 := Int.mul_le_mul_of_nonneg_left (prodM_pos b g2) (show 0 ≤ prodM a by have := prodM_pos a g1; omega)
    have k5 := k1 p hpp
    have e : ((2 ^ 2000 : Nat) : Int) = 2 ^ 2000 := by norm_cast
    omega
  · have := mem_le_prod l h1 m hm
    have := h1 m hm
    have e : ((2 ^ 2000 : Nat) : Int) = 2 ^ 2000 := by norm_cast
    omega
end PF

namespace PF
open PySem PySem.Spec L2 DV
theorem q_many_ok (s : Sto) (h : List (List Mode)) (hl : h.flatten.length ≤ 200) (hm : ∀ m ∈ h.flatten, okM m) : f__law_q_many s [eH h] = .ok (.int (prodM h.flatten)) s := by
  refine fnD_of ?_ (by rw [bnd])
  have m1 := q_flat_ok s h hl
  unfold eH eA at *
  generalize h.flatten = l at *
  simp [b_nil, b_cons, b_ifs, b_for, b_while, semS, e_lc, e_lc2, e_var, e_int, e_bl, e_non, e_str, e_glob, e_bin, e_neg, e_tst, e_ife, e_tup, e_lst, e_ix, e_slc, e_rev, e_call, e_callK, permL, e_bi, e_isi, e_meth, e_fz, e_fzl, e_sortK, e_isx, e_isb, e_fld, e_callT, e_emp, b_try, isxSem, fldSem, actSem, actOut, catchO, onlyT_at, semEs, semT, semAnd, semOr, semO, semC, semI, R.bind_ok, R.bind_ex, R.bind_bad, R.out_ok, R.out_ex, R.out_bad, thn_nx, thn_ret, thn_brk, thn_ct, thn_ex, thn_bad, val_nx, val_ret, val_ex, tgSem, tgsSem, binSem, addSem, augSem, ixSem, seqOf, lstOf, lstT, newL, cmpSem, cmpInts, cmpI, eqD_int, DV.isNon, biSem, biLen, biInt, biList, biTuple, biTwo, isi_ii, isi_ib, isi_il, isi_it, isi_ll, isi_li, isi_lt, isi_tt, isi_tl, isi_ti, itemsOf, litOf, at0, at1, at2, ix30, ix31, ix32, sl0, sl1, sl2, sl3, sl4, sl5, sl6, sl7, sl8, sl9, sl10, sl11, sl12, sl13, sl14, fnSem, startE, wipeE, N__law_q_many, ir__law_q_many, m1]
  refine pre_k (fun o => (o.thn _).val = _) (fun b ρ s' => s' = s ∧ ∃ x, ρ = [some (.lst (h.map fun a => .lst (a.map eM))), some (.int (prodM b)), x]) ⟨rfl, _, rfl⟩ ?_ ?_
  · rintro pre m post rfl ρ s' ⟨rfl, x, rfl⟩
    refine ⟨_, s', .inl ?_, rfl, some (eM m), rfl⟩
    have hc : CMulW (prodM pre) m.1 := mulW_of (prodM_lt pre fun x hx => hm x (List.mem_append_left _ hx)) (okM_lt (hm m (by simp))) (by simp at hl; omega)
    simp [forBd_at, b_nil, b_cons, b_ifs, b_for, b_while, semS, e_lc, e_lc2, e_var, e_int, e_bl, e_non, e_str, e_glob, e_bin, e_neg, e_tst, e_ife, e_tup, e_lst, e_ix, e_slc, e_rev, e_call, e_callK, permL, e_bi, e_isi, e_meth, e_fz, e_fzl, e_sortK, e_isx, e_isb, e_fld, e_callT, e_emp, b_try, isxSem, fldSem, actSem, actOut, catchO, onlyT_at, semEs, semT, semAnd, semOr, semO, semC, semI, R.bind_ok, R.bind_ex, R.bind_bad, R.out_ok, R.out_ex, R.out_bad, thn_nx, thn_ret, thn_brk, thn_ct, thn_ex, thn_bad, val_nx, val_ret, val_ex, tgSem, tgsSem, binSem, addSem, augSem, ixSem, seqOf, lstOf, lstT, newL, cmpSem, cmpInts, cmpI, eqD_int, DV.isNon, biSem, biLen, biInt, biList, biTuple, biTwo, isi_ii, isi_ib, isi_il, isi_it, isi_ll, isi_li, isi_lt, isi_tt, isi_tl, isi_ti, itemsOf, litOf, at0, at1, at2, ix30, ix31, ix32, sl0, sl1, sl2, sl3, sl4, sl5, sl6, sl7, sl8, sl9, sl10, sl11, sl12, sl13, sl14, fnSem, startE, wipeE, eM, prodM_snoc, hc]
  · rintro ρ' s' ⟨rfl, x, rfl⟩
    simp [b_nil, b_cons, b_ifs, b_for, b_while, semS, e_lc, e_lc2, e_var, e_int, e_bl, e_non, e_str, e_glob, e_bin, e_neg, e_tst, e_ife, e_tup, e_lst, e_ix, e_slc, e_rev, e_call, e_callK, permL, e_bi, e_isi, e_meth, e_fz, e_fzl, e_sortK, e_isx, e_isb, e_fld, e_callT, e_emp, b_try, isxSem, fldSem, actSem, actOut, catchO, onlyT_at, semEs, semT, semAnd, semOr, semO, semC, semI, R.bind_ok, R.bind_ex, R.bind_bad, R.out_ok, R.out_ex, R.out_bad, thn_nx, thn_ret, thn_brk, thn_ct, thn_ex, thn_bad, val_nx, val_ret, val_ex, tgSem, tgsSem, binSem, addSem, augSem, ixSem, seqOf, lstOf, lstT, newL, cmpSem, cmpInts, cmpI, eqD_int, DV.isNon, biSem, biLen, biInt, biList, biTuple, biTwo, isi_ii, isi_ib, isi_il, isi_it, isi_ll, isi_li, isi_lt, isi_tt, isi_tl, isi_ti, itemsOf, litOf, at0, at1, at2, ix30, ix31, ix32, sl0, sl1, sl2, sl3, sl4, sl5, sl6, sl7, sl8, sl9, sl10, sl11, sl12, sl13, sl14, fnSem, startE, wipeE]
theorem q_value_ok (s : Sto) (h : List (List Mode)) (hl : h.flatten.length ≤ 200) (hm : ∀ m ∈ h.flatten, okM m) (i : Int) (h0 : 0 ≤ i) (h1 : i < 1000000) : f__law_q_value s [eH h, .int i] = .ok (.int (valM h.flatten i)) s := by
  refine fnD_of ?_ (by rw [bnd])
  have m1 := q_flat_ok s h hl
  unfold eH eA at *
  generalize h.flatten = l at *
  simp [b_nil, b_cons, b_ifs, b_for, b_while, semS, e_lc, e_lc2, e_var, e_int, e_bl, e_non, e_str, e_glob, e_bin, e_neg, e_tst, e_ife, e_tup, e_lst, e_ix, e_slc, e_rev, e_call, e_callK, permL, e_bi, e_isi, e_meth, e_fz, e_fzl, e_sortK, e_isx, e_isb, e_fld, e_callT, e_emp, b_try, isxSem, fldSem, actSem, actOut, catchO, onlyT_at, semEs, semT, semAnd, semOr, semO, semC, semI, R.bind_ok, R.bind_ex, R.bind_bad, R.out_ok, R.out_ex, R.out_bad, thn_nx, thn_ret, thn_brk, thn_ct, thn_ex, thn_bad, val_nx, val_ret, val_ex, tgSem, tgsSem, binSem, addSem, augSem, ixSem, seqOf, lstOf, lstT, newL, cmpSem, cmpInts, cmpI, eqD_int, DV.isNon, biSem, biLen, biInt, biList, biTuple, biTwo, isi_ii, isi_ib, isi_il, isi_it, isi_ll, isi_li, isi_lt, isi_tt, isi_tl, isi_ti, itemsOf, litOf, at0, at1, at2, ix30, ix31, ix32, sl0, sl1, sl2, sl3, sl4, sl5, sl6, sl7, sl8, sl9, sl10, sl11, sl12, sl13, sl14, fnSem, startE, wipeE, N__law_q_value, ir__law_q_value, m1]
  refine pre_k (fun o => (o.thn _).val = _) (fun b ρ s' => s' = s ∧ ∃ x y, ρ = [some (.lst (h.map fun a => .lst (a.map eM))), some (.int i), some (.int (valM b i)), some (.int (leftM b i)), x, y]) ⟨rfl, _, _, rfl⟩ ?_ ?_
  · rintro pre m post rfl ρ s' ⟨rfl, x, y, rfl⟩
    refine ⟨_, s', .inl ?_, rfl, some (.int m.1), some (.int m.2), rfl⟩
    have hok := hm m (by simp)
    have hp : 0 < m.1 := by have := hok.1.1; omega
    obtain ⟨a, b⟩ := leftM_le pre i (fun x hx => (hm x (List.mem_append_left _ hx)).1.1) h0
    have r0 := Int.emod_nonneg (leftM pre i) (show m.1 ≠ 0 by omega)
    have r1 : leftM pre i % m.1 ≤ leftM pre i := by
      have := Int.mul_nonneg (show 0 ≤ m.1 by omega) (Int.ediv_nonneg a (show 0 ≤ m.1 by omega))
      rw [Int.emod_def]
      omega
    have hc : CMulW (leftM pre i % m.1) m.2 := mulW_of (a := 64) (b := 200) (by omega) (okM_lt2 hok) (by decide)
    have hd : CDivW (leftM pre i) m.1 := divW_of hp (Nat.lt_of_lt_of_le (okM_lt hok) (Nat.pow_le_pow_right (by decide) (by decide)))
    simp [forBd_at, b_nil, b_cons, b_ifs, b_for, b_while, semS, e_lc, e_lc2, e_var, e_int, e_bl, e_non, e_str, e_glob, e_bin, e_neg, e_tst, e_ife, e_tup, e_lst, e_ix, e_slc, e_rev, e_call, e_callK, permL, e_bi, e_isi, e_meth, e_fz, e_fzl, e_sortK, e_isx, e_isb, e_fld, e_callT, e_emp, b_try, isxSem, fldSem, actSem, actOut, catchO, onlyT_at, semEs, semT, semAnd, semOr, semO, semC, semI, R.bind_ok, R.bind_ex, R.bind_bad, R.out_ok, R.out_ex, R.out_bad, thn_nx, thn_ret, thn_brk, thn_ct, thn_ex, thn_bad, val_nx, val_ret, val_ex, tgSem, tgsSem, binSem, addSem, augSem, ixSem, seqOf, lstOf, lstT, newL, cmpSem, cmpInts, cmpI, eqD_int, DV.isNon, biSem, biLen, biInt, biList, biTuple, biTwo, isi_ii, isi_ib, isi_il, isi_it, isi_ll, isi_li, isi_lt, isi_tt, isi_tl, isi_ti, itemsOf, litOf, at0, at1, at2, ix30, ix31, ix32, sl0, sl1, sl2, sl3, sl4, sl5, sl6, sl7, sl8, sl9, sl10, sl11, sl12, sl13, sl14, fnSem, startE, wipeE, eM, hp, hc, hd, valM_snoc, leftM_snoc]
  · rintro ρ' s' ⟨rfl, x, y, rfl⟩
    simp [b_nil, b_cons, b_ifs, b_for, b_while, semS, e_lc, e_lc2, e_var, e_int, e_bl, e_non, e_str, e_glob, e_bin, e_neg, e_tst, e_ife, e_tup, e_lst, e_ix, e_slc, e_rev, e_call, e_callK, permL, e_bi, e_isi, e_meth, e_fz, e_fzl, e_sortK, e_isx, e_isb, e_fld, e_callT, e_emp, b_try, isxSem, fldSem, actSem, actOut, catchO, onlyT_at, semEs, semT, semAnd, semOr, semO, semC, semI, R.bind_ok, R.bind_ex, R.bind_bad, R.out_ok, R.out_ex, R.out_bad, thn_nx, thn_ret, thn_brk, thn_ct, thn_ex, thn_bad, val_nx, val_ret, val_ex, tgSem, tgsSem, binSem, addSem, augSem, ixSem, seqOf, lstOf, lstT, newL, cmpSem, cmpInts, cmpI, eqD_int, DV.isNon, biSem, biLen, biInt, biList, biTuple, biTwo, isi_ii, isi_ib, isi_il, isi_it, isi_ll, isi_li, isi_lt, isi_tt, isi_tl, isi_ti, itemsOf, litOf, at0, at1, at2, ix30, ix31, ix32, sl0, sl1, sl2, sl3, sl4, sl5, sl6, sl7, sl8, sl9, sl10, sl11, sl12, sl13, sl14, fnSem, startE, wipeE]
end PF

namespace PF
open PySem PySem.Spec L2 DV Mix
theorem prod_back : ∀ (rs : List (List Int)), prodM (backL rs) = endC nrow rs 1
  | rs => by
    have key : ∀ (rs : List (List Int)) (e : Int), e * prodM (backL rs) = endC nrow rs e := by
      intro rs
      induction rs with
      | nil => intro e; simp [backL, prodM, endC]
      | cons r rs ih =>
        intro e
        show e * prodM ((1, 0) :: (r.getD 1 0, r.getD 2 0) :: backL rs) = endC nrow rs (e * nrow r)
        rw [prodM_cons, prodM_cons, ← ih, Int.one_mul, Int.mul_assoc]
        rfl
    have := key rs 1
    rwa [Int.one_mul] at this
theorem chainR_unit : ∀ (l : List Mode) (u : Int), 0 < u → (∀ m ∈ l, 1 ≤ m.1) → ∀ r ∈ chainR l u, 0 < urow r ∧ urow r ≤ u * prodM l
  | [], u, _, _, r, h => by cases h
  | m :: l, u, hu, hl, r, h => by
    have hm := hl m (List.mem_cons_self ..)
    have hp := prodM_pos l fun x hx => hl x (List.mem_cons_of_mem _ hx)
    have hu2 : 0 < u * m.1 := Int.mul_pos hu (by omega)
    rw [prodM_cons]
    have h3 : u ≤ u * (m.1 * prodM l) := by
      have := Int.mul_le_mul hm hp (by decide) (by omega)
      have := Int.mul_le_mul_of_nonneg_left (show 1 ≤ m.1 * prodM l by omega) (show 0 ≤ u by omega)
      omega
    rw [chainR] at h
    rcases List.mem_append.mp h with h | h
    · split at h
      · rw [List.mem_singleton.mp h]
        exact ⟨hu, h3⟩
      · cases h
    · have := chainR_unit l (u * m.1) hu2 (fun x hx => hl x (List.mem_cons_of_mem _ hx)) r h
      rw [Int.mul_assoc] at this
      exact this
/-- the rows of hands, by their strides -/
def rowsOf (l : List Mode) : List (List Int) := sortT (chainR l 1)
theorem rows_perm (l : List Mode) : (rowsOf l).Perm (chainR l 1) := sortT_perm _
/-- what is drawn -/
theorem hnd_pos {h : List (List Mode)} (g : Hnd h) : ∀ m ∈ h.flatten, 1 ≤ m.1 := fun m hm => (g.ok m hm).1.1
theorem hnd_contig {h : List (List Mode)} (g : Hnd h) : contig (rowsOf h.flatten) 1 := contig_full g
theorem backL_mem : ∀ (rs : List (List Int)) (m : Mode), m ∈ backL rs → m = (1, 0) ∨ ∃ r ∈ rs, m = (nrow r, urow r)
  | [], m, h => by cases h
  | r :: rs, m, h => by
    have h : m ∈ (1, 0) :: (r.getD 1 0, r.getD 2 0) :: backL rs := h
    rcases List.mem_cons.mp h with h | h
    · exact .inl h
    · rcases List.mem_cons.mp h with h | h
      · exact .inr ⟨r, List.mem_cons_self .., h⟩
      · rcases backL_mem rs m h with h | ⟨q, hq, e⟩
        · exact .inl h
        · exact .inr ⟨q, List.mem_cons_of_mem _ hq, e⟩
def backS (l : List Mode) : List Mode := shortL (backL (rowsOf l) ++ [(1, 0)])
theorem back_len : ∀ a : List (List Int), (backL a).length = 2 * a.length
  | [] => rfl
  | q :: a => by
    show (_ :: _ :: backL a).length = _
    rw [List.length_cons, List.length_cons, back_len a, List.length_cons]
    omega
theorem rows_len (l : List Mode) : (rowsOf l).length ≤ l.length := by
  rw [(rows_perm l).length_eq]
  exact chainR_len l 1
section
variable {h : List (List Mode)}
theorem back_pre (g : Hnd h) : (∀ m ∈ backL (rowsOf h.flatten) ++ [(1, 0)], 1 ≤ m.1) ∧ prodM (backL (rowsOf h.flatten) ++ [(1, 0)]) = prodM h.flatten ∧ ∀ m ∈ backL (rowsOf h.flatten) ++ [(1, 0)], 0 ≤ m.2 ∧ m.2 ≤ 10000000000000000000000000000000000000000 := by
  have hc := hnd_contig g
  have h1 := hnd_pos g
  have cc := (chain_cont h.flatten 1 h1).1
  have hmem : ∀ m ∈ backL (rowsOf h.flatten) ++ [(1, 0)], m = (1, 0) ∨ ∃ r ∈ chainR h.flatten 1, m = (nrow r, urow r) := fun m hm => by
    rcases List.mem_append.mp hm with hm | hm
    · rcases backL_mem _ m hm with e | ⟨r, hr, e⟩
      · exact .inl e
      · exact .inr ⟨r, (rows_perm _).mem_iff.mp hr, e⟩
    · exact .inl (List.mem_singleton.mp hm)
  refine ⟨fun m hm => ?_, ?_, fun m hm => ?_⟩
  · rcases hmem m hm with rfl | ⟨r, hr, rfl⟩
    · exact Int.le_refl 1
    · have := (cont_ppos _ 1 (by decide) cc r hr).2
      show 1 ≤ nrow r
      omega
  · rw [prodM_snoc, Int.mul_one, prod_back, prod_end (rows_perm _) h1]
  · rcases hmem m hm with rfl | ⟨r, hr, rfl⟩
    · exact ⟨Int.le_refl 0, by decide⟩
    · have := chainR_unit h.flatten 1 (by decide) h1 r hr
      have := g.many
      show 0 ≤ urow r ∧ urow r ≤ _
      omega
theorem raw_back_ok' (s : Sto) (g : Hnd h) : f_raw_back s [eH h, .int (prodM h.flatten)] = .ok (eA (backS h.flatten)) s := by
  have hc := hnd_contig g
  have h1 := hnd_pos g
  obtain ⟨p1, p2, p3⟩ := back_pre g
  have hl := rows_len h.flatten
  have := raw_back_ok s h (rowsOf h.flatten) rfl (by have := g.few; omega) g.ok hc fun s' => short_axis_ok' s' _ (by rw [List.length_append, back_len]; simp; have := g.few; omega) p1 (by
      have e : ((2 ^ 2000 : Nat) : Int) = 2 ^ 2000 := by norm_cast
      have : (10000000000000000000000000000000000000000 : Int) < 2 ^ 2000 := by decide +kernel
      rw [p2]; have := g.many; omega) fun m hm => by
      have e : (10000000000000000000000000000000000000000 : Nat) < 2 ^ 2000 := by decide +kernel
      have := p3 m hm
      omega
  rw [endR_endC, prod_end (rows_perm _) h1] at this
  exact this
theorem backS_ok (g : Hnd h) : (backS h.flatten).length ≤ 15 ∧ ∀ m ∈ backS h.flatten, okM m := by
  obtain ⟨p1, p2, p3⟩ := back_pre g
  have k1 := shorts_pos _ [] (by simp) p1
  have k2 := short_prods (backL (rowsOf h.flatten) ++ [(1, 0)]) []
  have k3 := shorts_strides (fun i => 0 ≤ i ∧ i ≤ 10000000000000000000000000000000000000000) _ [] (by simp) p3
  rw [List.nil_append] at k2
  refine ⟨?_, fun m hm => ?_⟩
  · have hl := rows_len h.flatten
    have hlen : ∀ (a f : List Mode), (a.foldl shortStep f).length ≤ f.length + a.length := by
      intro a
      induction a with
      | nil => intro f; simp
      | cons m a ih =>
        intro f
        have h1 := ih (shortStep f m)
        have h2 := short_len f m
        simp only [List.foldl_cons, List.length_cons]
        omega
    have := hlen (backL (rowsOf h.flatten) ++ [(1, 0)]) []
    rw [List.length_append, back_len, List.length_singleton, List.length_nil] at this
    have := g.few
    unfold backS shortL
    omega
  · have q1 := k1 m hm
    have q2 := mem_le_prod _ k1 m hm
    rw [k2, p2] at q2
    have q3 := k3 m hm
    have := g.many
    exact ⟨⟨q1, by omega⟩, by omega, by omega⟩
theorem valM_backS (g : Hnd h) (v : Int) (h0 : 0 ≤ v) : valM (backS h.flatten) v = idxR (rowsOf h.flatten) v := by
  obtain ⟨p1, _, _⟩ := back_pre g
  have := short_fold (backL (rowsOf h.flatten) ++ [(1, 0)]) [] v h0 (by simp) p1
  rw [List.nil_append] at this
  exact this
end
/-- the index of an element within its round -/
def idxM (l : List Mode) (e : Int) : Int := idxR (rowsOf l) (e % prodM l)
theorem where_is_ok (s : Sto) (x y : List Mode) (g : Hnd [x, y]) (n e : Int) (h0 : 0 ≤ n) (h1 : n ≤ 10000000000000000000000000000000000000000) (e0 : 0 ≤ e) (e1 : e < n) :
    f_where_is s [eH [x, y], .int n, .int e] = .ok (.tup [.int (e / prodM (x ++ y)), .int (idxM (x ++ y) e % prodM x), .int (idxM (x ++ y) e / prodM x)]) s := by
  have hf : ([x, y] : List (List Mode)).flatten = x ++ y := by simp
  have few := g.few
  have ok := g.ok
  have pos := hnd_pos g
  have gm := g.many
  have b1 := raw_back_ok' s g
  have bo := backS_ok g
  have bv := valM_backS g
  rw [hf] at few ok pos gm b1 bo bv
  rw [List.length_append] at few
  have posx : ∀ m ∈ x, 1 ≤ m.1 := fun m hm => pos m (List.mem_append_left _ hm)
  have okx : ∀ m ∈ x, okM m := fun m hm => ok m (List.mem_append_left _ hm)
  have hp := prodM_pos _ pos
  have hpx := prodM_pos _ posx
  have n1 := need_work_ok s g n h0 h1
  have n2 := need_below_ok s e n e0 e1
  have r1 := raw_size_ok s [x, y] (by rw [hf, List.length_append]; omega) (by rw [hf]; exact ok)
  rw [hf] at r1
  have w1 := workers_of_ok s x y (by omega) okx
  have m0 := Int.emod_nonneg e (show prodM (x ++ y) ≠ 0 by omega)
  have m1 := Int.emod_lt_of_pos e (show 0 < prodM (x ++ y) by omega)
  have fl : ([backS (x ++ y)] : List (List Mode)).flatten = backS (x ++ y) := by simp
  have v1 := raw_value_ok s [backS (x ++ y)] (by rw [fl]; omega) (by rw [fl]; exact bo.2) (e % prodM (x ++ y)) m0 (by
    have e : (10000000000000000000000000000000000000000 : Nat) < 2 ^ 300 := by decide +kernel
    omega)
  rw [fl, bv _ m0] at v1
  have lt1 := prodM_lt x okx
  have lt2 := prodM_lt _ ok
  have d1 : ∀ i, CDivW i (prodM (x ++ y)) := fun i => divW_of (by omega) (Nat.lt_of_lt_of_le lt2 (Nat.pow_le_pow_right (by decide) (by rw [List.length_append]; omega)))
  have d2 : ∀ i, CDivW i (prodM x) := fun i => divW_of (by omega) (Nat.lt_of_lt_of_le lt1 (Nat.pow_le_pow_right (by decide) (by omega)))
  have q1 : 0 < prodM (x ++ y) := by omega
  have q2 : 0 < prodM x := by omega
  refine fnD_of ?_ (by simp [bnd, bnds])
  unfold idxM
  have eB : ∀ a : List Mode, eH [a] = .lst [eA a] := fun _ => rfl
  rw [eB] at v1
  generalize eA (backS (x ++ y)) = B at *
  generalize eH [x, y] = E at *
  generalize idxR (rowsOf (x ++ y)) (e % prodM (x ++ y)) = I at *
  simp [b_nil, b_cons, b_ifs, b_for, b_while, semS, e_lc, e_lc2, e_var, e_int, e_bl, e_non, e_str, e_glob, e_bin, e_neg, e_tst, e_ife, e_tup, e_lst, e_ix, e_slc, e_rev, e_call, e_callK, permL, e_bi, e_isi, e_meth, e_fz, e_fzl, e_sortK, e_isx, e_isb, e_fld, e_callT, e_emp, b_try, isxSem, fldSem, actSem, actOut, catchO, onlyT_at, semEs, semT, semAnd, semOr, semO, semC, semI, R.bind_ok, R.bind_ex, R.bind_bad, R.out_ok, R.out_ex, R.out_bad, thn_nx, thn_ret, thn_brk, thn_ct, thn_ex, thn_bad, val_nx, val_ret, val_ex, tgSem, tgsSem, binSem, addSem, augSem, ixSem, seqOf, lstOf, lstT, newL, cmpSem, cmpInts, cmpI, eqD_int, DV.isNon, biSem, biLen, biInt, biList, biTuple, biTwo, isi_ii, isi_ib, isi_il, isi_it, isi_ll, isi_li, isi_lt, isi_tt, isi_tl, isi_ti, itemsOf, litOf, at0, at1, at2, ix30, ix31, ix32, sl0, sl1, sl2, sl3, sl4, sl5, sl6, sl7, sl8, sl9, sl10, sl11, sl12, sl13, sl14, fnSem, startE, wipeE, N_where_is, ir_where_is, n1, n2, r1, b1, v1, w1, d1, d2, q1, q2]
end PF

namespace PF
open PySem PySem.Spec L2 DV
theorem q_value_ok' (s : Sto) (h : List (List Mode)) (hl : h.flatten.length ≤ 200) (hm : ∀ m ∈ h.flatten, okM m) (i : Int) (h0 : 0 ≤ i) (h1 : i.natAbs < 2 ^ 300) : f__law_q_value s [eH h, .int i] = .ok (.int (valM h.flatten i)) s := by
  refine fnD_of ?_ (by rw [bnd])
  have m1 := q_flat_ok s h hl
  unfold eH eA at *
  generalize h.flatten = l at *
  simp [b_nil, b_cons, b_ifs, b_for, b_while, semS, e_lc, e_lc2, e_var, e_int, e_bl, e_non, e_str, e_glob, e_bin, e_neg, e_tst, e_ife, e_tup, e_lst, e_ix, e_slc, e_rev, e_call, e_callK, permL, e_bi, e_isi, e_meth, e_fz, e_fzl, e_sortK, e_isx, e_isb, e_fld, e_callT, e_emp, b_try, isxSem, fldSem, actSem, actOut, catchO, onlyT_at, semEs, semT, semAnd, semOr, semO, semC, semI, R.bind_ok, R.bind_ex, R.bind_bad, R.out_ok, R.out_ex, R.out_bad, thn_nx, thn_ret, thn_brk, thn_ct, thn_ex, thn_bad, val_nx, val_ret, val_ex, tgSem, tgsSem, binSem, addSem, augSem, ixSem, seqOf, lstOf, lstT, newL, cmpSem, cmpInts, cmpI, eqD_int, DV.isNon, biSem, biLen, biInt, biList, biTuple, biTwo, isi_ii, isi_ib, isi_il, isi_it, isi_ll, isi_li, isi_lt, isi_tt, isi_tl, isi_ti, itemsOf, litOf, at0, at1, at2, ix30, ix31, ix32, sl0, sl1, sl2, sl3, sl4, sl5, sl6, sl7, sl8, sl9, sl10, sl11, sl12, sl13, sl14, fnSem, startE, wipeE, N__law_q_value, ir__law_q_value, m1]
  refine pre_k (fun o => (o.thn _).val = _) (fun b ρ s' => s' = s ∧ ∃ x y, ρ = [some (.lst (h.map fun a => .lst (a.map eM))), some (.int i), some (.int (valM b i)), some (.int (leftM b i)), x, y]) ⟨rfl, _, _, rfl⟩ ?_ ?_
  · rintro pre m post rfl ρ s' ⟨rfl, x, y, rfl⟩
    refine ⟨_, s', .inl ?_, rfl, some (.int m.1), some (.int m.2), rfl⟩
    have hok := hm m (by simp)
    have hp : 0 < m.1 := by have := hok.1.1; omega
    obtain ⟨a, b⟩ := leftM_le pre i (fun x hx => (hm x (List.mem_append_left _ hx)).1.1) h0
    have r0 := Int.emod_nonneg (leftM pre i) (show m.1 ≠ 0 by omega)
    have r1 : leftM pre i % m.1 ≤ leftM pre i := by
      have := Int.mul_nonneg (show 0 ≤ m.1 by omega) (Int.ediv_nonneg a (show 0 ≤ m.1 by omega))
      rw [Int.emod_def]
      omega
    have hc : CMulW (leftM pre i % m.1) m.2 := mulW_of (a := 300) (b := 200) (Nat.lt_of_le_of_lt (by omega) h1) (okM_lt2 hok) (by decide)
    have hd : CDivW (leftM pre i) m.1 := divW_of hp (Nat.lt_of_lt_of_le (okM_lt hok) (Nat.pow_le_pow_right (by decide) (by decide)))
    simp [forBd_at, b_nil, b_cons, b_ifs, b_for, b_while, semS, e_lc, e_lc2, e_var, e_int, e_bl, e_non, e_str, e_glob, e_bin, e_neg, e_tst, e_ife, e_tup, e_lst, e_ix, e_slc, e_rev, e_call, e_callK, permL, e_bi, e_isi, e_meth, e_fz, e_fzl, e_sortK, e_isx, e_isb, e_fld, e_callT, e_emp, b_try, isxSem, fldSem, actSem, actOut, catchO, onlyT_at, semEs, semT, semAnd, semOr, semO, semC, semI, R.bind_ok, R.bind_ex, R.bind_bad, R.out_ok, R.out_ex, R.out_bad, thn_nx, thn_ret, thn_brk, thn_ct, thn_ex, thn_bad, val_nx, val_ret, val_ex, tgSem, tgsSem, binSem, addSem, augSem, ixSem, seqOf, lstOf, lstT, newL, cmpSem, cmpInts, cmpI, eqD_int, DV.isNon, biSem, biLen, biInt, biList, biTuple, biTwo, isi_ii, isi_ib, isi_il, isi_it, isi_ll, isi_li, isi_lt, isi_tt, isi_tl, isi_ti, itemsOf, litOf, at0, at1, at2, ix30, ix31, ix32, sl0, sl1, sl2, sl3, sl4, sl5, sl6, sl7, sl8, sl9, sl10, sl11, sl12, sl13, sl14, fnSem, startE, wipeE, eM, hp, hc, hd, valM_snoc, leftM_snoc]
  · rintro ρ' s' ⟨rfl, x, y, rfl⟩
    simp [b_nil, b_cons, b_ifs, b_for, b_while, semS, e_lc, e_lc2, e_var, e_int, e_bl, e_non, e_str, e_glob, e_bin, e_neg, e_tst, e_ife, e_tup, e_lst, e_ix, e_slc, e_rev, e_call, e_callK, permL, e_bi, e_isi, e_meth, e_fz, e_fzl, e_sortK, e_isx, e_isb, e_fld, e_callT, e_emp, b_try, isxSem, fldSem, actSem, actOut, catchO, onlyT_at, semEs, semT, semAnd, semOr, semO, semC, semI, R.bind_ok, R.bind_ex, R.bind_bad, R.out_ok, R.out_ex, R.out_bad, thn_nx, thn_ret, thn_brk, thn_ct, thn_ex, thn_bad, val_nx, val_ret, val_ex, tgSem, tgsSem, binSem, addSem, augSem, ixSem, seqOf, lstOf, lstT, newL, cmpSem, cmpInts, cmpI, eqD_int, DV.isNon, biSem, biLen, biInt, biList, biTuple, biTwo, isi_ii, isi_ib, isi_il, isi_it, isi_ll, isi_li, isi_lt, isi_tt, isi_tl, isi_ti, itemsOf, litOf, at0, at1, at2, ix30, ix31, ix32, sl0, sl1, sl2, sl3, sl4, sl5, sl6, sl7, sl8, sl9, sl10, sl11, sl12, sl13, sl14, fnSem, startE, wipeE]
/-- an index below a number -/
theorem index_ok (s : Sto) (p : Nat) (cells : List Int) (at_ c m : Int) (hp : s[p]? = some (pen cells at_ c)) (h0 : 0 ≤ at_) (h1 : at_ < 800000) (hm : 0 < m) (hm2 : m.natAbs < 2 ^ 200) :
    ∃ r a2 c2, f__law_q_index s [.obj p, .int m] = .ok (.int r) (s.set p (pen cells a2 c2)) ∧ 0 ≤ r ∧ r < m ∧ at_ ≤ a2 ∧ a2 ≤ at_ + 3 := by
  have hl : p < s.length := (List.getElem?_eq_some_iff.mp hp).1
  obtain ⟨w, a1, c1, e1, w0, w1, l1, l2⟩ := take_ok s p cells at_ c 4 hp h0 (by omega) (by decide) (by decide +kernel)
  have g1 : (s.set p (pen cells a1 c1))[p]? = some (pen cells a1 c1) := List.getElem?_set_self hl
  obtain ⟨n, a2, c2, e2, n0, n1, l3, l4⟩ := take_ok _ p cells a1 c1 30 g1 (by omega) (by omega) (by decide) (by decide +kernel)
  rw [List.set_set] at e2
  have g2 : (s.set p (pen cells a2 c2))[p]? = some (pen cells a2 c2) := List.getElem?_set_self hl
  obtain ⟨k, a3, c3, e3, k0, k1, l5, l6⟩ := take_ok _ p cells a2 c2 m g2 (by omega) (by omega) hm hm2
  rw [List.set_set] at e3
  by_cases hw : w = 0
  · subst hw
    refine ⟨m - 1 - (if m - 1 < n then m - 1 else n), a2, c2, fnD_set0 ?_ (bnd_pen ..) (by rw [bnd]), ?_, ?_, by omega, by omega⟩
    · simp [b_nil, b_cons, b_ifs, b_for, b_while, semS, e_lc, e_lc2, e_var, e_int, e_bl, e_non, e_str, e_glob, e_bin, e_neg, e_tst, e_ife, e_tup, e_lst, e_ix, e_slc, e_rev, e_call, e_callK, permL, e_bi, e_isi, e_meth, e_fz, e_fzl, e_sortK, e_isx, e_isb, e_fld, e_callT, e_emp, b_try, isxSem, fldSem, actSem, actOut, catchO, onlyT_at, semEs, semT, semAnd, semOr, semO, semC, semI, R.bind_ok, R.bind_ex, R.bind_bad, R.out_ok, R.out_ex, R.out_bad, thn_nx, thn_ret, thn_brk, thn_ct, thn_ex, thn_bad, val_nx, val_ret, val_ex, tgSem, tgsSem, binSem, addSem, augSem, ixSem, seqOf, lstOf, lstT, newL, cmpSem, cmpInts, cmpI, eqD_int, DV.isNon, biSem, biLen, biInt, biList, biTuple, biTwo, isi_ii, isi_ib, isi_il, isi_it, isi_ll, isi_li, isi_lt, isi_tt, isi_tl, isi_ti, itemsOf, litOf, at0, at1, at2, ix30, ix31, ix32, sl0, sl1, sl2, sl3, sl4, sl5, sl6, sl7, sl8, sl9, sl10, sl11, sl12, sl13, sl14, fnSem, startE, wipeE, N__law_q_index, ir__law_q_index, e1, e2]
    · split <;> omega
    · split <;> omega
  · by_cases hw2 : 1 < w
    · refine ⟨k, a3, c3, fnD_set0 ?_ (bnd_pen ..) (by rw [bnd]), k0, k1, by omega, by omega⟩
      simp [b_nil, b_cons, b_ifs, b_for, b_while, semS, e_lc, e_lc2, e_var, e_int, e_bl, e_non, e_str, e_glob, e_bin, e_neg, e_tst, e_ife, e_tup, e_lst, e_ix, e_slc, e_rev, e_call, e_callK, permL, e_bi, e_isi, e_meth, e_fz, e_fzl, e_sortK, e_isx, e_isb, e_fld, e_callT, e_emp, b_try, isxSem, fldSem, actSem, actOut, catchO, onlyT_at, semEs, semT, semAnd, semOr, semO, semC, semI, R.bind_ok, R.bind_ex, R.bind_bad, R.out_ok, R.out_ex, R.out_bad, thn_nx, thn_ret, thn_brk, thn_ct, thn_ex, thn_bad, val_nx, val_ret, val_ex, tgSem, tgsSem, binSem, addSem, augSem, ixSem, seqOf, lstOf, lstT, newL, cmpSem, cmpInts, cmpI, eqD_int, DV.isNon, biSem, biLen, biInt, biList, biTuple, biTwo, isi_ii, isi_ib, isi_il, isi_it, isi_ll, isi_li, isi_lt, isi_tt, isi_tl, isi_ti, itemsOf, litOf, at0, at1, at2, ix30, ix31, ix32, sl0, sl1, sl2, sl3, sl4, sl5, sl6, sl7, sl8, sl9, sl10, sl11, sl12, sl13, sl14, fnSem, startE, wipeE, N__law_q_index, ir__law_q_index, e1, e2, e3, hw, hw2]
    · refine ⟨(if m - 1 < n then m - 1 else n), a2, c2, fnD_set0 ?_ (bnd_pen ..) (by rw [bnd]), ?_, ?_, by omega, by omega⟩
      · simp [b_nil, b_cons, b_ifs, b_for, b_while, semS, e_lc, e_lc2, e_var, e_int, e_bl, e_non, e_str, e_glob, e_bin, e_neg, e_tst, e_ife, e_tup, e_lst, e_ix, e_slc, e_rev, e_call, e_callK, permL, e_bi, e_isi, e_meth, e_fz, e_fzl, e_sortK, e_isx, e_isb, e_fld, e_callT, e_emp, b_try, isxSem, fldSem, actSem, actOut, catchO, onlyT_at, semEs, semT, semAnd, semOr, semO, semC, semI, R.bind_ok, R.bind_ex, R.bind_bad, R.out_ok, R.out_ex, R.out_bad, thn_nx, thn_ret, thn_brk, thn_ct, thn_ex, thn_bad, val_nx, val_ret, val_ex, tgSem, tgsSem, binSem, addSem, augSem, ixSem, seqOf, lstOf, lstT, newL, cmpSem, cmpInts, cmpI, eqD_int, DV.isNon, biSem, biLen, biInt, biList, biTuple, biTwo, isi_ii, isi_ib, isi_il, isi_it, isi_ll, isi_li, isi_lt, isi_tt, isi_tl, isi_ti, itemsOf, litOf, at0, at1, at2, ix30, ix31, ix32, sl0, sl1, sl2, sl3, sl4, sl5, sl6, sl7, sl8, sl9, sl10, sl11, sl12, sl13, sl14, fnSem, startE, wipeE, N__law_q_index, ir__law_q_index, e1, e2, hw, hw2]
      · split <;> omega
      · split <;> omega
end PF

namespace PF
open PySem PySem.Spec L2 DV Mix
theorem prodM_perm {a b : List Mode} (h : a.Perm b) : prodM a = prodM b := by
  induction h with
  | nil => rfl
  | cons x _ ih => rw [prodM_cons, prodM_cons, ih]
  | swap x y l => simp only [prodM_cons]; rw [← Int.mul_assoc, ← Int.mul_assoc, Int.mul_comm y.1]
  | trans _ _ a b => rw [a, b]
theorem prod_chainF : ∀ (vs : List Int) (u : Int), (∀ v ∈ vs, 1 ≤ v ∧ v ≤ 1000000) → 1 ≤ prodM (chainF vs u) ∧ prodM (chainF vs u) ≤ 1000000 ^ vs.length
  | [], u, _ => by simp [chainF, prodM]
  | v :: vs, u, h => by
    obtain ⟨a, b⟩ := h v (List.mem_cons_self ..)
    obtain ⟨c, d⟩ := prod_chainF vs (u * v) fun x hx => h x (List.mem_cons_of_mem _ hx)
    rw [chainF, prodM_cons, List.length_cons, Int.pow_succ, Int.mul_comm (1000000 ^ vs.length)]
    have h1 := Int.mul_le_mul (show 1 ≤ v by omega) c (by decide) (by omega)
    have h2 := Int.mul_le_mul b d (by omega) (by decide)
    dsimp only
    omega
theorem prod_ones : ∀ (l : List Mode), (∀ m ∈ l, m.1 = 1) → prodM l = 1
  | [], _ => rfl
  | m :: l, h => by rw [prodM_cons, h m (List.mem_cons_self ..), prod_ones l fun x hx => h x (List.mem_cons_of_mem _ hx)]; rfl
theorem drawn_many {h : List (List Mode)} (hd : Drawn h) : 1 ≤ prodM h.flatten ∧ prodM h.flatten ≤ 1000000000000000000000000000000000000 := by
  obtain ⟨vs, ex, hp, hv, hl, he⟩ := hd
  obtain ⟨a, b⟩ := prod_chainF vs 1 hv
  rw [prodM_perm hp, prodM_app, prod_ones ex he, Int.mul_one]
  refine ⟨a, Int.le_trans b ?_⟩
  have : (1000000 : Nat) ^ vs.length ≤ 1000000 ^ 6 := Nat.pow_le_pow_right (by decide) hl
  have e : (1000000 : Nat) ^ 6 = 1000000000000000000000000000000000000 := by decide +kernel
  have e2 : ((1000000 ^ vs.length : Nat) : Int) = 1000000 ^ vs.length := by rw [Int.natCast_pow]; rfl
  omega
theorem drawn_hnd {h : List (List Mode)} (h2 : h.length = 2) (few : h.flatten.length ≤ 7) (ok : ∀ m ∈ h.flatten, okT 1000000 1000000000000000000000000000000000000 m) (hd : Drawn h) : Hnd h :=
  ⟨h2, few, fun m hm => by
    obtain ⟨a, b, c, d⟩ := ok m hm
    exact ⟨⟨a, by omega⟩, by omega, by omega⟩, drawn_full hd, by have := (drawn_many hd).2; omega⟩
/-! ### whole rounds -/
theorem ceil_at {n N : Int} (hN : 0 < N) : (-(-n / N) - 1) * N < n ∧ n ≤ -(-n / N) * N := by
  have h1 := Int.mul_ediv_add_emod (-n) N
  have h2 := Int.emod_nonneg (-n) (show N ≠ 0 by omega)
  have h3 := Int.emod_lt_of_pos (-n) hN
  rw [Int.sub_mul, Int.neg_mul, Int.mul_comm (-n / N) N]
  omega
theorem below_ceil {n N e : Int} (hN : 0 < N) (he : e < n) : e / N < -(-n / N) := by
  have h1 := (ceil_at (n := n) hN).2
  exact Int.ediv_lt_of_lt_mul hN (by omega)
theorem two_split {w k W K : Int} (w0 : 0 ≤ w) (w1 : w < W) (k0 : 0 ≤ k) (k1 : k < K) : 0 ≤ w + k * W ∧ w + k * W < W * K ∧ (w + k * W) % W = w ∧ (w + k * W) / W = k := by
  have h1 := Int.mul_nonneg k0 (show 0 ≤ W by omega)
  have h2 := Int.mul_le_mul_of_nonneg_right (show k + 1 ≤ K by omega) (show 0 ≤ W by omega)
  rw [Int.add_mul, Int.mul_comm K W] at h2
  refine ⟨by omega, by omega, ?_, ?_⟩
  · rw [Int.add_mul_emod_self_right, Int.emod_eq_of_lt w0 w1]
  · rw [Int.add_mul_ediv_right _ _ (by omega), Int.ediv_eq_zero_of_lt w0 w1, Int.zero_add]
end PF

namespace PF
/-! ### counting -/
def sumN : Nat → (Nat → Nat) → Nat
  | 0, _ => 0
  | n + 1, f => sumN n f + f n
theorem sumN_congr {f g : Nat → Nat} : ∀ n, (∀ i, i < n → f i = g i) → sumN n f = sumN n g
  | 0, _ => rfl
  | n + 1, h => by rw [sumN, sumN, sumN_congr n fun i hi => h i (by omega), h n (by omega)]
theorem sumN_add (f g : Nat → Nat) : ∀ n, sumN n (fun i => f i + g i) = sumN n f + sumN n g
  | 0 => rfl
  | n + 1 => by rw [sumN, sumN, sumN, sumN_add f g n]; omega
theorem sumN_zero : ∀ n, sumN n (fun _ => 0) = 0
  | 0 => rfl
  | n + 1 => by rw [sumN, sumN_zero n]
theorem sumN_comm (n m : Nat) (F : Nat → Nat → Nat) : sumN n (fun i => sumN m (F i)) = sumN m (fun j => sumN n fun i => F i j) := by
  induction n with
  | zero => simp only [sumN]; exact (sumN_zero m).symm
  | succ n ih => simp only [sumN]; rw [ih, ← sumN_add]
theorem sumN_app (f : Nat → Nat) (n : Nat) : ∀ m, sumN (n + m) f = sumN n f + sumN m fun i => f (n + i)
  | 0 => rfl
  | m + 1 => by rw [← Nat.add_assoc, sumN, sumN_app f n m, sumN, Nat.add_assoc]
theorem sumN_split (F : Nat → Nat) (n : Nat) : ∀ m, sumN (n * m) F = sumN n fun d => sumN m fun j => F (d + n * j)
  | 0 => by rw [Nat.mul_zero]; simp only [sumN]; exact (sumN_zero n).symm
  | m + 1 => by
    rw [Nat.mul_succ, sumN_app, sumN_split F n m]
    simp only [sumN]
    rw [sumN_add]
    congr 1
    exact sumN_congr n fun i _ => by rw [Nat.add_comm]
theorem sumN_ge {f : Nat → Nat} {i : Nat} : ∀ n, i < n → f i ≤ sumN n f
  | n + 1, h => by
    rw [sumN]
    by_cases hi : i = n
    · subst hi; omega
    · have := sumN_ge (f := f) n (show i < n by omega)
      omega
theorem sumN_two {f : Nat → Nat} {n : Nat} (h : 2 ≤ n) : f 0 + f 1 ≤ sumN n f := by
  induction n with
  | zero => omega
  | succ n ih =>
    rw [sumN]
    by_cases h2 : 2 ≤ n
    · have := ih h2; omega
    · have : n = 1 := by omega
      subst this
      simp [sumN]
theorem sumN_one {f : Nat → Nat} (h : ∀ i, 0 < i → f i = 0) : ∀ n, 0 < n → sumN n f = f 0
  | 1, _ => by simp [sumN]
  | n + 2, _ => by rw [sumN, sumN_one h (n + 1) (by omega), h (n + 1) (by omega)]; omega
/-- how often rows [stride, size] make v, above a base -/
def G (b : Int → Nat) : List (List Int) → Int → Nat
  | [], v => b v
  | r :: rs, v => sumN (r.getD 1 0).toNat fun d => G b rs (v - d * r.headD 0)
theorem G_base (b : Int → Nat) (r : List Int) : ∀ (rs : List (List Int)) (v : Int), G b (r :: rs) v = G (fun x => sumN (r.getD 1 0).toNat fun d => b (x - d * r.headD 0)) rs v
  | [], v => rfl
  | q :: rs, v => by
    rw [G, G]
    have e : ∀ d : Nat, G b (q :: rs) (v - d * r.headD 0) = sumN (q.getD 1 0).toNat fun j => G b rs (v - d * r.headD 0 - j * q.headD 0) := fun d => rfl
    rw [sumN_congr _ fun i _ => e i, sumN_comm]
    refine sumN_congr _ fun j _ => ?_
    rw [← G_base b r rs (v - j * q.headD 0), G]
    refine sumN_congr _ fun d _ => ?_
    rw [show v - (d : Int) * r.headD 0 - j * q.headD 0 = v - j * q.headD 0 - d * r.headD 0 from by omega]
theorem G_perm (b : Int → Nat) {xs ys : List (List Int)} (h : xs.Perm ys) : ∀ v, G b xs v = G b ys v := by
  induction h with
  | nil => intro v; rfl
  | cons x _ ih => intro v; rw [G, G]; exact sumN_congr _ fun d _ => ih _
  | swap x y l =>
    intro v
    rw [G, G]
    have e1 : ∀ d : Nat, G b (x :: l) (v - d * y.headD 0) = sumN (x.getD 1 0).toNat fun j => G b l (v - d * y.headD 0 - j * x.headD 0) := fun d => rfl
    have e2 : ∀ d : Nat, G b (y :: l) (v - d * x.headD 0) = sumN (y.getD 1 0).toNat fun j => G b l (v - d * x.headD 0 - j * y.headD 0) := fun d => rfl
    rw [sumN_congr _ fun i _ => e1 i, sumN_congr _ fun i _ => e2 i, sumN_comm]
    refine sumN_congr _ fun j _ => sumN_congr _ fun d _ => ?_
    rw [show v - (d : Int) * y.headD 0 - j * x.headD 0 = v - j * x.headD 0 - d * y.headD 0 from by omega]
  | trans _ _ h1 h2 => intro v; rw [h1, h2]
def nonneg (rs : List (List Int)) : Prop := ∀ r ∈ rs, ∃ t n, r = [t, n] ∧ 0 ≤ t ∧ 1 < n
theorem G_neg {b : Int → Nat} (hb : ∀ v, v < 0 → b v = 0) : ∀ (rs : List (List Int)), nonneg rs → ∀ v, v < 0 → G b rs v = 0
  | [], _, v, hv => hb v hv
  | r :: rs, h, v, hv => by
    obtain ⟨t, n, rfl, ht, hn⟩ := h r (List.mem_cons_self ..)
    rw [G]
    refine (sumN_congr _ fun d _ => G_neg hb rs (fun x hx => h x (List.mem_cons_of_mem _ hx)) _ ?_).trans (sumN_zero _)
    have := Int.mul_nonneg (show (0 : Int) ≤ d by omega) ht
    show v - (d : Int) * t < 0
    omega
/-- below all strides only the base counts -/
theorem G_low {b : Int → Nat} (hb : ∀ v, v < 0 → b v = 0) : ∀ (rs : List (List Int)) (v : Int), nonneg rs → (∀ r ∈ rs, v < r.headD 0) → G b rs v = b v
  | [], v, _, _ => rfl
  | r :: rs, v, h, hs => by
    obtain ⟨t, n, rfl, ht, hn⟩ := h r (List.mem_cons_self ..)
    have hv := hs _ (List.mem_cons_self ..)
    have h' : nonneg rs := fun x hx => h x (List.mem_cons_of_mem _ hx)
    rw [G, sumN_one]
    · simp only [Int.natCast_zero, Int.zero_mul, Int.sub_zero]
      exact G_low hb rs v h' fun x hx => hs x (List.mem_cons_of_mem _ hx)
    · intro d hd
      refine G_neg hb rs h' _ ?_
      have hv : v < t := hv
      have : t ≤ d * t := by
        have := Int.mul_le_mul_of_nonneg_right (show (1 : Int) ≤ d by omega) ht
        omega
      show v - (d : Int) * t < 0
      omega
    · show 0 < n.toNat
      omega
theorem G_ge {b : Int → Nat} : ∀ (rs : List (List Int)) (v : Int), nonneg rs → b v ≤ G b rs v
  | [], v, _ => Nat.le_refl _
  | r :: rs, v, h => by
    obtain ⟨t, n, rfl, ht, hn⟩ := h r (List.mem_cons_self ..)
    have := G_ge (b := b) rs v fun x hx => h x (List.mem_cons_of_mem _ hx)
    rw [G]
    refine Nat.le_trans this ?_
    have := sumN_ge (f := fun d : Nat => G b rs (v - d * t)) (i := 0) n.toNat (by omega)
    simpa using this
def ind (e : Int) (v : Int) : Nat := if 0 ≤ v ∧ v < e then 1 else 0
theorem ind_neg {e : Int} : ∀ v, v < 0 → ind e v = 0 := fun v hv => by
  unfold ind
  rw [if_neg]
  omega
theorem ind_mul {e : Int} (he : 0 < e) : ∀ (n : Nat) (x : Int), sumN n (fun d => ind e (x - d * e)) = ind (n * e) x
  | 0, x => by
    rw [sumN]
    unfold ind
    rw [if_neg]
    omega
  | n + 1, x => by
    rw [sumN, ind_mul he n x]
    have e1 : ((n + 1 : Nat) : Int) * e = n * e + e := by rw [Int.natCast_add, Int.add_mul]; simp
    have e2 : 0 ≤ (n : Int) * e := Int.mul_nonneg (by omega) (by omega)
    unfold ind
    rw [e1]
    generalize (n : Int) * e = q at *
    by_cases h1 : 0 ≤ x ∧ x < q
    · rw [if_pos h1, if_neg (by omega), if_pos (by omega)]
    · by_cases h2 : 0 ≤ x - q ∧ x - q < e
      · rw [if_neg h1, if_pos h2, if_pos (by omega)]
      · rw [if_neg h1, if_neg h2, if_neg (by omega)]
def prodR (rs : List (List Int)) : Int := rs.foldr (fun r p => r.getD 1 0 * p) 1
theorem prodR_pos : ∀ (rs : List (List Int)), nonneg rs → 0 < prodR rs
  | [], _ => by decide
  | r :: rs, h => by
    obtain ⟨t, n, rfl, ht, hn⟩ := h r (List.mem_cons_self ..)
    have := prodR_pos rs fun x hx => h x (List.mem_cons_of_mem _ hx)
    show 0 < n * prodR rs
    exact Int.mul_pos (by omega) this
/-- what the walk along the sorted rows tells is the first place that is not counted once -/
def tells (cnt : Int → Nat) (N : Int) : Ans → Prop
  | .full => ∀ v, 0 ≤ v → v < N → cnt v = 1
  | .gap p => 0 ≤ p ∧ p < N ∧ (∀ v, 0 ≤ v → v < p → cnt v = 1) ∧ cnt p = 0
  | .twice p => 0 ≤ p ∧ p < N ∧ (∀ v, 0 ≤ v → v < p → cnt v = 1) ∧ 2 ≤ cnt p
  | .out _ => False
theorem walk_tells : ∀ (rs : List (List Int)) (e : Int), 0 < e → nonneg rs → rs.Pairwise (fun a b => a.headD 0 ≤ b.headD 0) → tells (G (ind e) rs) (e * prodR rs) (walkL rs e)
  | [], e, he, _, _ => by
    intro v h0 h1
    have h1 : v < e * 1 := h1
    rw [G]
    unfold ind
    rw [if_pos (by omega)]
  | r :: rs, e, he, h, hp => by
    obtain ⟨t, n, rfl, ht, hn⟩ := h r (List.mem_cons_self ..)
    have h' : nonneg rs := fun x hx => h x (List.mem_cons_of_mem _ hx)
    obtain ⟨hp1, hp2⟩ := List.pairwise_cons.mp hp
    have hpos := prodR_pos rs h'
    have hN : e * prodR ([t, n] :: rs) = e * n * prodR rs := by
      show e * (n * prodR rs) = _
      rw [Int.mul_assoc]
    have hbig : e * 2 ≤ e * n * prodR rs := by
      have a := Int.mul_le_mul_of_nonneg_left (show (2 : Int) ≤ n by omega) (show 0 ≤ e by omega)
      have b := Int.mul_le_mul_of_nonneg_left (show (1 : Int) ≤ prodR rs by omega) (show 0 ≤ e * n from Int.mul_nonneg (by omega) (by omega))
      omega
    rw [hN]
    rw [walkL]
    by_cases h1 : t = e
    · subst h1
      rw [if_pos rfl]
      have ih := walk_tells rs (t * n) (Int.mul_pos he (by omega)) h' hp2
      have eG : G (ind t) ([t, n] :: rs) = G (ind (t * n)) rs := by
        funext v
        rw [G_base]
        congr 1
        funext x
        have := ind_mul he n.toNat x
        rw [Int.toNat_of_nonneg (by omega), Int.mul_comm n t] at this
        exact this
      rw [eG]
      exact ih
    · rw [if_neg h1]
      by_cases h2 : e < t
      · rw [if_pos h2]
        have hlow : ∀ v, v ≤ e → G (ind e) ([t, n] :: rs) v = ind e v := fun v hv => G_low ind_neg _ v h fun r hr => by
          rcases List.mem_cons.mp hr with rfl | hr
          · show v < t
            omega
          · have : t ≤ r.headD 0 := hp1 r hr
            omega
        refine ⟨by omega, by omega, fun v v0 v1 => ?_, ?_⟩
        · rw [hlow v (by omega)]
          unfold ind
          rw [if_pos (by omega)]
        · rw [hlow e (by omega)]
          unfold ind
          rw [if_neg (by omega)]
      · rw [if_neg h2]
        refine ⟨ht, by omega, fun v v0 v1 => ?_, ?_⟩
        · rw [G_low ind_neg _ v h fun r hr => by
            rcases List.mem_cons.mp hr with rfl | hr
            · exact v1
            · have : t ≤ r.headD 0 := hp1 r hr
              omega]
          unfold ind
          rw [if_pos (by omega)]
        · rw [G]
          refine Nat.le_trans ?_ (sumN_two (n := n.toNat) (by omega))
          have g0 := G_ge (b := ind e) rs t h'
          have g1 := G_ge (b := ind e) rs 0 h'
          have i0 : ind e t = 1 := by unfold ind; rw [if_pos (by omega)]
          have i1 : ind e 0 = 1 := by unfold ind; rw [if_pos (by omega)]
          have e0 : (t - ((0 : Nat) : Int) * t) = t := by simp
          have e1 : (t - ((1 : Nat) : Int) * t) = 0 := by simp
          show 2 ≤ G (ind e) rs (t - ((0 : Nat) : Int) * t) + G (ind e) rs (t - ((1 : Nat) : Int) * t)
          rw [e0, e1]
          omega
end PF

namespace PF
open PySem PySem.Spec L2 DV Mix
/-! ### places of a worker below a place, by a count -/
abbrev RowD := Int × Int × Option Int
def bPos (v : Int) : Nat := if 0 < v then 1 else 0
def Gc : List RowD → Int → Nat
  | [], v => bPos v
  | (t, n, none) :: rs, v => sumN n.toNat fun c => Gc rs (v - c * t)
  | (t, _, some d) :: rs, v => Gc rs (v - d * t)
def KR : List RowD → Int
  | [] => 1
  | (_, n, none) :: rs => n * KR rs
  | (_, _, some _) :: rs => KR rs
def heldL : List RowD → Int → Int → Int → Int
  | [], _, found, _ => found
  | (t, n, none) :: rs, free, found, left => heldL rs (free / n) (found + left / t * (free / n)) (left % t)
  | (t, _, some d) :: rs, free, found, left => if d = left / t then heldL rs free found (left % t) else if d < left / t then found + free else found
def tD (r : RowD) : Int := r.1
def nD (r : RowD) : Int := r.2.1
def digOk (r : RowD) : Prop := ∀ d, r.2.2 = some d → 0 ≤ d ∧ d < r.2.1
theorem cont_snoc {α : Type} {p n : α → Int} (r : α) : ∀ (a : List α) (e : Int), cont p n (a ++ [r]) e → cont p n a e ∧ p r = endC n a e ∧ 1 < n r
  | [], e, h => ⟨trivial, h.1, h.2.1⟩
  | q :: a, e, h => by
    obtain ⟨h1, h2, h3⟩ := cont_snoc r a _ h.2.2
    exact ⟨⟨h.1, h.2.1, h1⟩, h2, h3⟩
theorem endC_snoc {α : Type} {n : α → Int} (r : α) : ∀ (a : List α) (e : Int), endC n (a ++ [r]) e = endC n a e * n r
  | [], e => rfl
  | q :: a, e => endC_snoc r a _
theorem sum_steps {n h : Nat} {f : Nat → Nat} {K g : Nat} (hh : h < n) (h1 : ∀ c, c < h → f c = K) (h2 : f h = g) (h3 : ∀ c, h < c → c < n → f c = 0) : sumN n f = h * K + g := by
  have a : sumN h f = h * K := by
    clear h2 h3
    have : ∀ j, j ≤ h → sumN j f = j * K := by
      intro j
      induction j with
      | zero => intro _; simp [sumN]
      | succ j ih => intro hj; rw [sumN, ih (by omega), h1 j (by omega), Nat.succ_mul]
    exact this h (Nat.le_refl _)
  have b : sumN n f = sumN h f + sumN (n - h) fun i => f (h + i) := by
    have := sumN_app f h (n - h)
    rwa [Nat.add_sub_cancel' (by omega)] at this
  have c : sumN (n - h) (fun i => f (h + i)) = g := by
    obtain ⟨k, hk⟩ : ∃ k, n - h = k + 1 := ⟨n - h - 1, by omega⟩
    rw [hk, Nat.add_comm, sumN_app]
    simp only [sumN, Nat.add_zero, Nat.zero_add]
    rw [h2, sumN_congr k (g := fun _ => 0) fun i hi => h3 _ (by omega) (by omega), sumN_zero]
    rfl
  rw [b, a, c]
theorem KR_pos : ∀ (ds : List RowD), (∀ r ∈ ds, 1 < nD r) → 0 < KR ds
  | [], _ => by simp [KR]
  | (t, n, none) :: ds, h => by
    have h1 : 1 < n := h (t, n, none) (List.mem_cons_self ..)
    have h2 := KR_pos ds fun x hx => h x (List.mem_cons_of_mem _ hx)
    rw [KR]
    exact Int.mul_pos (by omega) h2
  | (t, n, some d) :: ds, h => by
    rw [KR]
    exact KR_pos ds fun x hx => h x (List.mem_cons_of_mem _ hx)
theorem Gc_ends : ∀ (ds : List RowD), cont tD nD ds.reverse 1 → (∀ r ∈ ds, digOk r) → ∀ v : Int, (v ≤ 0 → Gc ds v = 0) ∧ (endC nD ds.reverse 1 ≤ v → (Gc ds v : Int) = KR ds)
  | [], _, _, v => ⟨fun h => by simp [Gc, bPos]; omega, fun h => by
      have : (1 : Int) ≤ v := h
      simp [Gc, KR, bPos, show 0 < v by omega]⟩
  | r :: ds, hc, hd, v => by
    rw [List.reverse_cons] at hc ⊢
    obtain ⟨c1, c2, c3⟩ := cont_snoc r _ _ hc
    have ih := Gc_ends ds c1 fun x hx => hd x (List.mem_cons_of_mem _ hx)
    have e0 := cont_pos _ 1 (by decide) c1
    rw [endC_snoc, ← c2]
    obtain ⟨t, n, dg⟩ := r
    have c2 : t = endC nD ds.reverse 1 := c2
    have c3 : 1 < n := c3
    show (v ≤ 0 → _) ∧ (t * n ≤ v → _)
    cases dg with
    | none =>
      refine ⟨fun h => ?_, fun h => ?_⟩
      · show sumN n.toNat _ = 0
        rw [sumN_congr n.toNat (g := fun _ => 0) fun c _ => (ih _).1 (by
          have := Int.mul_nonneg (Int.natCast_nonneg c) (show 0 ≤ t by omega)
          omega), sumN_zero]
      · have hk : ∀ c, c < n.toNat → (Gc ds (v - c * t) : Int) = KR ds := fun c hc => (ih _).2 (by
          have h1 : (c : Int) + 1 ≤ n := by omega
          have := Int.mul_le_mul_of_nonneg_right h1 (show 0 ≤ t by omega)
          rw [Int.add_mul, Int.mul_comm n] at this
          omega)
        have hk2 : ∀ c, c < n.toNat → Gc ds (v - c * t) = (KR ds).toNat := fun c hc => by have := hk c hc; omega
        show ((sumN n.toNat fun c => Gc ds (v - c * t) : Nat) : Int) = n * KR ds
        have h0 := hk 0 (by omega)
        have hs : (sumN n.toNat fun c => Gc ds (v - c * t)) = n.toNat * (KR ds).toNat := by
          have : ∀ j, j ≤ n.toNat → (sumN j fun c => Gc ds (v - c * t)) = j * (KR ds).toNat := by
            intro j
            induction j with
            | zero => intro _; simp [sumN]
            | succ j ihj => intro hj; rw [sumN, ihj (by omega), hk2 j (by omega), Nat.succ_mul]
          exact this _ (Nat.le_refl _)
        rw [hs, Int.natCast_mul, Int.toNat_of_nonneg (by omega), Int.toNat_of_nonneg (by omega)]
    | some d =>
      obtain ⟨d0, d1⟩ := hd _ (List.mem_cons_self ..) d rfl
      have d1 : d < n := d1
      refine ⟨fun h => ?_, fun h => ?_⟩
      · show Gc ds (v - d * t) = 0
        refine (ih _).1 ?_
        have := Int.mul_nonneg d0 (show 0 ≤ t by omega)
        omega
      · show (Gc ds (v - d * t) : Int) = KR ds
        refine (ih _).2 ?_
        have := Int.mul_le_mul_of_nonneg_right (show d + 1 ≤ n by omega) (show 0 ≤ t by omega)
        rw [Int.add_mul, Int.mul_comm n] at this
        omega
theorem held_count : ∀ (ds : List RowD), cont tD nD ds.reverse 1 → (∀ r ∈ ds, digOk r) → ∀ found left : Int, 0 ≤ left → left < endC nD ds.reverse 1 → heldL ds (KR ds) found left = found + Gc ds left
  | [], _, _, found, left, h0, h1 => by
    have : left < 1 := h1
    have : left = 0 := by omega
    subst this
    simp [heldL, Gc, bPos]
  | r :: ds, hc, hd, found, left, h0, h1 => by
    have hc' := hc
    rw [List.reverse_cons] at hc h1
    obtain ⟨c1, c2, c3⟩ := cont_snoc r _ _ hc
    rw [endC_snoc, ← c2] at h1
    have hd' : ∀ x ∈ ds, digOk x := fun x hx => hd x (List.mem_cons_of_mem _ hx)
    have ends := Gc_ends ds c1 hd'
    have ih := held_count ds c1 hd'
    have e0 := cont_pos _ 1 (by decide) c1
    obtain ⟨t, n, dg⟩ := r
    have c2 : t = endC nD ds.reverse 1 := c2
    have c3 : 1 < n := c3
    have h1 : left < t * n := h1
    have hK : 0 < KR ds := KR_pos ds fun x hx => by
      have := cont_ppos _ 1 (by decide) c1 x (List.mem_reverse.mpr hx)
      exact this.2
    have m0 := Int.emod_nonneg left (show t ≠ 0 by omega)
    have m1 := Int.emod_lt_of_pos left (show 0 < t by omega)
    have q0 : 0 ≤ left / t := Int.ediv_nonneg h0 (by omega)
    have q1 : left / t < n := Int.ediv_lt_of_lt_mul (by omega) (by rw [Int.mul_comm]; exact h1)
    have q2 : left / t * t + left % t = left := by rw [Int.mul_comm]; exact Int.mul_ediv_add_emod _ _
    cases dg with
    | none =>
      show heldL ds (n * KR ds / n) (found + left / t * (n * KR ds / n)) (left % t) = found + ((sumN n.toNat fun c => Gc ds (left - c * t) : Nat) : Int)
      rw [Int.mul_ediv_cancel_left _ (show n ≠ 0 by omega), ih _ _ m0 (by rw [← c2]; exact m1)]
      have hs := sum_steps (n := n.toNat) (h := (left / t).toNat) (f := fun c => Gc ds (left - c * t)) (K := (KR ds).toNat) (g := Gc ds (left % t)) (by omega) (fun c hcc => by
          have := (ends (left - c * t)).2 (by
            rw [← c2]
            have h2 : (c : Int) + 1 ≤ left / t := by omega
            have := Int.mul_le_mul_of_nonneg_right h2 (show 0 ≤ t by omega)
            rw [Int.add_mul] at this
            omega)
          show Gc ds (left - c * t) = _
          omega) (by
          show Gc ds (left - ((left / t).toNat : Int) * t) = _
          rw [Int.toNat_of_nonneg q0]
          congr 1
          omega) (fun c h2 _ => (ends _).1 (by
            have h2 : left / t + 1 ≤ (c : Int) := by omega
            have := Int.mul_le_mul_of_nonneg_right h2 (show 0 ≤ t by omega)
            rw [Int.add_mul] at this
            omega))
      rw [hs, Int.natCast_add, Int.natCast_mul, Int.toNat_of_nonneg q0, Int.toNat_of_nonneg (by omega)]
      omega
    | some d =>
      obtain ⟨d0, d1⟩ := hd _ (List.mem_cons_self ..) d rfl
      show (if d = left / t then heldL ds (KR ds) found (left % t) else if d < left / t then found + KR ds else found) = found + (Gc ds (left - d * t) : Int)
      by_cases hq : d = left / t
      · rw [if_pos hq, ih _ _ m0 (by rw [← c2]; exact m1), hq]
        congr 3
        omega
      · rw [if_neg hq]
        by_cases hlt : d < left / t
        · rw [if_pos hlt, (ends _).2]
          rw [← c2]
          have := Int.mul_le_mul_of_nonneg_right (show d + 1 ≤ left / t by omega) (show 0 ≤ t by omega)
          rw [Int.add_mul] at this
          omega
        · rw [if_neg hlt, (ends _).1]
          · simp
          · have := Int.mul_le_mul_of_nonneg_right (show left / t + 1 ≤ d by omega) (show 0 ≤ t by omega)
            rw [Int.add_mul] at this
            omega
theorem Gc_swap (a b : RowD) (l : List RowD) (v : Int) : Gc (a :: b :: l) v = Gc (b :: a :: l) v := by
  obtain ⟨t, n, d⟩ := a
  obtain ⟨t', n', d'⟩ := b
  cases d <;> cases d' <;> simp only [Gc]
  · rw [sumN_comm]
    exact sumN_congr _ fun i _ => sumN_congr _ fun j _ => by congr 1; omega
  · exact sumN_congr _ fun i _ => by congr 1; omega
  · exact sumN_congr _ fun i _ => by congr 1; omega
  · congr 1; omega
theorem Gc_cons (a : RowD) {l l' : List RowD} (h : ∀ v, Gc l v = Gc l' v) (v : Int) : Gc (a :: l) v = Gc (a :: l') v := by
  obtain ⟨t, n, d⟩ := a
  cases d <;> simp only [Gc]
  · exact sumN_congr _ fun i _ => h _
  · exact h _
theorem Gc_perm {a b : List RowD} (h : a.Perm b) : ∀ v, Gc a v = Gc b v := by
  induction h with
  | nil => intro v; rfl
  | cons x _ ih => exact Gc_cons x ih
  | swap x y l => intro v; exact Gc_swap y x l v
  | trans _ _ a b => intro v; rw [a, b]
theorem KR_perm {a b : List RowD} (h : a.Perm b) : KR a = KR b := by
  induction h with
  | nil => rfl
  | cons x _ ih =>
    obtain ⟨t, n, d⟩ := x
    cases d <;> simp only [KR, ih]
  | swap x y l =>
    obtain ⟨t, n, d⟩ := x
    obtain ⟨t', n', d'⟩ := y
    cases d <;> cases d' <;> simp only [KR]
    rw [← Int.mul_assoc, ← Int.mul_assoc, Int.mul_comm n']
  | trans _ _ a b => rw [a, b]
/-! ### rows of hands for a worker -/
def rowsX : List Mode → Int → List RowD
  | [], _ => []
  | m :: r, l => (if 1 < m.1 then [(m.2, m.1, some (l % m.1))] else []) ++ rowsX r (l / m.1)
def rowsY (y : List Mode) : List RowD := (y.filter fun m => decide (1 < m.1)).map fun m => (m.2, m.1, none)
def rowsW (x y : List Mode) (w : Int) : List RowD := (rowsX x w ++ rowsY y).mergeSort fun a b => decide (a.1 ≤ b.1)
theorem rowsX_len : ∀ (x : List Mode) (w : Int), (rowsX x w).length ≤ x.length
  | [], _ => by simp [rowsX]
  | m :: r, l => by
    have := rowsX_len r (l / m.1)
    rw [rowsX, List.length_append, List.length_cons]
    split <;> simp <;> omega
theorem rowsX_pairs : ∀ (x : List Mode) (w : Int), (rowsX x w).map (fun r => [r.1, r.2.1]) = pairs x
  | [], _ => rfl
  | m :: r, l => by
    have ih := rowsX_pairs r (l / m.1)
    unfold pairs at *
    rw [rowsX, List.map_append, ih]
    by_cases h : 1 < m.1 <;> simp [h]
theorem rowsY_pairs (y : List Mode) : (rowsY y).map (fun r => [r.1, r.2.1]) = pairs y := by
  unfold rowsY pairs
  rw [List.map_map]
  rfl
theorem rowsX_dig : ∀ (x : List Mode) (w : Int), ∀ r ∈ rowsX x w, digOk r
  | [], _, r, h => by cases h
  | m :: q, l, r, h => by
    rw [rowsX] at h
    rcases List.mem_append.mp h with h | h
    · split at h
      · rename_i h1
        rw [List.mem_singleton.mp h]
        intro d hd
        cases hd
        exact ⟨Int.emod_nonneg _ (by omega), Int.emod_lt_of_pos _ (by omega)⟩
      · cases h
    · exact rowsX_dig q _ r h
theorem rowsY_dig (y : List Mode) : ∀ r ∈ rowsY y, digOk r := fun r hr d hd => by
  obtain ⟨m, _, rfl⟩ := List.mem_map.mp hr
  cases hd
theorem Gc_x : ∀ (x : List Mode) (w : Int) (rs : List RowD) (v : Int), (∀ m ∈ x, 1 ≤ m.1) → Gc (rowsX x w ++ rs) v = Gc rs (v - valM x w)
  | [], w, rs, v, _ => by simp [rowsX, valM]
  | m :: r, w, rs, v, h => by
    have hm := h m (List.mem_cons_self ..)
    have ih := Gc_x r (w / m.1) rs
    have h' : ∀ m ∈ r, 1 ≤ m.1 := fun x hx => h x (List.mem_cons_of_mem _ hx)
    rw [rowsX, valM]
    by_cases h1 : 1 < m.1
    · rw [if_pos h1]
      show Gc (rowsX r (w / m.1) ++ rs) (v - w % m.1 * m.2) = _
      rw [ih _ h']
      congr 1
      omega
    · have e1 : m.1 = 1 := by omega
      rw [if_neg h1, List.nil_append, ih _ h', e1, Int.emod_one, Int.zero_mul, Int.zero_add]
theorem Gc_y : ∀ (y : List Mode) (v : Int), (∀ m ∈ y, 1 ≤ m.1) → Gc (rowsY y) v = sumN (prodM y).toNat fun k => bPos (v - valM y k)
  | [], v, _ => by simp [rowsY, Gc, prodM, sumN, valM]
  | m :: r, v, h => by
    have hm := h m (List.mem_cons_self ..)
    have h' : ∀ m ∈ r, 1 ≤ m.1 := fun x hx => h x (List.mem_cons_of_mem _ hx)
    have ih := Gc_y r
    have hp := prodM_pos r h'
    by_cases h1 : 1 < m.1
    · have e : rowsY (m :: r) = (m.2, m.1, none) :: rowsY r := by simp [rowsY, h1]
      rw [e, Gc]
      have ep : (prodM (m :: r)).toNat = m.1.toNat * (prodM r).toNat := by
        rw [prodM_cons, Int.toNat_mul (by omega) (by omega)]
      rw [ep, sumN_split]
      refine sumN_congr _ fun c hc => ?_
      rw [ih _ h']
      refine sumN_congr _ fun j hj => ?_
      congr 1
      have hcm : (c : Int) < m.1 := by omega
      have e1 : ((c + m.1.toNat * j : Nat) : Int) = c + m.1 * j := by
        rw [Int.natCast_add, Int.natCast_mul, Int.toNat_of_nonneg (by omega)]
      rw [valM, e1, Int.add_mul_emod_self_left, Int.emod_eq_of_lt (by omega) hcm, Int.add_mul_ediv_left _ _ (by omega), Int.ediv_eq_zero_of_lt (by omega) hcm, Int.zero_add]
      omega
    · have e1 : m.1 = 1 := by omega
      have e : rowsY (m :: r) = rowsY r := by simp [rowsY, h1]
      rw [e, ih _ h', prodM_cons, e1, Int.one_mul]
      refine sumN_congr _ fun j hj => ?_
      rw [valM, e1, Int.emod_one, Int.zero_mul, Int.zero_add, Int.ediv_one]
theorem KR_x : ∀ (x : List Mode) (w : Int) (rs : List RowD), KR (rowsX x w ++ rs) = KR rs
  | [], w, rs => rfl
  | m :: r, w, rs => by
    rw [rowsX]
    split
    · show KR (rowsX r (w / m.1) ++ rs) = _
      exact KR_x r _ rs
    · exact KR_x r _ rs
theorem KR_y : ∀ (y : List Mode), (∀ m ∈ y, 1 ≤ m.1) → KR (rowsY y) = prodM y
  | [], _ => by simp [rowsY, KR, prodM]
  | m :: r, h => by
    have hm := h m (List.mem_cons_self ..)
    have ih := KR_y r fun x hx => h x (List.mem_cons_of_mem _ hx)
    by_cases h1 : 1 < m.1
    · have e : rowsY (m :: r) = (m.2, m.1, none) :: rowsY r := by simp [rowsY, h1]
      rw [e, KR, ih, prodM_cons]
    · have e1 : m.1 = 1 := by omega
      have e : rowsY (m :: r) = rowsY r := by simp [rowsY, h1]
      rw [e, ih, prodM_cons, e1, Int.one_mul]
theorem leftM_div : ∀ (l : List Mode) (i : Int), (∀ m ∈ l, 1 ≤ m.1) → leftM l i = i / prodM l
  | [], i, _ => by simp [leftM, prodM]
  | m :: l, i, h => by
    have hm := h m (List.mem_cons_self ..)
    rw [leftM, leftM_div l _ fun x hx => h x (List.mem_cons_of_mem _ hx), prodM_cons, Int.ediv_ediv_of_nonneg (by omega)]
theorem valM_period : ∀ (l : List Mode) (i k : Int), (∀ m ∈ l, 1 ≤ m.1) → valM l (i + k * prodM l) = valM l i
  | [], i, k, _ => rfl
  | m :: l, i, k, h => by
    have hm := h m (List.mem_cons_self ..)
    have e : k * prodM (m :: l) = m.1 * (k * prodM l) := by rw [prodM_cons, ← Int.mul_assoc, Int.mul_comm k, Int.mul_assoc]
    rw [valM, valM, e, Int.add_mul_emod_self_left, Int.add_mul_ediv_left _ _ (by omega), valM_period l _ _ fun x hx => h x (List.mem_cons_of_mem _ hx)]
theorem valM_two (x y : List Mode) (w k : Int) (h : ∀ m ∈ x, 1 ≤ m.1) (w0 : 0 ≤ w) (w1 : w < prodM x) : valM (x ++ y) (w + k * prodM x) = valM x w + valM y k := by
  rw [valM_app, valM_period x w k h, leftM_div x _ h, Int.add_mul_ediv_right _ _ (by omega), Int.ediv_eq_zero_of_lt w0 w1, Int.zero_add]
/-! ### the rows go on from one another -/
theorem cont_strict : ∀ (rs : List (Int × Int)) (e : Int), 0 < e → cont (fun r : Int × Int => r.1) (fun r => r.2) rs e → rs.Pairwise (fun a b => a.1 < b.1) ∧ ∀ r ∈ rs, e ≤ r.1
  | [], e, _, _ => ⟨List.Pairwise.nil, fun r h => by cases h⟩
  | q :: rs, e, he, h => by
    obtain ⟨h1, h2, h3⟩ := h
    have h1 : q.1 = e := h1
    have h2 : 1 < q.2 := h2
    have h3 : cont (fun r : Int × Int => r.1) (fun r => r.2) rs (e * q.2) := h3
    have hm : e * 1 < e * q.2 := Int.mul_lt_mul_of_pos_left h2 he
    obtain ⟨a, b⟩ := cont_strict rs (e * q.2) (by omega) h3
    refine ⟨List.pairwise_cons.mpr ⟨fun r hr => ?_, a⟩, fun r hr => ?_⟩
    · have := b r hr
      omega
    · rcases List.mem_cons.mp hr with rfl | hr
      · omega
      · have := b r hr
        omega
theorem strict_eq : ∀ {l : List (Int × Int)}, l.Pairwise (fun a b => a.1 < b.1) → ∀ a ∈ l, ∀ b ∈ l, a.1 = b.1 → a = b
  | [], _, a, ha, _, _, _ => by cases ha
  | q :: l, h, a, ha, b, hb, e => by
    obtain ⟨h1, h2⟩ := List.pairwise_cons.mp h
    rcases List.mem_cons.mp ha with ea | ha2
    · rcases List.mem_cons.mp hb with eb | hb2
      · rw [ea, eb]
      · have := h1 b hb2
        rw [ea] at e
        omega
    · rcases List.mem_cons.mp hb with eb | hb2
      · have := h1 a ha2
        rw [eb] at e
        omega
      · exact strict_eq h2 a ha2 b hb2 e
theorem cont_map {α β : Type} {p n : α → Int} {p' n' : β → Int} (f : α → β) (hp : ∀ a, p' (f a) = p a) (hn : ∀ a, n' (f a) = n a) : ∀ (l : List α) (e : Int), cont p' n' (l.map f) e ↔ cont p n l e
  | [], e => Iff.rfl
  | a :: l, e => by
    have ih := cont_map f hp hn l
    simp only [List.map_cons, cont, hp, hn, ih]
theorem endC_map {α β : Type} {n : α → Int} {n' : β → Int} (f : α → β) (hn : ∀ a, n' (f a) = n a) : ∀ (l : List α) (e : Int), endC n' (l.map f) e = endC n l e
  | [], e => rfl
  | a :: l, e => by rw [List.map_cons, endC, endC, hn, endC_map f hn l]
theorem rowsW_perm (x y : List Mode) (w : Int) : (rowsW x y w).Perm (rowsX x w ++ rowsY y) := List.mergeSort_perm _ _
theorem rowsW_cont {x y : List Mode} (g : Hnd [x, y]) (w : Int) : cont tD nD (rowsW x y w) 1 ∧ endC nD (rowsW x y w) 1 = prodM (x ++ y) := by
  have hf : ([x, y] : List (List Mode)).flatten = x ++ y := by simp
  have hc := hnd_contig g
  have hpos := hnd_pos g
  rw [hf] at hc hpos
  have c1 : cont prow nrow (rowsOf (x ++ y)) 1 := contig_cont _ 1 hc
  let f1 : List Int → Int × Int := fun r => (prow r, nrow r)
  let f2 : RowD → Int × Int := fun r => (r.1, r.2.1)
  have c2 : cont (fun r : Int × Int => r.1) (fun r => r.2) ((rowsOf (x ++ y)).map f1) 1 := (cont_map (p := prow) (n := nrow) f1 (fun _ => rfl) (fun _ => rfl) _ 1).mpr c1
  obtain ⟨st, _⟩ := cont_strict _ 1 (by decide) c2
  have e1 : ((rowsX x w ++ rowsY y).map f2) = (pairs (x ++ y)).map fun r => (prow r, nrow r) := by
    rw [pairs_append, ← rowsX_pairs x w, ← rowsY_pairs y, ← List.map_append, List.map_map]
    rfl
  have e2 : ((chainR (x ++ y) 1).map f1) = (pairs (x ++ y)).map fun r => (prow r, nrow r) := by
    rw [← chainR_pairs (x ++ y) 1, List.map_map]
    refine List.map_congr_left fun r hr => ?_
    obtain ⟨t, n, v, rfl⟩ := chainR_three _ 1 r hr
    rfl
  have hperm : ((rowsW x y w).map f2).Perm ((rowsOf (x ++ y)).map f1) := by
    refine ((rowsW_perm x y w).map f2).trans ?_
    rw [e1, ← e2]
    exact ((rows_perm (x ++ y)).map f1).symm
  have hsort : ((rowsW x y w).map f2).Pairwise fun a b => a.1 ≤ b.1 := by
    rw [List.pairwise_map]
    have := List.pairwise_mergeSort (le := fun a b : RowD => decide (a.1 ≤ b.1)) (fun a b c h1 h2 => by simp at *; omega) (fun a b => by simp; omega) (rowsX x w ++ rowsY y)
    exact this.imp fun h => by simpa using h
  have heq : (rowsW x y w).map f2 = (rowsOf (x ++ y)).map f1 := by
    refine List.Perm.eq_of_pairwise (le := fun a b => a.1 ≤ b.1) (fun a b ha hb h1 h2 => strict_eq st a (hperm.mem_iff.mp ha) b hb (by omega)) hsort (st.imp fun h => by omega) hperm
  refine ⟨(cont_map (p := tD) (n := nD) (p' := fun r : Int × Int => r.1) (n' := fun r => r.2) f2 (fun _ => rfl) (fun _ => rfl) _ 1).mp (by rw [heq]; exact c2), ?_⟩
  have := endC_map (n := nD) (n' := fun r : Int × Int => r.2) f2 (fun _ => rfl) (rowsW x y w) 1
  rw [← this, heq, endC_map (n := nrow) f1 (fun _ => rfl), prod_end (rows_perm _) hpos]
/-- how many items of a worker lie below a place -/
def cntW (x y : List Mode) (w m : Int) : Nat := sumN (prodM y).toNat fun k => bPos (m - valM (x ++ y) (w + k * prodM x))
theorem held_cnt {x y : List Mode} (g : Hnd [x, y]) (w m : Int) (w0 : 0 ≤ w) (w1 : w < prodM x) (m0 : 0 ≤ m) (m1 : m < prodM (x ++ y)) : heldL (rowsW x y w).reverse (prodM y) 0 m = cntW x y w m := by
  have hf : ([x, y] : List (List Mode)).flatten = x ++ y := by simp
  have hpos := hnd_pos g
  rw [hf] at hpos
  have posx : ∀ m ∈ x, 1 ≤ m.1 := fun m hm => hpos m (List.mem_append_left _ hm)
  have posy : ∀ m ∈ y, 1 ≤ m.1 := fun m hm => hpos m (List.mem_append_right _ hm)
  obtain ⟨c1, c2⟩ := rowsW_cont g w
  have hp := rowsW_perm x y w
  have hK : KR (rowsW x y w).reverse = prodM y := by
    rw [KR_perm ((List.reverse_perm _).trans hp), KR_x, KR_y y posy]
  have := held_count (rowsW x y w).reverse (by rw [List.reverse_reverse]; exact c1) (fun r hr => by
    have hr := hp.mem_iff.mp (List.mem_reverse.mp hr)
    rcases List.mem_append.mp hr with h | h
    · exact rowsX_dig x w r h
    · exact rowsY_dig y r h) 0 m m0 (by rw [List.reverse_reverse, c2]; exact m1)
  rw [hK] at this
  rw [this, Int.zero_add, Gc_perm ((List.reverse_perm _).trans hp), Gc_x x w _ _ posx, Gc_y y _ posy]
  unfold cntW
  congr 1
  refine sumN_congr _ fun k _ => ?_
  rw [valM_two x y w k posx w0 w1]
  congr 1
  omega
end PF

/-! ### the text, as terms (printed by gen.py) -/
namespace PF
open PySem PySem.Spec PyProof.Rows L2 DV
noncomputable section
def N_rows_for : List Str := ["hands", "w", "rows", "left", "size", "stride"]
def ir_rows_for : IB :=
  (.cons (.par2 2 3 (.lst true .nil) (.var 1))
  (.for_ (.tup (.cons (.name 4) (.cons (.name 5) .nil))) (.seq (.ix (.var 0) (.int 0)))
    (.ifs (.cmp .Gt (.var 4) (.int 1))
      (.cons (.ex (.meth .append (.var 2) (.cons (.tup (.cons (.var 5) (.cons (.var 4) (.cons (.bin .Mod false (.var 3) (.var 4)) .nil)))) .nil)))
      .nil)
      .nil
    (.cons (.aug 3 .FloorDiv (.var 4))
    .nil))
  (.cons (.ex (.meth .extend (.var 2) (.cons (.lc false [("size", 4), ("stride", 5)] (.tup (.cons (.name 4) (.cons (.name 5) .nil))) (.seq (.ix (.var 0) (.int 1))) (.some (.cmp .Gt (.var 4) (.int 1))) (.tup (.cons (.var 5) (.cons (.var 4) (.cons .non .nil))))) .nil)))
  (.cons (.ret (.sortK false (.var 2) 0))
  .nil))))
def f_rows_for : Fn := fnD N_rows_for ir_rows_for
def N_held_below : List Str := ["hands", "w", "place", "free", "rows", "found", "left", "stride", "size", "digit", "here"]
def ir_held_below : IB :=
  (.cons (.par3 4 5 6 (.call "rows_for" 2 f_rows_for (.cons (.var 0) (.cons (.var 1) .nil))) (.int 0) (.var 2))
  (.cons (.set (.name 3) (.call "raw_size" 1 f_raw_size (.cons (.slc false (.var 0) (.some (.int 1)) .none) .nil)))
  (.for_ (.tup (.cons (.name 7) (.cons (.name 8) (.cons (.name 9) .nil)))) (.seq (.rev false (.var 4)))
    (.cons (.set (.name 10) (.bin .FloorDiv false (.var 6) (.var 7)))
    (.cons (.aug 6 .Mod (.var 7))
    (.ifs (.cmp .Is (.var 9) .non)
      (.cons (.aug 3 .FloorDiv (.var 8))
      (.cons (.aug 5 .Add (.bin .Mult false (.var 10) (.var 3)))
      .nil))
      (.ifs (.cmp .NotEq (.var 9) (.var 10))
        (.cons (.ret (.ife (.cmp .Lt (.var 9) (.var 10)) (.bin .Add false (.var 5) (.var 3)) (.var 5)))
        .nil)
        .nil
      .nil)
    .nil)))
  (.cons (.ret (.var 5))
  .nil))))
def f_held_below : Fn := fnD N_held_below ir_held_below
def N_share_of : List Str := ["hands", "n", "w", "many"]
def ir_share_of : IB :=
  (.cons (.ex (.call "need_work" 2 f_need_work (.cons (.var 0) (.cons (.var 1) .nil))))
  (.cons (.ex (.call "need_below" 2 f_need_below (.cons (.var 2) (.cons (.call "workers_of" 1 f_workers_of (.cons (.var 0) .nil)) .nil))))
  (.cons (.set (.name 3) (.call "raw_size" 1 f_raw_size (.cons (.var 0) .nil)))
  (.cons (.ret (.bin .Add false (.bin .Mult false (.bin .FloorDiv false (.var 1) (.var 3)) (.call "raw_size" 1 f_raw_size (.cons (.slc false (.var 0) (.some (.int 1)) .none) .nil))) (.call "held_below" 3 f_held_below (.cons (.var 0) (.cons (.var 2) (.cons (.bin .Mod false (.var 1) (.var 3)) .nil))))))
  .nil))))
def f_share_of : Fn := fnD N_share_of ir_share_of
end
end PF

/-! ### the text, as terms (printed by gen.py) -/
namespace PF
open PySem PySem.Spec PyProof.Rows L2 DV
noncomputable section
def N_need_pair : List Str := ["hands"]
def ir_need_pair : IB :=
  (.cons (.ex (.call "need_axes" 1 f_need_axes (.cons (.var 0) .nil)))
  (.ifs (.cmp .NotEq (.bi .len false (.cons (.var 0) .nil)) (.int 2))
    (.cons (.raise "NoHands")
    .nil)
    .nil
  .nil))
def f_need_pair : Fn := fnD N_need_pair ir_need_pair
def N_holding : List Str := ["hands"]
def ir_holding : IB :=
  (.cons (.ex (.call "need_pair" 1 f_need_pair (.cons (.var 0) .nil)))
  (.cons (.ret (.call "holding_of" 1 f_holding_of (.cons (.var 0) .nil)))
  .nil))
def f_holding : Fn := fnD N_holding ir_holding
end
end PF

namespace PF
open PySem PySem.Spec L2 DV Mix
def eDig : Option Int → D
  | some d => .int d
  | none => .non
def eRow (r : RowD) : D := .tup [.int r.1, .int r.2.1, eDig r.2.2]
theorem bnd_eRow {m : Nat} (r : RowD) : bnd m (eRow r) = true := by
  obtain ⟨t, n, d⟩ := r
  cases d <;> simp [eRow, eDig, bnd, bnds]
theorem rowsX_snoc (m : Mode) : ∀ (x : List Mode) (w : Int), rowsX (x ++ [m]) w = rowsX x w ++ if 1 < m.1 then [(m.2, m.1, some (leftM x w % m.1))] else []
  | [], w => by simp [rowsX, leftM]
  | q :: x, w => by rw [List.cons_append, rowsX, rowsX_snoc m x, rowsX, leftM, List.append_assoc]
theorem rows_for_ok (s : Sto) (x y : List Mode) (w : Int) (hx : x.length ≤ 200) (hy : y.length ≤ 200) (okx : ∀ m ∈ x, okM m) (w0 : 0 ≤ w) : f_rows_for s [eH [x, y], .int w] = .ok (.lst ((rowsW x y w).map eRow)) s := by
  have hsz : sizeLine = 16777216 := rfl
  refine fnD_app (junk := [.lst ((rowsX x w ++ rowsY y).map eRow)]) ?_ (by
    rw [bnd]
    exact bnds_of fun d hd => by
      obtain ⟨r, _, rfl⟩ := List.mem_map.mp hd
      exact bnd_eRow r)
  have eE : eH [x, y] = .lst [eA x, eA y] := rfl
  rw [eE]
  simp [b_nil, b_cons, b_ifs, b_for, b_while, semS, e_lc, e_lc2, e_var, e_int, e_bl, e_non, e_str, e_glob, e_bin, e_neg, e_tst, e_ife, e_tup, e_lst, e_ix, e_slc, e_rev, e_call, e_callK, permL, e_bi, e_isi, e_meth, e_fz, e_fzl, e_sortK, e_isx, e_isb, e_fld, e_callT, e_emp, b_try, isxSem, fldSem, actSem, actOut, catchO, onlyT_at, semEs, semT, semAnd, semOr, semO, semC, semI, R.bind_ok, R.bind_ex, R.bind_bad, R.out_ok, R.out_ex, R.out_bad, thn_nx, thn_ret, thn_brk, thn_ct, thn_ex, thn_bad, val_nx, val_ret, val_ex, tgSem, tgsSem, binSem, addSem, augSem, ixSem, seqOf, lstOf, lstT, newL, cmpSem, cmpInts, cmpI, eqD_int, DV.isNon, biSem, biLen, biInt, biList, biTuple, biTwo, isi_ii, isi_ib, isi_il, isi_it, isi_ll, isi_li, isi_lt, isi_tt, isi_tl, isi_ti, itemsOf, litOf, at0, at1, at2, ix30, ix31, ix32, sl0, sl1, sl2, sl3, sl4, sl5, sl6, sl7, sl8, sl9, sl10, sl11, sl12, sl13, sl14, fnSem, startE, wipeE, N_rows_for, ir_rows_for, eA]
  refine pre_k (fun o => (o.thn _).val = _) (fun b ρ s' => s' = s ++ [.lst ((rowsX b w).map eRow)] ∧ ∃ p q, ρ = [some (.lst [.lst (x.map eM), .lst (y.map eM)]), some (.int w), some (.obj s.length), some (.int (leftM b w)), p, q]) ⟨rfl, _, _, rfl⟩ ?_ ?_
  · rintro pre m post rfl ρ s' ⟨rfl, p, q, rfl⟩
    have hok := okx m (by simp)
    have hp : 0 < m.1 := by have := hok.1.1; omega
    have hd : CDivW (leftM pre w) m.1 := divW_of hp (Nat.lt_of_lt_of_le (okM_lt hok) (Nat.pow_le_pow_right (by decide) (by decide)))
    have hlt : (rowsX pre w).length < sizeLine := by
      have := rowsX_len pre w
      simp at hx
      omega
    refine ⟨_, _, .inl ?_, rfl, some (.int m.1), some (.int m.2), rfl⟩
    by_cases h1 : 1 < m.1
    · simp [forBd_at, b_nil, b_cons, b_ifs, b_for, b_while, semS, e_lc, e_lc2, e_var, e_int, e_bl, e_non, e_str, e_glob, e_bin, e_neg, e_tst, e_ife, e_tup, e_lst, e_ix, e_slc, e_rev, e_call, e_callK, permL, e_bi, e_isi, e_meth, e_fz, e_fzl, e_sortK, e_isx, e_isb, e_fld, e_callT, e_emp, b_try, isxSem, fldSem, actSem, actOut, catchO, onlyT_at, semEs, semT, semAnd, semOr, semO, semC, semI, R.bind_ok, R.bind_ex, R.bind_bad, R.out_ok, R.out_ex, R.out_bad, thn_nx, thn_ret, thn_brk, thn_ct, thn_ex, thn_bad, val_nx, val_ret, val_ex, tgSem, tgsSem, binSem, addSem, augSem, ixSem, seqOf, lstOf, lstT, newL, cmpSem, cmpInts, cmpI, eqD_int, DV.isNon, biSem, biLen, biInt, biList, biTuple, biTwo, isi_ii, isi_ib, isi_il, isi_it, isi_ll, isi_li, isi_lt, isi_tt, isi_tl, isi_ti, itemsOf, litOf, at0, at1, at2, ix30, ix31, ix32, sl0, sl1, sl2, sl3, sl4, sl5, sl6, sl7, sl8, sl9, sl10, sl11, sl12, sl13, sl14, fnSem, startE, wipeE, eM, h1, cell_last, set_last, meSem, meAppend, hp, hd, leftM_snoc, rowsX_snoc, hlt, eRow, eDig]
    · simp [forBd_at, b_nil, b_cons, b_ifs, b_for, b_while, semS, e_lc, e_lc2, e_var, e_int, e_bl, e_non, e_str, e_glob, e_bin, e_neg, e_tst, e_ife, e_tup, e_lst, e_ix, e_slc, e_rev, e_call, e_callK, permL, e_bi, e_isi, e_meth, e_fz, e_fzl, e_sortK, e_isx, e_isb, e_fld, e_callT, e_emp, b_try, isxSem, fldSem, actSem, actOut, catchO, onlyT_at, semEs, semT, semAnd, semOr, semO, semC, semI, R.bind_ok, R.bind_ex, R.bind_bad, R.out_ok, R.out_ex, R.out_bad, thn_nx, thn_ret, thn_brk, thn_ct, thn_ex, thn_bad, val_nx, val_ret, val_ex, tgSem, tgsSem, binSem, addSem, augSem, ixSem, seqOf, lstOf, lstT, newL, cmpSem, cmpInts, cmpI, eqD_int, DV.isNon, biSem, biLen, biInt, biList, biTuple, biTwo, isi_ii, isi_ib, isi_il, isi_it, isi_ll, isi_li, isi_lt, isi_tt, isi_tl, isi_ti, itemsOf, litOf, at0, at1, at2, ix30, ix31, ix32, sl0, sl1, sl2, sl3, sl4, sl5, sl6, sl7, sl8, sl9, sl10, sl11, sl12, sl13, sl14, fnSem, startE, wipeE, eM, h1, cell_last, set_last, meSem, meAppend, hp, hd, leftM_snoc, rowsX_snoc, hlt, eRow, eDig]
  · rintro ρ' s' ⟨rfl, p, q, rfl⟩
    have hyl : y.length ≤ sizeLine := by omega
    have hl1 := rowsX_len x w
    have hl2 : (rowsY y).length ≤ y.length := by
      unfold rowsY
      rw [List.length_map]
      exact List.length_filter_le _ _
    have hz : (rowsX x w).length + (rowsY y).length ≤ sizeLine := by omega
    simp [b_nil, b_cons, b_ifs, b_for, b_while, semS, e_lc, e_lc2, e_var, e_int, e_bl, e_non, e_str, e_glob, e_bin, e_neg, e_tst, e_ife, e_tup, e_lst, e_ix, e_slc, e_rev, e_call, e_callK, permL, e_bi, e_isi, e_meth, e_fz, e_fzl, e_sortK, e_isx, e_isb, e_fld, e_callT, e_emp, b_try, isxSem, fldSem, actSem, actOut, catchO, onlyT_at, semEs, semT, semAnd, semOr, semO, semC, semI, R.bind_ok, R.bind_ex, R.bind_bad, R.out_ok, R.out_ex, R.out_bad, thn_nx, thn_ret, thn_brk, thn_ct, thn_ex, thn_bad, val_nx, val_ret, val_ex, tgSem, tgsSem, binSem, addSem, augSem, ixSem, seqOf, lstOf, lstT, newL, cmpSem, cmpInts, cmpI, eqD_int, DV.isNon, biSem, biLen, biInt, biList, biTuple, biTwo, isi_ii, isi_ib, isi_il, isi_it, isi_ll, isi_li, isi_lt, isi_tt, isi_tl, isi_ti, itemsOf, litOf, at0, at1, at2, ix30, ix31, ix32, sl0, sl1, sl2, sl3, sl4, sl5, sl6, sl7, sl8, sl9, sl10, sl11, sl12, sl13, sl14, fnSem, startE, wipeE, cell_last, hyl]
    rw [lcGo_filter (p := fun m : Mode => decide (1 < m.1)) (f := fun m => eRow (m.2, m.1, none)) y []]
    · have e1 : ((y.filter fun m : Mode => decide (1 < m.1)).map fun m => eRow (m.2, m.1, none)) = (rowsY y).map eRow := by
        unfold rowsY
        rw [List.map_map]
        rfl
      have e2 : ∀ d, d ∈ (rowsX x w).map eRow ++ (rowsY y).map eRow → (keyAt 0 d).isSome = true := by
        intro d hd
        rw [← List.map_append] at hd
        obtain ⟨r, _, rfl⟩ := List.mem_map.mp hd
        rfl
      have e3 : ((rowsX x w).map eRow ++ (rowsY y).map eRow).mergeSort (keyLe 0) = (rowsW x y w).map eRow := by
        rw [← List.map_append]
        exact (List.map_mergeSort (r := fun a b : RowD => decide (a.1 ≤ b.1)) (s := keyLe 0) (f := eRow) fun a _ b _ => rfl).symm
      rw [List.nil_append, e1]
      simp [b_nil, b_cons, b_ifs, b_for, b_while, semS, e_lc, e_lc2, e_var, e_int, e_bl, e_non, e_str, e_glob, e_bin, e_neg, e_tst, e_ife, e_tup, e_lst, e_ix, e_slc, e_rev, e_call, e_callK, permL, e_bi, e_isi, e_meth, e_fz, e_fzl, e_sortK, e_isx, e_isb, e_fld, e_callT, e_emp, b_try, isxSem, fldSem, actSem, actOut, catchO, onlyT_at, semEs, semT, semAnd, semOr, semO, semC, semI, R.bind_ok, R.bind_ex, R.bind_bad, R.out_ok, R.out_ex, R.out_bad, thn_nx, thn_ret, thn_brk, thn_ct, thn_ex, thn_bad, val_nx, val_ret, val_ex, tgSem, tgsSem, binSem, addSem, augSem, ixSem, seqOf, lstOf, lstT, newL, cmpSem, cmpInts, cmpI, eqD_int, DV.isNon, biSem, biLen, biInt, biList, biTuple, biTwo, isi_ii, isi_ib, isi_il, isi_it, isi_ll, isi_li, isi_lt, isi_tt, isi_tl, isi_ti, itemsOf, litOf, at0, at1, at2, ix30, ix31, ix32, sl0, sl1, sl2, sl3, sl4, sl5, sl6, sl7, sl8, sl9, sl10, sl11, sl12, sl13, sl14, fnSem, startE, wipeE, cell_last, set_last, meSem, meExtend, hz, sortKSem, -List.all_append, -List.mem_append, e3]
      rw [if_pos e2]
      simp [b_nil, b_cons, b_ifs, b_for, b_while, semS, e_lc, e_lc2, e_var, e_int, e_bl, e_non, e_str, e_glob, e_bin, e_neg, e_tst, e_ife, e_tup, e_lst, e_ix, e_slc, e_rev, e_call, e_callK, permL, e_bi, e_isi, e_meth, e_fz, e_fzl, e_sortK, e_isx, e_isb, e_fld, e_callT, e_emp, b_try, isxSem, fldSem, actSem, actOut, catchO, onlyT_at, semEs, semT, semAnd, semOr, semO, semC, semI, R.bind_ok, R.bind_ex, R.bind_bad, R.out_ok, R.out_ex, R.out_bad, thn_nx, thn_ret, thn_brk, thn_ct, thn_ex, thn_bad, val_nx, val_ret, val_ex, tgSem, tgsSem, binSem, addSem, augSem, ixSem, seqOf, lstOf, lstT, newL, cmpSem, cmpInts, cmpI, eqD_int, DV.isNon, biSem, biLen, biInt, biList, biTuple, biTwo, isi_ii, isi_ib, isi_il, isi_it, isi_ll, isi_li, isi_lt, isi_tt, isi_tl, isi_ti, itemsOf, litOf, at0, at1, at2, ix30, ix31, ix32, sl0, sl1, sl2, sl3, sl4, sl5, sl6, sl7, sl8, sl9, sl10, sl11, sl12, sl13, sl14, fnSem, startE, wipeE]
    · intro m hm
      by_cases h1 : 1 < m.1 <;> simp [lcBd, b_nil, b_cons, b_ifs, b_for, b_while, semS, e_lc, e_lc2, e_var, e_int, e_bl, e_non, e_str, e_glob, e_bin, e_neg, e_tst, e_ife, e_tup, e_lst, e_ix, e_slc, e_rev, e_call, e_callK, permL, e_bi, e_isi, e_meth, e_fz, e_fzl, e_sortK, e_isx, e_isb, e_fld, e_callT, e_emp, b_try, isxSem, fldSem, actSem, actOut, catchO, onlyT_at, semEs, semT, semAnd, semOr, semO, semC, semI, R.bind_ok, R.bind_ex, R.bind_bad, R.out_ok, R.out_ex, R.out_bad, thn_nx, thn_ret, thn_brk, thn_ct, thn_ex, thn_bad, val_nx, val_ret, val_ex, tgSem, tgsSem, binSem, addSem, augSem, ixSem, seqOf, lstOf, lstT, newL, cmpSem, cmpInts, cmpI, eqD_int, DV.isNon, biSem, biLen, biInt, biList, biTuple, biTwo, isi_ii, isi_ib, isi_il, isi_it, isi_ll, isi_li, isi_lt, isi_tt, isi_tl, isi_ti, itemsOf, litOf, at0, at1, at2, ix30, ix31, ix32, sl0, sl1, sl2, sl3, sl4, sl5, sl6, sl7, sl8, sl9, sl10, sl11, sl12, sl13, sl14, fnSem, startE, wipeE, eM, h1, eRow, eDig]
theorem held_below_ok (s : Sto) {x y : List Mode} (g : Hnd [x, y]) (w m : Int) (w0 : 0 ≤ w) (w1 : w < prodM x) (m0 : 0 ≤ m) (m1 : m < prodM (x ++ y)) : f_held_below s [eH [x, y], .int w, .int m] = .ok (.int (cntW x y w m)) s := by
  have hf : ([x, y] : List (List Mode)).flatten = x ++ y := by simp
  have few := g.few
  have ok := g.ok
  have pos := hnd_pos g
  have gm := g.many
  rw [hf] at few ok pos gm
  rw [List.length_append] at few
  have okx : ∀ m ∈ x, okM m := fun m hm => ok m (List.mem_append_left _ hm)
  have oky : ∀ m ∈ y, okM m := fun m hm => ok m (List.mem_append_right _ hm)
  have posx : ∀ m ∈ x, 1 ≤ m.1 := fun m hm => pos m (List.mem_append_left _ hm)
  have posy : ∀ m ∈ y, 1 ≤ m.1 := fun m hm => pos m (List.mem_append_right _ hm)
  have hpx := prodM_pos x posx
  have hpy := prodM_pos y posy
  have hxy := prodM_app x y
  have hyN : prodM y ≤ prodM (x ++ y) := by
    have := Int.mul_le_mul_of_nonneg_right hpx (show 0 ≤ prodM y by omega)
    omega
  have r1 := rows_for_ok s x y w (by omega) (by omega) okx w0
  have z1 := raw_size_ok s [y] (by simp; omega) (by simpa using oky)
  have fy : ([y] : List (List Mode)).flatten = y := by simp
  rw [fy] at z1
  have c1 := cut_rest [eA x, eA y] 1
  have hS : ∀ ρ : DV.Env, ρ[0]? = some (some (eH [x, y])) → semE (.slc false (.var 0) (.some (.int 1)) .none) ρ s = .ok (eH [y]) s := by
    intro ρ hρ
    have eE : eH [x, y] = .lst [eA x, eA y] := rfl
    simp [b_nil, b_cons, b_ifs, b_for, b_while, semS, e_lc, e_lc2, e_var, e_int, e_bl, e_non, e_str, e_glob, e_bin, e_neg, e_tst, e_ife, e_tup, e_lst, e_ix, e_slc, e_rev, e_call, e_callK, permL, e_bi, e_isi, e_meth, e_fz, e_fzl, e_sortK, e_isx, e_isb, e_fld, e_callT, e_emp, b_try, isxSem, fldSem, actSem, actOut, catchO, onlyT_at, semEs, semT, semAnd, semOr, semO, semC, semI, R.bind_ok, R.bind_ex, R.bind_bad, R.out_ok, R.out_ex, R.out_bad, thn_nx, thn_ret, thn_brk, thn_ct, thn_ex, thn_bad, val_nx, val_ret, val_ex, tgSem, tgsSem, binSem, addSem, augSem, ixSem, seqOf, lstOf, lstT, newL, cmpSem, cmpInts, cmpI, eqD_int, DV.isNon, biSem, biLen, biInt, biList, biTuple, biTwo, isi_ii, isi_ib, isi_il, isi_it, isi_ll, isi_li, isi_lt, isi_tt, isi_tl, isi_ti, itemsOf, litOf, at0, at1, at2, ix30, ix31, ix32, sl0, sl1, sl2, sl3, sl4, sl5, sl6, sl7, sl8, sl9, sl10, sl11, sl12, sl13, sl14, fnSem, startE, wipeE, hρ, eE, slcSem]
    simp only [show (1 : Int) = ((1 : Nat) : Int) from rfl, c1]
    rfl
  obtain ⟨k1, k2⟩ := rowsW_cont g w
  have hrows : ∀ r ∈ (rowsW x y w).reverse, 0 < r.1 ∧ 1 < r.2.1 ∧ r.1.natAbs < 2 ^ 200 ∧ r.2.1.natAbs < 2 ^ 200 := fun r hr => by
    have hr := List.mem_reverse.mp hr
    obtain ⟨h1, h2⟩ := cont_ppos _ 1 (by decide) k1 r hr
    have hr2 := (rowsW_perm x y w).mem_iff.mp hr
    have hmem : [r.1, r.2.1] ∈ pairs (x ++ y) := by
      rw [pairs_append, ← rowsX_pairs x w, ← rowsY_pairs y, ← List.map_append]
      exact List.mem_map.mpr ⟨r, hr2, rfl⟩
    obtain ⟨m', hm', _, e⟩ := pairs_mem hmem
    have a1 := okM_lt (ok m' hm')
    have a2 := okM_lt2 (ok m' hm')
    simp at e
    have b : (2 : Nat) ^ 134 < 2 ^ 200 := by decide +kernel
    exact ⟨h1, h2, by rw [e.1]; exact a2, by rw [e.2]; omega⟩
  have hc := held_cnt g w m w0 w1 m0 m1
  refine fnD_of ?_ (by rw [bnd])
  rw [← hc]
  generalize (rowsW x y w) = rows at *
  generalize eH [x, y] = E at *
  generalize eH [y] = E1 at *
  have big : (10000000000000000000000000000000000000000 : Nat) < 2 ^ 200 := by decide +kernel
  have hfree : (prodM y).natAbs < 2 ^ 200 := by omega
  have hm : m.natAbs < 2 ^ 200 := by omega
  generalize prodM y = K at *
  have hK : 1 ≤ K := hpy
  simp [b_nil, b_cons, b_ifs, b_for, b_while, semS, e_lc, e_lc2, e_var, e_int, e_bl, e_non, e_str, e_glob, e_bin, e_neg, e_tst, e_ife, e_tup, e_lst, e_ix, e_slc, e_rev, e_call, e_callK, permL, e_bi, e_isi, e_meth, e_fz, e_fzl, e_sortK, e_isx, e_isb, e_fld, e_callT, e_emp, b_try, isxSem, fldSem, actSem, actOut, catchO, onlyT_at, semEs, semT, semAnd, semOr, semO, semC, semI, R.bind_ok, R.bind_ex, R.bind_bad, R.out_ok, R.out_ex, R.out_bad, thn_nx, thn_ret, thn_brk, thn_ct, thn_ex, thn_bad, val_nx, val_ret, val_ex, tgSem, tgsSem, binSem, addSem, augSem, ixSem, seqOf, lstOf, lstT, newL, cmpSem, cmpInts, cmpI, eqD_int, DV.isNon, biSem, biLen, biInt, biList, biTuple, biTwo, isi_ii, isi_ib, isi_il, isi_it, isi_ll, isi_li, isi_lt, isi_tt, isi_tl, isi_ti, itemsOf, litOf, at0, at1, at2, ix30, ix31, ix32, sl0, sl1, sl2, sl3, sl4, sl5, sl6, sl7, sl8, sl9, sl10, sl11, sl12, sl13, sl14, fnSem, startE, wipeE, -e_slc, N_held_below, ir_held_below, r1, hS, z1, revSem]
  rw [← List.map_reverse]
  generalize rows.reverse = rs at *
  generalize hbd : forBd _ _ = bd
  have key : ∀ (rs : List RowD) (free found left : Int) (a b c d : Option D), (∀ r ∈ rs, 0 < r.1 ∧ 1 < r.2.1 ∧ r.1.natAbs < 2 ^ 200 ∧ r.2.1.natAbs < 2 ^ 200) → 0 ≤ free → free.natAbs < 2 ^ 200 → 0 ≤ left → left.natAbs < 2 ^ 200 →
      ((forGo bd (rs.map eRow) [some E, some (.int w), some (.int m), some (.int free), some (.lst (rows.map eRow)), some (.int found), some (.int left), a, b, c, d] s).thn (semB (.cons (.ret (.var 5)) .nil))).val = .ok (.int (heldL rs free found left)) s := by
    intro rs
    induction rs with
    | nil =>
      intro free found left a b c d _ _ _ _ _
      simp [forGo, b_nil, b_cons, b_ifs, b_for, b_while, semS, e_lc, e_lc2, e_var, e_int, e_bl, e_non, e_str, e_glob, e_bin, e_neg, e_tst, e_ife, e_tup, e_lst, e_ix, e_slc, e_rev, e_call, e_callK, permL, e_bi, e_isi, e_meth, e_fz, e_fzl, e_sortK, e_isx, e_isb, e_fld, e_callT, e_emp, b_try, isxSem, fldSem, actSem, actOut, catchO, onlyT_at, semEs, semT, semAnd, semOr, semO, semC, semI, R.bind_ok, R.bind_ex, R.bind_bad, R.out_ok, R.out_ex, R.out_bad, thn_nx, thn_ret, thn_brk, thn_ct, thn_ex, thn_bad, val_nx, val_ret, val_ex, tgSem, tgsSem, binSem, addSem, augSem, ixSem, seqOf, lstOf, lstT, newL, cmpSem, cmpInts, cmpI, eqD_int, DV.isNon, biSem, biLen, biInt, biList, biTuple, biTwo, isi_ii, isi_ib, isi_il, isi_it, isi_ll, isi_li, isi_lt, isi_tt, isi_tl, isi_ti, itemsOf, litOf, at0, at1, at2, ix30, ix31, ix32, sl0, sl1, sl2, sl3, sl4, sl5, sl6, sl7, sl8, sl9, sl10, sl11, sl12, sl13, sl14, fnSem, startE, wipeE, heldL]
    | cons r rs ih =>
      intro free found left a b c d hr f0 f1 l0 l1
      obtain ⟨p1, p2, p3, p4⟩ := hr r (List.mem_cons_self ..)
      have hr' := fun q hq => hr q (List.mem_cons_of_mem _ hq)
      obtain ⟨t, n, dg⟩ := r
      have p1 : 0 < t := p1
      have p2 : 1 < n := p2
      have p3 : t.natAbs < 2 ^ 200 := p3
      have p4 : n.natAbs < 2 ^ 200 := p4
      have b2 : (2 : Nat) ^ 200 < 2 ^ 8000 := Nat.pow_lt_pow_right (by decide) (by decide)
      have d1 : CDivW left t := divW_of p1 (by omega)
      have d2 : CDivW free n := divW_of (by omega) (by omega)
      have p2' : 0 < n := by omega
      have m0' := Int.emod_nonneg left (show t ≠ 0 by omega)
      have m1' := Int.emod_lt_of_pos left p1
      have q0 := Int.ediv_nonneg l0 (show 0 ≤ t by omega)
      have q1 : left / t ≤ left := Int.ediv_le_self _ l0
      have g0 := Int.ediv_nonneg f0 (show 0 ≤ n by omega)
      have g1 : free / n ≤ free := Int.ediv_le_self _ f0
      have cm : CMulW (left / t) (free / n) := mulW_of (a := 200) (b := 200) (by omega) (by omega) (by decide)
      rw [List.map_cons, forGo_cons, ← hbd]
      cases dg with
      | none =>
        have := ih (free / n) (found + left / t * (free / n)) (left % t) (some (.int t)) (some (.int n)) (some .non) (some (.int (left / t))) hr' g0 (by omega) m0' (by omega)
        simp [forBd_at, b_nil, b_cons, b_ifs, b_for, b_while, semS, e_lc, e_lc2, e_var, e_int, e_bl, e_non, e_str, e_glob, e_bin, e_neg, e_tst, e_ife, e_tup, e_lst, e_ix, e_slc, e_rev, e_call, e_callK, permL, e_bi, e_isi, e_meth, e_fz, e_fzl, e_sortK, e_isx, e_isb, e_fld, e_callT, e_emp, b_try, isxSem, fldSem, actSem, actOut, catchO, onlyT_at, semEs, semT, semAnd, semOr, semO, semC, semI, R.bind_ok, R.bind_ex, R.bind_bad, R.out_ok, R.out_ex, R.out_bad, thn_nx, thn_ret, thn_brk, thn_ct, thn_ex, thn_bad, val_nx, val_ret, val_ex, tgSem, tgsSem, binSem, addSem, augSem, ixSem, seqOf, lstOf, lstT, newL, cmpSem, cmpInts, cmpI, eqD_int, DV.isNon, biSem, biLen, biInt, biList, biTuple, biTwo, isi_ii, isi_ib, isi_il, isi_it, isi_ll, isi_li, isi_lt, isi_tt, isi_tl, isi_ti, itemsOf, litOf, at0, at1, at2, ix30, ix31, ix32, sl0, sl1, sl2, sl3, sl4, sl5, sl6, sl7, sl8, sl9, sl10, sl11, sl12, sl13, sl14, fnSem, startE, wipeE, eRow, eDig, d1, d2, p1, p2', cm, Out.loop, heldL]
        rw [← hbd] at this
        exact this
      | some dd =>
        by_cases hq : dd = left / t
        · have := ih free found (left % t) (some (.int t)) (some (.int n)) (some (.int dd)) (some (.int (left / t))) hr' f0 f1 m0' (by omega)
          simp [forBd_at, b_nil, b_cons, b_ifs, b_for, b_while, semS, e_lc, e_lc2, e_var, e_int, e_bl, e_non, e_str, e_glob, e_bin, e_neg, e_tst, e_ife, e_tup, e_lst, e_ix, e_slc, e_rev, e_call, e_callK, permL, e_bi, e_isi, e_meth, e_fz, e_fzl, e_sortK, e_isx, e_isb, e_fld, e_callT, e_emp, b_try, isxSem, fldSem, actSem, actOut, catchO, onlyT_at, semEs, semT, semAnd, semOr, semO, semC, semI, R.bind_ok, R.bind_ex, R.bind_bad, R.out_ok, R.out_ex, R.out_bad, thn_nx, thn_ret, thn_brk, thn_ct, thn_ex, thn_bad, val_nx, val_ret, val_ex, tgSem, tgsSem, binSem, addSem, augSem, ixSem, seqOf, lstOf, lstT, newL, cmpSem, cmpInts, cmpI, eqD_int, DV.isNon, biSem, biLen, biInt, biList, biTuple, biTwo, isi_ii, isi_ib, isi_il, isi_it, isi_ll, isi_li, isi_lt, isi_tt, isi_tl, isi_ti, itemsOf, litOf, at0, at1, at2, ix30, ix31, ix32, sl0, sl1, sl2, sl3, sl4, sl5, sl6, sl7, sl8, sl9, sl10, sl11, sl12, sl13, sl14, fnSem, startE, wipeE, eRow, eDig, d1, d2, p1, p2', hq, Out.loop, heldL]
          rw [← hbd, hq] at this
          exact this
        · by_cases hlt : dd < left / t
          · simp [forBd_at, b_nil, b_cons, b_ifs, b_for, b_while, semS, e_lc, e_lc2, e_var, e_int, e_bl, e_non, e_str, e_glob, e_bin, e_neg, e_tst, e_ife, e_tup, e_lst, e_ix, e_slc, e_rev, e_call, e_callK, permL, e_bi, e_isi, e_meth, e_fz, e_fzl, e_sortK, e_isx, e_isb, e_fld, e_callT, e_emp, b_try, isxSem, fldSem, actSem, actOut, catchO, onlyT_at, semEs, semT, semAnd, semOr, semO, semC, semI, R.bind_ok, R.bind_ex, R.bind_bad, R.out_ok, R.out_ex, R.out_bad, thn_nx, thn_ret, thn_brk, thn_ct, thn_ex, thn_bad, val_nx, val_ret, val_ex, tgSem, tgsSem, binSem, addSem, augSem, ixSem, seqOf, lstOf, lstT, newL, cmpSem, cmpInts, cmpI, eqD_int, DV.isNon, biSem, biLen, biInt, biList, biTuple, biTwo, isi_ii, isi_ib, isi_il, isi_it, isi_ll, isi_li, isi_lt, isi_tt, isi_tl, isi_ti, itemsOf, litOf, at0, at1, at2, ix30, ix31, ix32, sl0, sl1, sl2, sl3, sl4, sl5, sl6, sl7, sl8, sl9, sl10, sl11, sl12, sl13, sl14, fnSem, startE, wipeE, eRow, eDig, d1, d2, p1, p2', hq, hlt, Out.loop, heldL]
          · simp [forBd_at, b_nil, b_cons, b_ifs, b_for, b_while, semS, e_lc, e_lc2, e_var, e_int, e_bl, e_non, e_str, e_glob, e_bin, e_neg, e_tst, e_ife, e_tup, e_lst, e_ix, e_slc, e_rev, e_call, e_callK, permL, e_bi, e_isi, e_meth, e_fz, e_fzl, e_sortK, e_isx, e_isb, e_fld, e_callT, e_emp, b_try, isxSem, fldSem, actSem, actOut, catchO, onlyT_at, semEs, semT, semAnd, semOr, semO, semC, semI, R.bind_ok, R.bind_ex, R.bind_bad, R.out_ok, R.out_ex, R.out_bad, thn_nx, thn_ret, thn_brk, thn_ct, thn_ex, thn_bad, val_nx, val_ret, val_ex, tgSem, tgsSem, binSem, addSem, augSem, ixSem, seqOf, lstOf, lstT, newL, cmpSem, cmpInts, cmpI, eqD_int, DV.isNon, biSem, biLen, biInt, biList, biTuple, biTwo, isi_ii, isi_ib, isi_il, isi_it, isi_ll, isi_li, isi_lt, isi_tt, isi_tl, isi_ti, itemsOf, litOf, at0, at1, at2, ix30, ix31, ix32, sl0, sl1, sl2, sl3, sl4, sl5, sl6, sl7, sl8, sl9, sl10, sl11, sl12, sl13, sl14, fnSem, startE, wipeE, eRow, eDig, d1, d2, p1, p2', hq, hlt, Out.loop, heldL]
  exact key rs K 0 m none none none none hrows (by omega) hfree m0 hm
theorem share_of_ok (s : Sto) {x y : List Mode} (g : Hnd [x, y]) (n w : Int) (n0 : 0 ≤ n) (n1 : n ≤ 10000000000000000000000000000000000000000) (w0 : 0 ≤ w) (w1 : w < prodM x) :
    f_share_of s [eH [x, y], .int n, .int w] = .ok (.int (n / prodM (x ++ y) * prodM y + cntW x y w (n % prodM (x ++ y)))) s := by
  have hf : ([x, y] : List (List Mode)).flatten = x ++ y := by simp
  have few := g.few
  have ok := g.ok
  have pos := hnd_pos g
  have gm := g.many
  rw [hf] at few ok pos gm
  have few2 := few
  rw [List.length_append] at few
  have okx : ∀ m ∈ x, okM m := fun m hm => ok m (List.mem_append_left _ hm)
  have oky : ∀ m ∈ y, okM m := fun m hm => ok m (List.mem_append_right _ hm)
  have posx : ∀ m ∈ x, 1 ≤ m.1 := fun m hm => pos m (List.mem_append_left _ hm)
  have hp := prodM_pos _ pos
  have q1 := need_work_ok s g n n0 n1
  have q2 := need_below_ok s w _ w0 w1
  have q3 := workers_of_ok s x y (by omega) okx
  have q4 := raw_size_ok s [x, y] (by rw [hf]; omega) (by rw [hf]; exact ok)
  rw [hf] at q4
  have q5 := raw_size_ok s [y] (by simp; omega) (by simpa using oky)
  have fy : ([y] : List (List Mode)).flatten = y := by simp
  rw [fy] at q5
  have q6 := held_below_ok s g w (n % prodM (x ++ y)) w0 w1 (Int.emod_nonneg _ (by omega)) (Int.emod_lt_of_pos _ (by omega))
  have c1 := cut_rest [eA x, eA y] 1
  have hS : ∀ ρ : DV.Env, ρ[0]? = some (some (eH [x, y])) → semE (.slc false (.var 0) (.some (.int 1)) .none) ρ s = .ok (eH [y]) s := by
    intro ρ hρ
    have eE : eH [x, y] = .lst [eA x, eA y] := rfl
    simp [b_nil, b_cons, b_ifs, b_for, b_while, semS, e_lc, e_lc2, e_var, e_int, e_bl, e_non, e_str, e_glob, e_bin, e_neg, e_tst, e_ife, e_tup, e_lst, e_ix, e_slc, e_rev, e_call, e_callK, permL, e_bi, e_isi, e_meth, e_fz, e_fzl, e_sortK, e_isx, e_isb, e_fld, e_callT, e_emp, b_try, isxSem, fldSem, actSem, actOut, catchO, onlyT_at, semEs, semT, semAnd, semOr, semO, semC, semI, R.bind_ok, R.bind_ex, R.bind_bad, R.out_ok, R.out_ex, R.out_bad, thn_nx, thn_ret, thn_brk, thn_ct, thn_ex, thn_bad, val_nx, val_ret, val_ex, tgSem, tgsSem, binSem, addSem, augSem, ixSem, seqOf, lstOf, lstT, newL, cmpSem, cmpInts, cmpI, eqD_int, DV.isNon, biSem, biLen, biInt, biList, biTuple, biTwo, isi_ii, isi_ib, isi_il, isi_it, isi_ll, isi_li, isi_lt, isi_tt, isi_tl, isi_ti, itemsOf, litOf, at0, at1, at2, ix30, ix31, ix32, sl0, sl1, sl2, sl3, sl4, sl5, sl6, sl7, sl8, sl9, sl10, sl11, sl12, sl13, sl14, fnSem, startE, wipeE, hρ, eE, slcSem]
    simp only [show (1 : Int) = ((1 : Nat) : Int) from rfl, c1]
    rfl
  have big : (10000000000000000000000000000000000000000 : Nat) < 2 ^ 200 := by decide +kernel
  have d1 : CDivW n (prodM (x ++ y)) := divW_of (by omega) (Nat.lt_of_lt_of_le (prodM_lt _ ok) (Nat.pow_le_pow_right (by decide) (by rw [List.length_append]; omega)))
  have hq0 := Int.ediv_nonneg n0 (show 0 ≤ prodM (x ++ y) by omega)
  have hq1 : n / prodM (x ++ y) ≤ n := Int.ediv_le_self _ n0
  have cm : CMulW (n / prodM (x ++ y)) (prodM y) := mulW_of (a := 200) (Nat.lt_of_le_of_lt (show _ ≤ 10000000000000000000000000000000000000000 by omega) big) (prodM_lt _ oky) (by omega)
  have hp' : 0 < prodM (x ++ y) := by omega
  refine fnD_of ?_ (by rw [bnd])
  generalize eH [x, y] = E at *
  generalize eH [y] = E1 at *
  generalize cntW x y w (n % prodM (x ++ y)) = C at *
  simp [b_nil, b_cons, b_ifs, b_for, b_while, semS, e_lc, e_lc2, e_var, e_int, e_bl, e_non, e_str, e_glob, e_bin, e_neg, e_tst, e_ife, e_tup, e_lst, e_ix, e_slc, e_rev, e_call, e_callK, permL, e_bi, e_isi, e_meth, e_fz, e_fzl, e_sortK, e_isx, e_isb, e_fld, e_callT, e_emp, b_try, isxSem, fldSem, actSem, actOut, catchO, onlyT_at, semEs, semT, semAnd, semOr, semO, semC, semI, R.bind_ok, R.bind_ex, R.bind_bad, R.out_ok, R.out_ex, R.out_bad, thn_nx, thn_ret, thn_brk, thn_ct, thn_ex, thn_bad, val_nx, val_ret, val_ex, tgSem, tgsSem, binSem, addSem, augSem, ixSem, seqOf, lstOf, lstT, newL, cmpSem, cmpInts, cmpI, eqD_int, DV.isNon, biSem, biLen, biInt, biList, biTuple, biTwo, isi_ii, isi_ib, isi_il, isi_it, isi_ll, isi_li, isi_lt, isi_tt, isi_tl, isi_ti, itemsOf, litOf, at0, at1, at2, ix30, ix31, ix32, sl0, sl1, sl2, sl3, sl4, sl5, sl6, sl7, sl8, sl9, sl10, sl11, sl12, sl13, sl14, fnSem, startE, wipeE, -e_slc, N_share_of, ir_share_of, q1, q2, q3, q4, q5, q6, hS, d1, cm, hp']
end PF

namespace PF
open PySem PySem.Spec L2 DV Mix
theorem sumN_ind (a : Nat) : ∀ n, sumN n (fun k => if k = a then 1 else 0) = if a < n then 1 else 0
  | 0 => by simp [sumN]
  | n + 1 => by
    rw [sumN, sumN_ind a n]
    by_cases h : n = a
    · subst h; simp
    · rw [if_neg h]
      by_cases h2 : a < n
      · rw [if_pos h2, if_pos (by omega)]
      · rw [if_neg h2, if_neg (by omega)]
theorem sumN_le {f g : Nat → Nat} : ∀ n, (∀ i, i < n → f i ≤ g i) → sumN n f ≤ sumN n g
  | 0, _ => Nat.le_refl _
  | n + 1, h => by
    have h1 := sumN_le n fun i hi => h i (by omega)
    have h2 := h n (by omega)
    rw [sumN, sumN]
    omega
theorem sumN_const (c : Nat) : ∀ n, sumN n (fun _ => c) = n * c
  | 0 => by simp [sumN]
  | n + 1 => by rw [sumN, sumN_const c n, Nat.succ_mul]
theorem bPos_step (m v : Int) : bPos (m + 1 - v) = bPos (m - v) + if v = m then 1 else 0 := by
  unfold bPos
  by_cases h : v = m
  · rw [if_pos h, if_pos (by omega), if_neg (by omega)]
  · rw [if_neg h]
    by_cases h2 : 0 < m - v
    · rw [if_pos h2, if_pos (by omega)]
    · rw [if_neg h2, if_neg (by omega)]
theorem bPos_mono {a b : Int} (h : a ≤ b) : bPos a ≤ bPos b := by
  unfold bPos
  split <;> split <;> omega
section
variable {x y : List Mode} (g : Hnd [x, y])
include g
theorem hnd_facts : (∀ m ∈ x, 1 ≤ m.1) ∧ (∀ m ∈ y, 1 ≤ m.1) ∧ (∀ m ∈ x ++ y, 1 ≤ m.1) ∧ 1 ≤ prodM x ∧ 1 ≤ prodM y ∧ 1 ≤ prodM (x ++ y) ∧ prodM (x ++ y) = prodM x * prodM y ∧ contig (rowsOf (x ++ y)) 1 := by
  have hf : ([x, y] : List (List Mode)).flatten = x ++ y := by simp
  have pos := hnd_pos g
  have hc := hnd_contig g
  rw [hf] at pos hc
  have posx : ∀ m ∈ x, 1 ≤ m.1 := fun m hm => pos m (List.mem_append_left _ hm)
  have posy : ∀ m ∈ y, 1 ≤ m.1 := fun m hm => pos m (List.mem_append_right _ hm)
  exact ⟨posx, posy, pos, prodM_pos x posx, prodM_pos y posy, prodM_pos _ pos, prodM_app x y, hc⟩
theorem cnt_step (w m : Int) (w0 : 0 ≤ w) (w1 : w < prodM x) (m0 : 0 ≤ m) (m1 : m < prodM (x ++ y)) : cntW x y w (m + 1) = cntW x y w m + if w = idxR (rowsOf (x ++ y)) m % prodM x then 1 else 0 := by
  obtain ⟨posx, posy, pos, hpx, hpy, hp, hxy, hc⟩ := hnd_facts g
  obtain ⟨v1, v2, v3⟩ := val_of_back (rows_perm _) hc pos m m0 m1
  generalize hI : idxR (rowsOf (x ++ y)) m = I at *
  unfold cntW
  rw [sumN_congr _ (g := fun k => bPos (m - valM (x ++ y) (w + k * prodM x)) + if valM (x ++ y) (w + k * prodM x) = m then 1 else 0) fun k _ => bPos_step _ _, sumN_add]
  congr 1
  have hq0 : 0 ≤ I / prodM x := Int.ediv_nonneg v2 (by omega)
  have hq1 : I / prodM x < prodM y := Int.ediv_lt_of_lt_mul (by omega) (by rw [Int.mul_comm, ← hxy]; exact v3)
  have hI2 : I % prodM x + I / prodM x * prodM x = I := by rw [Int.mul_comm]; exact Int.emod_add_mul_ediv _ _
  have hiff : ∀ k : Nat, k < (prodM y).toNat → (valM (x ++ y) (w + k * prodM x) = m ↔ w = I % prodM x ∧ k = (I / prodM x).toNat) := fun k hk => by
    obtain ⟨i0, i1, i2, i3⟩ := two_split w0 w1 (Int.natCast_nonneg k) (show (k : Int) < prodM y by omega)
    rw [← hxy] at i1
    obtain ⟨u1, _, _⟩ := back_of_val (rows_perm _) hc pos _ i0 i1
    constructor
    · intro h
      rw [h, hI] at u1
      rw [← u1] at i2 i3
      exact ⟨i2.symm, by omega⟩
    · rintro ⟨h1, h2⟩
      have e : w + k * prodM x = I := by
        rw [h2, Int.toNat_of_nonneg hq0, h1]
        exact hI2
      rw [e]
      exact v1
  by_cases hw : w = I % prodM x
  · rw [if_pos hw, sumN_congr _ (g := fun k => if k = (I / prodM x).toNat then 1 else 0) fun k hk => ?_, sumN_ind, if_pos (by omega)]
    have := hiff k hk
    by_cases h2 : k = (I / prodM x).toNat
    · rw [if_pos h2, if_pos (this.mpr ⟨hw, h2⟩)]
    · rw [if_neg h2, if_neg fun z => h2 (this.mp z).2]
  · rw [if_neg hw, sumN_congr _ (g := fun _ => 0) fun k hk => if_neg fun z => hw ((hiff k hk).mp z).1, sumN_zero]
theorem cnt_zero (w : Int) (w0 : 0 ≤ w) (w1 : w < prodM x) : cntW x y w 0 = 0 := by
  obtain ⟨posx, posy, pos, hpx, hpy, hp, hxy, hc⟩ := hnd_facts g
  unfold cntW
  rw [sumN_congr _ (g := fun _ => 0) fun k hk => ?_, sumN_zero]
  obtain ⟨i0, i1, _, _⟩ := two_split w0 w1 (Int.natCast_nonneg k) (show (k : Int) < prodM y by omega)
  rw [← hxy] at i1
  have := (back_of_val (rows_perm _) hc pos _ i0 i1).2.1
  unfold bPos
  rw [if_neg (by omega)]
theorem cnt_full (w m : Int) (w0 : 0 ≤ w) (w1 : w < prodM x) (hm : prodM (x ++ y) ≤ m) : (cntW x y w m : Int) = prodM y := by
  obtain ⟨posx, posy, pos, hpx, hpy, hp, hxy, hc⟩ := hnd_facts g
  unfold cntW
  rw [sumN_congr _ (g := fun _ => 1) fun k hk => ?_, sumN_const]
  · omega
  obtain ⟨i0, i1, _, _⟩ := two_split w0 w1 (Int.natCast_nonneg k) (show (k : Int) < prodM y by omega)
  rw [← hxy] at i1
  have := (back_of_val (rows_perm _) hc pos _ i0 i1).2.2
  unfold bPos
  rw [if_pos (by omega)]
omit g in
theorem next_div {n N : Int} (hN : 0 < N) : (n % N + 1 < N ∧ (n + 1) / N = n / N ∧ (n + 1) % N = n % N + 1) ∨ (n % N + 1 = N ∧ (n + 1) / N = n / N + 1 ∧ (n + 1) % N = 0) := by
  have h1 := Int.mul_ediv_add_emod n N
  have h2 := Int.emod_nonneg n (show N ≠ 0 by omega)
  have h3 := Int.emod_lt_of_pos n hN
  have e : n + 1 = n % N + 1 + N * (n / N) := by omega
  by_cases h : n % N + 1 < N
  · refine .inl ⟨h, ?_, ?_⟩
    · rw [e, Int.add_mul_ediv_left _ _ (by omega), Int.ediv_eq_zero_of_lt (by omega) h, Int.zero_add]
    · rw [e, Int.add_mul_emod_self_left, Int.emod_eq_of_lt (by omega) h]
  · have h4 : n % N + 1 = N := by omega
    have e2 : n + 1 = N * (n / N + 1) := by rw [Int.mul_add]; omega
    refine .inr ⟨h4, ?_, ?_⟩
    · rw [e2, Int.mul_ediv_cancel_left _ (by omega)]
    · rw [e2, Int.mul_emod_right]
omit g in
/-- how many elements a worker gets -/
def shareM (x y : List Mode) (n w : Int) : Int := n / prodM (x ++ y) * prodM y + cntW x y w (n % prodM (x ++ y))
theorem share_step (n w : Int) (w0 : 0 ≤ w) (w1 : w < prodM x) : shareM x y (n + 1) w = shareM x y n w + if w = idxM (x ++ y) n % prodM x then 1 else 0 := by
  obtain ⟨posx, posy, pos, hpx, hpy, hp, hxy, hc⟩ := hnd_facts g
  have m0 := Int.emod_nonneg n (show prodM (x ++ y) ≠ 0 by omega)
  have m1 := Int.emod_lt_of_pos n (show 0 < prodM (x ++ y) by omega)
  have st := cnt_step g w _ w0 w1 m0 m1
  unfold shareM idxM
  rcases next_div (n := n) (show 0 < prodM (x ++ y) by omega) with ⟨h1, h2, h3⟩ | ⟨h1, h2, h3⟩
  · rw [h2, h3, st]
    split <;> omega
  · have f := cnt_full g w (n % prodM (x ++ y) + 1) w0 w1 (by omega)
    have z := cnt_zero g w w0 w1
    rw [h2, h3, z, Int.add_mul, Int.one_mul]
    rw [st] at f
    split at f <;> rename_i hh
    · rw [if_pos hh]; omega
    · rw [if_neg hh]; omega
theorem share_zero (w : Int) (w0 : 0 ≤ w) (w1 : w < prodM x) : shareM x y 0 w = 0 := by
  unfold shareM
  rw [Int.zero_emod, cnt_zero g w w0 w1]
  simp
theorem share_whole (n w : Int) : shareM x y (n + prodM (x ++ y)) w = shareM x y n w + prodM y := by
  obtain ⟨posx, posy, pos, hpx, hpy, hp, hxy, hc⟩ := hnd_facts g
  unfold shareM
  rw [Int.add_emod_right, show n + prodM (x ++ y) = n + 1 * prodM (x ++ y) from by omega, Int.add_mul_ediv_right _ _ (by omega), Int.add_mul, Int.one_mul]
  omega
omit g in
/-- the greatest value -/
def maxM : List Mode → Int
  | [] => 0
  | m :: l => (m.1 - 1) * m.2 + maxM l
omit g in
theorem valM_top : ∀ (l : List Mode), (∀ m ∈ l, 1 ≤ m.1) → valM l (prodM l - 1) = maxM l
  | [], _ => rfl
  | m :: l, h => by
    have hm := h m (List.mem_cons_self ..)
    have ih := valM_top l fun x hx => h x (List.mem_cons_of_mem _ hx)
    have e : prodM (m :: l) - 1 = (m.1 - 1) + m.1 * (prodM l - 1) := by rw [prodM_cons, Int.mul_sub]; omega
    rw [valM, maxM, e, Int.add_mul_emod_self_left, Int.emod_eq_of_lt (by omega) (by omega), Int.add_mul_ediv_left _ _ (by omega), Int.ediv_eq_zero_of_lt (by omega) (by omega), Int.zero_add, ih]
omit g in
theorem valM_between : ∀ (l : List Mode) (i : Int), (∀ m ∈ l, 1 ≤ m.1 ∧ (1 < m.1 → 0 ≤ m.2)) → 0 ≤ valM l i ∧ valM l i ≤ maxM l
  | [], i, _ => ⟨Int.le_refl _, Int.le_refl _⟩
  | m :: l, i, h => by
    obtain ⟨hm, hs⟩ := h m (List.mem_cons_self ..)
    obtain ⟨a, b⟩ := valM_between l (i / m.1) fun x hx => h x (List.mem_cons_of_mem _ hx)
    rw [valM, maxM]
    by_cases h1 : 1 < m.1
    · have h2 := hs h1
      have r0 := Int.emod_nonneg i (show m.1 ≠ 0 by omega)
      have r1 := Int.emod_lt_of_pos i (show 0 < m.1 by omega)
      have q1 := Int.mul_nonneg r0 h2
      have q2 := Int.mul_le_mul_of_nonneg_right (show i % m.1 ≤ m.1 - 1 by omega) h2
      omega
    · have e : m.1 = 1 := by omega
      rw [e, Int.ediv_one] at a b
      rw [e, Int.emod_one, Int.ediv_one]
      simp
      exact ⟨a, b⟩
theorem hnd_strides : ∀ m ∈ x, 1 ≤ m.1 ∧ (1 < m.1 → 0 ≤ m.2) := fun m hm => by
  obtain ⟨posx, posy, pos, hpx, hpy, hp, hxy, hc⟩ := hnd_facts g
  refine ⟨posx m hm, fun h1 => ?_⟩
  have hmem : [m.2, m.1] ∈ pairs (x ++ y) := by
    unfold pairs
    exact List.mem_map.mpr ⟨m, List.mem_filter.mpr ⟨List.mem_append_left _ hm, decide_eq_true h1⟩, rfl⟩
  rw [← chainR_pairs (x ++ y) 1] at hmem
  obtain ⟨r, hr, e⟩ := List.mem_map.mp hmem
  have hr2 := (rows_perm (x ++ y)).mem_iff.mpr hr
  have := (cont_ppos _ 1 (by decide) (contig_cont _ 1 hc) r hr2).1
  obtain ⟨t, n, v, rfl⟩ := chainR_three _ 1 r hr
  simp at e
  have : 0 < t := this
  omega
theorem cnt_order (w m : Int) (w0 : 0 ≤ w) (w1 : w < prodM x) : cntW x y w m ≤ cntW x y 0 m ∧ cntW x y (prodM x - 1) m ≤ cntW x y w m := by
  obtain ⟨posx, posy, pos, hpx, hpy, hp, hxy, hc⟩ := hnd_facts g
  have hs := hnd_strides g
  obtain ⟨a1, a2⟩ := valM_between x w hs
  have b1 := valM_top x posx
  have z : valM x 0 = 0 := by
    have : ∀ l : List Mode, valM l 0 = 0 := by
      intro l
      induction l with
      | nil => rfl
      | cons q l ih => rw [valM, Int.zero_emod, Int.zero_mul, Int.zero_ediv, ih]; rfl
    exact this x
  unfold cntW
  refine ⟨sumN_le _ fun k hk => bPos_mono ?_, sumN_le _ fun k hk => bPos_mono ?_⟩
  · rw [valM_two x y w k posx w0 w1, valM_two x y 0 k posx (by decide) (by omega), z]
    omega
  · rw [valM_two x y w k posx w0 w1, valM_two x y (prodM x - 1) k posx (by omega) (by omega), b1]
    omega
theorem share_order (n w : Int) (w0 : 0 ≤ w) (w1 : w < prodM x) : shareM x y n w ≤ shareM x y n 0 ∧ shareM x y n (prodM x - 1) ≤ shareM x y n w := by
  obtain ⟨a, b⟩ := cnt_order g w (n % prodM (x ++ y)) w0 w1
  unfold shareM
  omega
theorem cnt_sum : ∀ m : Nat, (m : Int) ≤ prodM (x ++ y) → sumN (prodM x).toNat (fun w => cntW x y w m) = m
  | 0, _ => by
    show sumN _ (fun w : Nat => cntW x y w 0) = 0
    rw [sumN_congr _ (g := fun _ => 0) fun w hw => cnt_zero g w (Int.natCast_nonneg w) (by omega), sumN_zero]
  | m + 1, h => by
    obtain ⟨posx, posy, pos, hpx, hpy, hp, hxy, hc⟩ := hnd_facts g
    have hm : (m : Int) < prodM (x ++ y) := by omega
    obtain ⟨v1, v2, v3⟩ := val_of_back (rows_perm _) hc pos m (Int.natCast_nonneg m) hm
    have r0 := Int.emod_nonneg (idxR (rowsOf (x ++ y)) m) (show prodM x ≠ 0 by omega)
    have r1 := Int.emod_lt_of_pos (idxR (rowsOf (x ++ y)) m) (show 0 < prodM x by omega)
    generalize hO : idxR (rowsOf (x ++ y)) m % prodM x = o at *
    have hst : ∀ w : Nat, w < (prodM x).toNat → cntW x y w (m + 1 : Nat) = cntW x y w m + if w = o.toNat then 1 else 0 := fun w hw => by
      have := cnt_step g w m (Int.natCast_nonneg w) (by omega) (Int.natCast_nonneg m) hm
      rw [show ((m + 1 : Nat) : Int) = (m : Int) + 1 from by omega, this, hO]
      congr 1
      by_cases h1 : w = o.toNat
      · rw [if_pos h1, if_pos (by omega)]
      · rw [if_neg h1, if_neg (by omega)]
    rw [sumN_congr _ hst, sumN_add, cnt_sum m (by omega), sumN_ind, if_pos (by omega)]
omit g in
theorem sum_range (f : Nat → Int) (h : Nat → Nat) (hf : ∀ i, f i = h i) : ∀ n, ((List.range n).map f).sum = (sumN n h : Nat)
  | 0 => rfl
  | n + 1 => by
    rw [List.range_succ, List.map_append, List.sum_append, sum_range f h hf n, sumN, List.map_singleton, List.sum_singleton, hf n]
    omega
theorem share_sum (n : Int) (n0 : 0 ≤ n) : ((List.range (prodM x).toNat).map fun w : Nat => shareM x y n w).sum = n := by
  obtain ⟨posx, posy, pos, hpx, hpy, hp, hxy, hc⟩ := hnd_facts g
  have m0 := Int.emod_nonneg n (show prodM (x ++ y) ≠ 0 by omega)
  have m1 := Int.emod_lt_of_pos n (show 0 < prodM (x ++ y) by omega)
  have q0 := Int.ediv_nonneg n0 (show 0 ≤ prodM (x ++ y) by omega)
  have h1 := Int.mul_ediv_add_emod n (prodM (x ++ y))
  have k0 := Int.mul_nonneg q0 (show 0 ≤ prodM y by omega)
  have cs := cnt_sum g (n % prodM (x ++ y)).toNat (by omega)
  rw [sum_range _ (fun w => (n / prodM (x ++ y) * prodM y).toNat + cntW x y w (n % prodM (x ++ y))) fun w => by
    unfold shareM
    omega, sumN_add, sumN_const]
  rw [Int.toNat_of_nonneg m0] at cs
  rw [cs, Int.natCast_add, Int.natCast_mul, Int.toNat_of_nonneg k0, Int.toNat_of_nonneg (by omega), Int.toNat_of_nonneg m0]
  have e : prodM x * (n / prodM (x ++ y) * prodM y) = prodM (x ++ y) * (n / prodM (x ++ y)) := by
    rw [hxy, Int.mul_comm (n / _), ← Int.mul_assoc]
  omega
end
end PF

namespace PF
open PySem PySem.Spec L2 DV
/-! ### equality of plain data -/
mutual
def plainD : D → Bool
  | .non => true
  | .int _ => true
  | .str x => PyData.strOk x
  | .lst xs => plainDs xs
  | .tup xs => plainDs xs
  | .bl _ => false
  | .obj _ => false
  | .scr _ => false
  | .exc _ _ _ => false
  | .fnv _ => false
  | .dic _ _ => false
def plainDs : List D → Bool
  | [] => true
  | d :: ds => plainD d && plainDs ds
end
mutual
theorem plain_facts : ∀ d : D, plainD d = true → DV.pure d = true ∧ (toPy d).canLay0 = true ∧ (toPy d).depth = deep d
  | .non, _ => ⟨rfl, rfl, rfl⟩
  | .int _, _ => ⟨rfl, rfl, rfl⟩
  | .str x, h => ⟨rfl, h, rfl⟩
  | .lst xs, h => by
    rw [plainD] at h
    obtain ⟨a, b, c⟩ := plain_factss xs h
    exact ⟨by rw [DV.pure]; exact a, by rw [toPy, PyData.canLay0]; exact b, by rw [toPy, PyData.depth, deep, c]⟩
  | .tup xs, h => by
    rw [plainD] at h
    obtain ⟨a, b, c⟩ := plain_factss xs h
    exact ⟨by rw [DV.pure]; exact a, by rw [toPy, PyData.canLay0]; exact b, by rw [toPy, PyData.depth, deep, c]⟩
  | .bl _, h => by cases h
  | .obj _, h => by cases h
  | .scr _, h => by cases h
  | .exc _ _ _, h => by cases h
  | .fnv _, h => by cases h
  | .dic _ _, h => by cases h
theorem plain_factss : ∀ ds : List D, plainDs ds = true → pureAll ds = true ∧ PyData.canLayAll0 (toPyAll ds) = true ∧ PyData.depthAll (toPyAll ds) = deeps ds
  | [], _ => ⟨rfl, rfl, rfl⟩
  | d :: ds, h => by
    rw [plainDs, Bool.and_eq_true] at h
    obtain ⟨a, b, c⟩ := plain_facts d h.1
    obtain ⟨a2, b2, c2⟩ := plain_factss ds h.2
    exact ⟨by rw [pureAll, a, a2]; rfl, by rw [toPyAll, PyData.canLayAll0, b, b2]; rfl, by rw [toPyAll, PyData.depthAll, deeps, c, c2]⟩
end
mutual
theorem eqv_same : ∀ d : D, plainD d = true → PyData.eqv (toPy d) (toPy d) = true
  | .non, _ => by simp [toPy, PyData.eqv]
  | .int i, _ => by simp [toPy, PyData.eqv]
  | .str x, _ => by simp [toPy, PyData.eqv]
  | .lst xs, h => by rw [plainD] at h; rw [toPy, PyData.eqv]; exact eqv_sames xs h
  | .tup xs, h => by rw [plainD] at h; rw [toPy, PyData.eqv]; exact eqv_sames xs h
  | .bl _, h => by cases h
  | .obj _, h => by cases h
  | .scr _, h => by cases h
  | .exc _ _ _, h => by cases h
  | .fnv _, h => by cases h
  | .dic _ _, h => by cases h
theorem eqv_sames : ∀ ds : List D, plainDs ds = true → PyData.eqvAll (toPyAll ds) (toPyAll ds) = true
  | [], _ => by simp [toPyAll, PyData.eqvAll]
  | d :: ds, h => by
    rw [plainDs, Bool.and_eq_true] at h
    rw [toPyAll, PyData.eqvAll, eqv_same d h.1, eqv_sames ds h.2]
    rfl
end
mutual
theorem eqv_eq : ∀ a b : D, plainD a = true → plainD b = true → PyData.eqv (toPy a) (toPy b) = true → a = b
  | .non, b, _, hb, h => by cases b <;> first | rfl | (simp [plainD] at hb; done) | simp [toPy, PyData.eqv] at h
  | .int i, b, _, hb, h => by
    cases b with
    | int j => simp [toPy, PyData.eqv] at h; rw [h]
    | _ => first | (simp [plainD] at hb; done) | simp [toPy, PyData.eqv] at h
  | .str x, b, _, hb, h => by
    cases b with
    | str y => simp [toPy, PyData.eqv] at h; rw [h]
    | bl _ => simp [plainD] at hb
    | obj _ => simp [plainD] at hb
    | scr _ => simp [plainD] at hb
    | exc _ _ _ => simp [plainD] at hb
    | fnv _ => simp [plainD] at hb
    | dic _ _ => simp [plainD] at hb
    | _ => simp [toPy, PyData.eqv] at h
  | .lst xs, b, ha, hb, h => by
    cases b with
    | lst ys =>
      rw [plainD] at ha hb
      rw [toPy, toPy, PyData.eqv] at h
      rw [eqv_eqs xs ys ha hb h]
    | bl _ => simp [plainD] at hb
    | obj _ => simp [plainD] at hb
    | scr _ => simp [plainD] at hb
    | exc _ _ _ => simp [plainD] at hb
    | fnv _ => simp [plainD] at hb
    | dic _ _ => simp [plainD] at hb
    | _ => simp [toPy, PyData.eqv] at h
  | .tup xs, b, ha, hb, h => by
    cases b with
    | tup ys =>
      rw [plainD] at ha hb
      rw [toPy, toPy, PyData.eqv] at h
      rw [eqv_eqs xs ys ha hb h]
    | bl _ => simp [plainD] at hb
    | obj _ => simp [plainD] at hb
    | scr _ => simp [plainD] at hb
    | exc _ _ _ => simp [plainD] at hb
    | fnv _ => simp [plainD] at hb
    | dic _ _ => simp [plainD] at hb
    | _ => simp [toPy, PyData.eqv] at h
  | .bl _, _, h, _, _ => by cases h
  | .obj _, _, h, _, _ => by cases h
  | .scr _, _, h, _, _ => by cases h
  | .exc _ _ _, _, h, _, _ => by cases h
  | .fnv _, _, h, _, _ => by cases h
  | .dic _ _, _, h, _, _ => by cases h
theorem eqv_eqs : ∀ xs ys : List D, plainDs xs = true → plainDs ys = true → PyData.eqvAll (toPyAll xs) (toPyAll ys) = true → xs = ys
  | [], ys, _, _, h => by
    cases ys with
    | nil => rfl
    | cons y ys => simp [toPyAll, PyData.eqvAll] at h
  | x :: xs, ys, ha, hb, h => by
    cases ys with
    | nil => simp [toPyAll, PyData.eqvAll] at h
    | cons y ys =>
      rw [plainDs, Bool.and_eq_true] at ha hb
      rw [toPyAll, toPyAll, PyData.eqvAll, Bool.and_eq_true] at h
      rw [eqv_eq x y ha.1 hb.1 h.1, eqv_eqs xs ys ha.2 hb.2 h.2]
end
theorem eqD_of {s : Sto} {a b x y : D} (ha : res s a = x) (hb : res s b = y) (px : plainD x = true) (py : plainD y = true) (dx : deep x ≤ 64) (dy : deep y ≤ 64) : eqD s a b = some (PyData.eqv (toPy x) (toPy y)) := by
  obtain ⟨a1, a2, a3⟩ := plain_facts x px
  obtain ⟨b1, b2, b3⟩ := plain_facts y py
  unfold eqD
  rw [ha, hb, if_pos]
  refine ⟨a1, b1, ?_, ?_⟩
  · unfold SeqAt.shaped
    rw [a2, a3]
    simpa using dx
  · unfold SeqAt.shaped
    rw [b2, b3]
    simpa using dy
theorem eqD_true {s : Sto} {a b x : D} (ha : res s a = x) (hb : res s b = x) (px : plainD x = true) (dx : deep x ≤ 64) : eqD s a b = some true := by
  rw [eqD_of ha hb px px dx dx, eqv_same x px]
theorem eqD_false {s : Sto} {a b x y : D} (ha : res s a = x) (hb : res s b = y) (px : plainD x = true) (py : plainD y = true) (dx : deep x ≤ 64) (dy : deep y ≤ 64) (h : x ≠ y) : eqD s a b = some false := by
  rw [eqD_of ha hb px py dx dy]
  cases e : PyData.eqv (toPy x) (toPy y) with
  | false => rfl
  | true => exact absurd (eqv_eq x y px py e) h
theorem plain_ints : ∀ ns : List Int, plainDs (ns.map D.int) = true ∧ deeps (ns.map D.int) = 0
  | [] => ⟨rfl, rfl⟩
  | n :: ns => by
    obtain ⟨a, b⟩ := plain_ints ns
    exact ⟨by rw [List.map_cons, plainDs, a]; rfl, by rw [List.map_cons, deeps, b]; rfl⟩
theorem eqD_ints (s : Sto) (ns : List Int) : eqD s (.lst (ns.map D.int)) (.lst (ns.map D.int)) = some true := by
  obtain ⟨a, b⟩ := plain_ints ns
  exact eqD_true (x := .lst (ns.map D.int)) rfl rfl (by rw [plainD]; exact a) (by rw [deep, b]; decide)
end PF

namespace PF
open PySem PySem.Spec L2 DV
theorem tells_mem : ∀ l : List D, (∀ d ∈ l, tellable d = true) → tellables l = true
  | [], _ => by rw [tellables]
  | d :: l, h => by rw [tellables, h d (List.mem_cons_self ..), tells_mem l fun x hx => h x (List.mem_cons_of_mem _ hx)]; rfl
theorem log_of {i : Int} (h : i.natAbs < 2 ^ 299) : i.natAbs.log2 < 300 := by
  by_cases hz : i.natAbs = 0
  · rw [hz]; decide
  · have := (Nat.log2_lt hz).mpr h
    omega
theorem pow_up {i : Int} {k : Nat} (h : i.natAbs < 2 ^ k) (hk : k ≤ 299) : i.natAbs < 2 ^ 299 := Nat.lt_of_lt_of_le h (Nat.pow_le_pow_right (by decide) hk)
theorem tell_eM {m : Mode} (h : okM m) : tellable (eM m) = true := by
  have h1 := log_of (pow_up (okM_lt h) (by decide))
  have h2 := log_of (pow_up (okM_lt2 h) (by decide))
  simp [eM, tellable, tellables, h1, h2]
theorem tell_eA {l : List Mode} (h : ∀ m ∈ l, okM m) : tellable (eA l) = true := by
  rw [eA, tellable]
  exact tells_mem _ fun d hd => by
    obtain ⟨m, hm, rfl⟩ := List.mem_map.mp hd
    exact tell_eM (h m hm)
theorem tell_eH {h : List (List Mode)} (hm : ∀ m ∈ h.flatten, okM m) : tellable (eH h) = true := by
  rw [eH, tellable]
  exact tells_mem _ fun d hd => by
    obtain ⟨a, ha, rfl⟩ := List.mem_map.mp hd
    exact tell_eA fun m hm' => hm m (List.mem_flatten.mpr ⟨a, ha, hm'⟩)
theorem nodess_map {α : Type} (e : α → D) (k : Nat) : ∀ l : List α, (∀ x ∈ l, nodes (e x) ≤ k) → nodess (l.map e) ≤ k * l.length
  | [], _ => by simp [nodess]
  | x :: l, h => by
    have := nodess_map e k l fun y hy => h y (List.mem_cons_of_mem _ hy)
    have h1 := h x (List.mem_cons_self ..)
    rw [List.map_cons, nodess, List.length_cons, Nat.mul_succ]
    omega
theorem nodes_eA (l : List Mode) : nodes (eA l) ≤ 3 * l.length + 1 := by
  rw [eA, nodes]
  have := nodess_map eM 3 l fun m _ => by simp [eM, nodes, nodess]
  omega
theorem nodes_eH : ∀ h : List (List Mode), nodess (h.map eA) ≤ 3 * h.flatten.length + h.length
  | [] => by simp [nodess]
  | a :: h => by
    have h1 := nodes_eH h
    have h2 := nodes_eA a
    rw [List.map_cons, nodess, List.flatten_cons, List.length_append, List.length_cons]
    omega
theorem deeps_map {α : Type} (e : α → D) (k : Nat) : ∀ l : List α, (∀ x ∈ l, deep (e x) ≤ k) → deeps (l.map e) ≤ k
  | [], _ => by simp [deeps]
  | x :: l, h => by
    have := deeps_map e k l fun y hy => h y (List.mem_cons_of_mem _ hy)
    have h1 := h x (List.mem_cons_self ..)
    rw [List.map_cons, deeps]
    omega
theorem deep_eH (h : List (List Mode)) : deep (eH h) ≤ 3 := by
  rw [eH, deep]
  have := deeps_map eA 2 h fun a _ => by
    rw [eA, deep]
    have := deeps_map eM 1 a fun m _ => by simp [eM, deep, deeps]
    omega
  omega
end PF

/-! ### the text, as terms (printed by gen.py) -/
namespace K84
open PySem PySem.Spec PyProof.Rows L2 DV PF
noncomputable section
abbrev top (i : Nat) : Stmt := PySem.Challenge.pw_pacefold_k84_work_refused.main.body.getD i (.Pass ⟨0, 0, 0, 0⟩)
def N__law_q_bad_hands : List Str := ["_law_pen", "_law_some", "_law_two", "_law_loose", "_law_way"]
def ir__law_q_bad_hands : IB :=
  (.cons (.set (.name 1) (.lst false (.cons .non (.cons (.tup .nil) (.cons .emp (.cons (.int 7) (.cons (.lst false (.cons (.tup .nil) .nil)) (.cons (.lst false (.cons .non (.cons .non .nil))) (.cons (.lst false (.cons (.lst false (.cons (.tup (.cons (.int 2) (.cons (.int 1) .nil))) .nil)) (.cons (.tup (.cons (.tup (.cons (.int 2) (.cons (.int 2) .nil))) .nil)) .nil))) (.cons (.lst false (.cons (.lst false (.cons (.tup (.cons (.int 0) (.cons (.int 1) .nil))) .nil)) (.cons (.lst false .nil) .nil))) (.cons (.lst false (.cons (.lst false (.cons (.tup (.cons (.int 2) (.cons (.bl true) .nil))) .nil)) (.cons (.lst false .nil) .nil))) .nil)))))))))))
  (.cons (.set (.name 2) (.lst false (.cons (.lst false .nil) (.cons (.lst false (.cons (.lst false .nil) .nil)) (.cons (.lst false (.cons (.lst false (.cons (.tup (.cons (.int 4) (.cons (.int 1) .nil))) .nil)) .nil)) (.cons (.lst false (.cons (.lst false (.cons (.tup (.cons (.int 2) (.cons (.int 1) .nil))) .nil)) (.cons (.lst false (.cons (.tup (.cons (.int 2) (.cons (.int 2) .nil))) .nil)) (.cons (.lst false .nil) .nil)))) (.cons (.lst false (.cons (.lst false (.cons (.tup (.cons (.int 2) (.cons (.int 1) .nil))) .nil)) (.cons (.lst false (.cons (.tup (.cons (.int 2) (.cons (.int 2) .nil))) .nil)) (.cons (.lst false (.cons (.tup (.cons (.int 2) (.cons (.int 4) .nil))) .nil)) .nil)))) .nil)))))))
  (.cons (.set (.name 3) (.lst false (.cons (.lst false (.cons (.lst false (.cons (.tup (.cons (.int 2) (.cons (.int 1) .nil))) .nil)) (.cons (.lst false (.cons (.tup (.cons (.int 2) (.cons (.int 1) .nil))) .nil)) .nil))) (.cons (.lst false (.cons (.lst false (.cons (.tup (.cons (.int 2) (.cons (.int 2) .nil))) .nil)) (.cons (.lst false (.cons (.tup (.cons (.int 2) (.cons (.int 2) .nil))) .nil)) .nil))) (.cons (.lst false (.cons (.lst false (.cons (.tup (.cons (.int 2) (.cons (.int 1) .nil))) .nil)) (.cons (.lst false (.cons (.tup (.cons (.int 2) (.cons (.int 3) .nil))) .nil)) .nil))) (.cons (.lst false (.cons (.lst false (.cons (.tup (.cons (.int 2) (.cons (.neg (.int 1)) .nil))) .nil)) (.cons (.lst false (.cons (.tup (.cons (.int 2) (.cons (.int 2) .nil))) .nil)) .nil))) (.cons (.lst false (.cons (.lst false (.cons (.tup (.cons (.int 2) (.cons (.int 0) .nil))) .nil)) (.cons (.lst false .nil) .nil))) .nil)))))))
  (.cons (.set (.name 3) (.bin .Add false (.var 3) (.lst false (.cons (.lst false (.cons (.lst false (.cons (.tup (.cons (.int 2) (.cons (.int 1) .nil))) (.cons (.tup (.cons (.int 2) (.cons (.int 4) .nil))) .nil))) (.cons (.lst false (.cons (.tup (.cons (.int 3) (.cons (.int 2) .nil))) .nil)) .nil))) (.cons (.lst false (.cons (.lst false (.cons (.tup (.cons (.bin .Pow false (.int 10) (.int 20)) (.cons (.int 1) .nil))) .nil)) (.cons (.lst false (.cons (.tup (.cons (.bin .Pow false (.int 10) (.int 20)) (.cons (.bin .Add false (.bin .Pow false (.int 10) (.int 20)) (.int 1)) .nil))) .nil)) .nil))) .nil)))))
  (.cons (.set (.name 4) (.call "_law_take" 2 f__law_take (.cons (.var 0) (.cons (.int 3) .nil))))
  (.cons (.ret (.tup (.cons (.call "_law_q_pick" 2 f__law_q_pick (.cons (.var 0) (.cons (.ix (.lst false (.cons (.var 1) (.cons (.var 2) (.cons (.var 3) .nil)))) (.var 4)) .nil))) (.cons (.ix (.lst false (.cons (.str "axes") (.cons (.str "hands") (.cons (.str "loose") .nil)))) (.var 4)) .nil))))
  .nil))))))
def f__law_q_bad_hands : Fn := fnD N__law_q_bad_hands ir__law_q_bad_hands
def N__law_q_word : List Str := ["_law_act", "_law_caught", "e", "_law_some", "_law_words"]
def ir__law_q_word (T : Th → Sto → R D) : IB :=
  (.cons (.set (.name 1) .non)
  (.tryA 0 T none "FoldError" [("FoldError", true), ("NoAxes", true), ("NoIndex", true), ("NoCount", true), ("NoHands", true), ("NoRest", true)] 2 1
  (.ifs (.cmp .Is (.var 1) .non)
    (.cons (.ret (.str "fine"))
    .nil)
    .nil
  (.cons (.set (.name 3) (.lst true (.cons (.isx (.var 1) "NoAxes" [("FoldError", false), ("NoAxes", true), ("NoIndex", false), ("NoCount", false), ("NoHands", false), ("NoRest", false)]) (.cons (.isx (.var 1) "NoHands" [("FoldError", false), ("NoAxes", false), ("NoIndex", false), ("NoCount", false), ("NoHands", true), ("NoRest", false)]) (.cons (.isx (.var 1) "NoCount" [("FoldError", false), ("NoAxes", false), ("NoIndex", false), ("NoCount", true), ("NoHands", false), ("NoRest", false)]) .nil)))))
  (.cons (.ex (.meth .append (.var 3) (.cons (.isx (.var 1) "NoIndex" [("FoldError", false), ("NoAxes", false), ("NoIndex", true), ("NoCount", false), ("NoHands", false), ("NoRest", false)]) .nil)))
  (.cons (.set (.name 4) (.lst false (.cons (.str "axes") (.cons (.str "hands") (.cons (.str "count") (.cons (.str "index") .nil))))))
  (.cons (.ret (.ife (.and (.cons (.cmp .Eq (.meth .countD (.var 3) (.cons (.bl true) .nil)) (.int 1)) (.one (.val (.isb (.var 1) "ValueError" [("FoldError", true), ("NoAxes", true), ("NoIndex", true), ("NoCount", true), ("NoHands", true), ("NoRest", true)]))))) (.ix (.var 4) (.meth .index (.var 3) (.cons (.bl true) .nil))) (.str "odd")))
  .nil)))))))
def f__law_q_word : (Sto → R D) → Sto → R D := fnT N__law_q_word ir__law_q_word
def N__law_q_dealt_right : List Str := ["_law_some", "_law_wrong", "_law_words", "_law_due", "_law_k"]
def ir__law_q_dealt_right : IB :=
  (.cons (.set (.name 3) (.bin .Add false (.lc false [("_law_k", 4)] (.name 4) (.range1 (.int 5)) (.some (.val (.ix (.var 1) (.var 4)))) (.ix (.var 2) (.var 4))) (.lst false (.cons (.str "fine") .nil))))
  (.ifs (.cmp .NotEq (.callT "_law_q_word" f__law_q_word (.call "element_of" 5 f_element_of (.cons (.ix (.var 0) (.int 0)) (.cons (.ix (.var 0) (.int 1)) (.cons (.ix (.var 0) (.int 2)) (.cons (.ix (.var 0) (.int 3)) (.cons (.ix (.var 0) (.int 4)) .nil))))))) (.ix (.var 3) (.int 0)))
    (.cons (.ret (.bl false))
    .nil)
    .nil
  (.cons (.set (.name 3) (.bin .Add false (.lc false [("_law_k", 4)] (.name 4) (.seq (.lst false (.cons (.int 0) (.cons (.int 1) (.cons (.int 3) .nil))))) (.some (.val (.ix (.var 1) (.var 4)))) (.ix (.var 2) (.var 4))) (.lst false (.cons (.str "fine") .nil))))
  (.ifs (.cmp .NotEq (.callT "_law_q_word" f__law_q_word (.call "share_of" 3 f_share_of (.cons (.ix (.var 0) (.int 0)) (.cons (.ix (.var 0) (.int 1)) (.cons (.ix (.var 0) (.int 3)) .nil))))) (.ix (.var 3) (.int 0)))
    (.cons (.ret (.bl false))
    .nil)
    .nil
  (.cons (.set (.name 3) (.bin .Add false (.lc false [("_law_k", 4)] (.name 4) (.seq (.lst false (.cons (.int 0) (.cons (.int 1) .nil)))) (.some (.val (.ix (.var 1) (.var 4)))) (.ix (.var 2) (.var 4))) (.lst false (.cons (.str "fine") .nil))))
  (.cons (.ret (.tst (.cmp .Eq (.callT "_law_q_word" f__law_q_word (.call "rounds_of" 2 f_rounds_of (.cons (.ix (.var 0) (.int 0)) (.cons (.ix (.var 0) (.int 1)) .nil)))) (.ix (.var 3) (.int 0)))))
  .nil))))))
def f__law_q_dealt_right : Fn := fnD N__law_q_dealt_right ir__law_q_dealt_right
def N__law_q_sought_right : List Str := ["_law_some", "_law_wrong", "_law_words", "_law_total", "_law_odd", "_law_due", "_law_k"]
def ir__law_q_sought_right : IB :=
  (.cons (.setLc 5 false [("_law_k", 6)] (.name 6) (.seq (.lst false (.cons (.int 0) (.cons (.int 1) .nil)))) (.some (.val (.ix (.var 1) (.var 6)))) (.ix (.var 2) (.var 6)))
  (.ifs (.cmp .NotEq (.callT "_law_q_word" f__law_q_word (.call "where_is" 3 f_where_is (.cons (.ix (.var 0) (.int 0)) (.cons (.ix (.var 0) (.int 1)) (.cons (.var 4) .nil))))) (.ix (.bin .Add false (.var 5) (.lst false (.cons (.str "index") .nil))) (.int 0)))
    (.cons (.ret (.bl false))
    .nil)
    .nil
  (.cons (.ret (.tst (.cmp .Eq (.callT "_law_q_word" f__law_q_word (.call "where_is" 3 f_where_is (.cons (.ix (.var 0) (.int 0)) (.cons (.ix (.var 0) (.int 1)) (.cons (.bin .Sub false (.var 3) (.int 1)) .nil))))) (.ix (.bin .Add false (.var 5) (.lst false (.cons (.str "fine") .nil))) (.int 0)))))
  .nil)))
def f__law_q_sought_right : Fn := fnD N__law_q_sought_right ir__law_q_sought_right
def N_law : List Str := ["_law_script", "_law_pen", "_law_turn", "_law_odd", "_law_worst", "_law_one", "_law_some", "_law_first", "_law_due", "_law_size", "_law_many", "_law_total", "_law_hands", "_law_last", "_law_good", "_law_wrong", "_law_bad", "_law_word", "_law_words", "_law_seen", "_law_k"]
def ir_law_10 : IB :=
  (.cons (.ex (.meth .append (.var 4) (.cons (.call "_law_q_pick" 2 f__law_q_pick (.cons (.var 1) (.cons (.lst false (.cons (.var 5) (.cons (.var 3) .nil))) .nil))) .nil)))
      .nil)
def ir_law_15 : IB :=
  (.cons (.ret (.bl false))
      .nil)
def ir_law_17 : IB :=
  (.cons (.ret (.bl false))
      .nil)
def ir_law_20 : IB :=
  (.cons (.ret (.bl false))
      .nil)
def ir_law_22 : IB :=
  (.cons (.ret (.bl false))
      .nil)
def ir_law_24 : IB :=
  (.cons (.ret (.bl false))
      .nil)
def ir_law_23 : IB :=
  (.ifs (.or (.cons (.cmp .NotEq (.callT "_law_q_word" f__law_q_word (.call "where_is" 3 f_where_is (.cons (.var 12) (.cons (.int 0) (.cons (.int 0) .nil))))) (.str "index")) (.one (.cmp .NotEq (.call "share_of" 3 f_share_of (.cons (.var 12) (.cons (.int 0) (.cons (.int 0) .nil)))) (.int 0)))))
      ir_law_24
      .nil
    .nil)
def ir_law_21 : IB :=
  (.ifs (.or (.cons (.cmp .NotEq (.callT "_law_q_word" f__law_q_word (.call "element_of" 5 f_element_of (.cons (.var 12) (.cons (.int 0) (.cons (.int 0) (.cons (.int 0) (.cons (.int 0) .nil))))))) (.str "index")) (.one (.cmp .NotEq (.call "rounds_of" 2 f_rounds_of (.cons (.var 12) (.cons (.int 0) .nil))) (.int 0)))))
      ir_law_22
      .nil
    ir_law_23)
def ir_law_19 : IB :=
  (.ifs (.or (.cons (.cmp .NotEq (.callT "_law_q_word" f__law_q_word (.call "holding" 1 f_holding (.cons (.ix (.var 6) (.int 0)) .nil))) (.var 8)) (.one (.cmp .NotEq (.bi .repr false (.cons (.var 6) .nil)) (.var 19)))))
      ir_law_20
      .nil
    ir_law_21)
def ir_law_18 : IB :=
  (.cons (.set (.name 8) (.ife (.and (.cons (.val (.ix (.var 15) (.int 0))) (.one (.cmp .NotEq (.var 17) (.str "loose"))))) (.var 7) (.str "fine")))
    ir_law_19)
def ir_law_16 : IB :=
  (.ifs (.not (.val (.call "_law_q_sought_right" 5 f__law_q_sought_right (.cons (.var 6) (.cons (.var 15) (.cons (.var 18) (.cons (.var 11) (.cons (.call "_law_q_pick" 2 f__law_q_pick (.cons (.var 1) (.cons (.lst false (.cons (.var 11) (.cons (.var 3) .nil))) .nil))) .nil))))))))
      ir_law_17
      .nil
    ir_law_18)
def ir_law_14 : IB :=
  (.ifs (.not (.val (.call "_law_q_dealt_right" 3 f__law_q_dealt_right (.cons (.var 6) (.cons (.var 15) (.cons (.var 18) .nil))))))
      ir_law_15
      .nil
    ir_law_16)
def ir_law_13 : IB :=
  (.cons (.par2 18 19 (.lst false (.cons (.var 7) (.cons (.str "count") (.cons (.str "index") (.cons (.str "index") (.cons (.str "index") .nil)))))) (.bi .repr false (.cons (.var 6) .nil)))
    ir_law_14)
def ir_law_12 : IB :=
  (.cons (.set (.name 7) (.ife (.cmp .Eq (.var 17) (.str "axes")) (.str "axes") (.str "hands")))
    ir_law_13)
def ir_law_11 : IB :=
  (.cons (.set (.name 6) (.lc false [("_law_k", 20)] (.name 20) (.range1 (.int 5)) .none (.ife (.val (.ix (.var 15) (.var 20))) (.ix (.var 4) (.var 20)) (.ix (.var 14) (.var 20)))))
    ir_law_12)
def ir_law_9 : IB :=
  (.for_ (.name 5) (.seq (.lst false (.cons (.bin .Add false (.var 13) (.int 1)) (.cons (.var 9) (.cons (.var 10) .nil)))))
      ir_law_10
    ir_law_11)
def ir_law_8 : IB :=
  (.cons (.set (.name 4) (.lst true (.cons (.var 16) (.cons (.call "_law_q_pick" 2 f__law_q_pick (.cons (.var 1) (.cons (.lst false (.cons (.neg (.int 1)) (.cons (.bin .Add false (.bin .Pow false (.int 10) (.int 40)) (.int 1)) (.cons (.bl true) (.cons .non (.cons (.str "1") .nil)))))) .nil))) .nil))))
    ir_law_9)
def ir_law_7 : IB :=
  (.cons (.set (.tup (.cons (.name 16) (.cons (.name 17) .nil))) (.call "_law_q_bad_hands" 1 f__law_q_bad_hands (.cons (.var 1) .nil)))
    ir_law_8)
def ir_law_6 : IB :=
  (.cons (.set (.name 3) (.call "_law_q_pick" 2 f__law_q_pick (.cons (.var 1) (.cons (.lst false (.cons (.neg (.int 1)) (.cons (.bl true) (.cons (.bl false) (.cons .non (.cons (.str "0") (.cons (.tup (.cons (.int 0) .nil)) (.cons (.bin .Pow false (.int 10) (.int 50)) .nil)))))))) .nil))))
    ir_law_7)
def ir_law_5 : IB :=
  (.cons (.set (.tup (.cons (.name 14) (.cons (.name 15) .nil))) (.tup (.cons (.lst false (.cons (.var 12) (.cons (.var 11) (.cons (.var 13) (.cons (.bin .Sub false (.var 9) (.int 1)) (.cons (.bin .Sub false (.var 10) (.int 1)) .nil)))))) (.cons (.lc false [("_law_k", 20)] (.name 20) (.range1 (.int 5)) .none (.tst (.cmp .Eq (.call "_law_take" 2 f__law_take (.cons (.var 1) (.cons (.int 4) .nil))) (.int 0)))) .nil))))
    ir_law_6)
def ir_law_4 : IB :=
  (.cons (.set (.tup (.cons (.name 12) (.cons (.name 13) .nil))) (.tup (.cons (.lst false (.cons (.lst false (.cons (.tup (.cons (.var 9) (.cons (.var 10) .nil))) .nil)) (.cons (.lst false (.cons (.tup (.cons (.var 10) (.cons (.int 1) .nil))) .nil)) .nil))) (.cons (.bin .FloorDiv false (.bin .Sub false (.var 11) (.int 1)) (.bin .Mult false (.var 9) (.var 10))) .nil))))
    ir_law_5)
def ir_law_3 : IB :=
  (.cons (.par3 9 10 11 (.bin .Add false (.int 1) (.call "_law_take" 2 f__law_take (.cons (.var 1) (.cons (.int 5) .nil)))) (.bin .Add false (.int 1) (.call "_law_take" 2 f__law_take (.cons (.var 1) (.cons (.int 5) .nil)))) (.bin .Add false (.int 1) (.call "_law_take" 2 f__law_take (.cons (.var 1) (.cons (.int 60) .nil)))))
    ir_law_4)
def ir_law_25 : IB :=
  (.cons (.ret (.bl true))
  .nil)
def ir_law_2 : IB :=
  (.for_ (.name 2) (.range1 (.int 6))
    ir_law_3
  ir_law_25)
def ir_law_1 : IB :=
  (.cons (.set (.name 1) (.call "_law_open" 1 f__law_open (.cons (.var 0) .nil)))
  ir_law_2)
def ir_law : IB :=
  ir_law_1
def f_law : Fn := fnD N_law ir_law
def d__law_open : He.DefD := ⟨("_law_open", none), "_law_open", "_law_open", defArgs (top 49), defBody (top 49), defScope (top 49), [], []⟩
def d__law_spread : He.DefD := ⟨("_law_spread", none), "_law_spread", "_law_spread", defArgs (top 48), defBody (top 48), defScope (top 48), [], []⟩
def d__law_take : He.DefD := ⟨("_law_take", none), "_law_take", "_law_take", defArgs (top 50), defBody (top 50), defScope (top 50), [], []⟩
def d__law_q_pick : He.DefD := ⟨("_law_q_pick", none), "_law_q_pick", "_law_q_pick", defArgs (top 51), defBody (top 51), defScope (top 51), [], []⟩
def d__law_q_bad_hands : He.DefD := ⟨("_law_q_bad_hands", none), "_law_q_bad_hands", "_law_q_bad_hands", defArgs (top 53), defBody (top 53), defScope (top 53), [], []⟩
def d__law_q_word : He.DefD := ⟨("_law_q_word", none), "_law_q_word", "_law_q_word", defArgs (top 52), defBody (top 52), defScope (top 52), [], []⟩
def d_modes_of : He.DefD := ⟨("modes_of", none), "modes_of", "modes_of", defArgs (top 14), defBody (top 14), defScope (top 14), [], []⟩
def d_is_integer : He.DefD := ⟨("is_integer", none), "is_integer", "is_integer", defArgs (top 12), defBody (top 12), defScope (top 12), [], []⟩
def d_is_mode : He.DefD := ⟨("is_mode", none), "is_mode", "is_mode", defArgs (top 13), defBody (top 13), defScope (top 13), [], []⟩
def d_raw_size : He.DefD := ⟨("raw_size", none), "raw_size", "raw_size", defArgs (top 15), defBody (top 15), defScope (top 15), [], []⟩
def d_is_axes : He.DefD := ⟨("is_axes", none), "is_axes", "is_axes", defArgs (top 16), defBody (top 16), defScope (top 16), [], []⟩
def d_need_axes : He.DefD := ⟨("need_axes", none), "need_axes", "need_axes", defArgs (top 17), defBody (top 17), defScope (top 17), [], []⟩
def d_raw_reach : He.DefD := ⟨("raw_reach", none), "raw_reach", "raw_reach", defArgs (top 19), defBody (top 19), defScope (top 19), [], []⟩
def d_chain_of : He.DefD := ⟨("chain_of", none), "chain_of", "chain_of", defArgs (top 23), defBody (top 23), defScope (top 23), [], []⟩
def d_holding_of : He.DefD := ⟨("holding_of", none), "holding_of", "holding_of", defArgs (top 34), defBody (top 34), defScope (top 34), [], []⟩
def d_does_hold_all : He.DefD := ⟨("does_hold_all", none), "does_hold_all", "does_hold_all", defArgs (top 35), defBody (top 35), defScope (top 35), [], []⟩
def d_need_hands : He.DefD := ⟨("need_hands", none), "need_hands", "need_hands", defArgs (top 36), defBody (top 36), defScope (top 36), [], []⟩
def d_need_work : He.DefD := ⟨("need_work", none), "need_work", "need_work", defArgs (top 37), defBody (top 37), defScope (top 37), [], []⟩
def d_need_below : He.DefD := ⟨("need_below", none), "need_below", "need_below", defArgs (top 38), defBody (top 38), defScope (top 38), [], []⟩
def d_raw_rounds : He.DefD := ⟨("raw_rounds", none), "raw_rounds", "raw_rounds", defArgs (top 39), defBody (top 39), defScope (top 39), [], []⟩
def d_workers_of : He.DefD := ⟨("workers_of", none), "workers_of", "workers_of", defArgs (top 32), defBody (top 32), defScope (top 32), [], []⟩
def d_raw_value : He.DefD := ⟨("raw_value", none), "raw_value", "raw_value", defArgs (top 18), defBody (top 18), defScope (top 18), [], []⟩
def d_element_of : He.DefD := ⟨("element_of", none), "element_of", "element_of", defArgs (top 44), defBody (top 44), defScope (top 44), [], []⟩
def d_rows_for : He.DefD := ⟨("rows_for", none), "rows_for", "rows_for", defArgs (top 40), defBody (top 40), defScope (top 40), [], []⟩
def d_held_below : He.DefD := ⟨("held_below", none), "held_below", "held_below", defArgs (top 41), defBody (top 41), defScope (top 41), [], []⟩
def d_share_of : He.DefD := ⟨("share_of", none), "share_of", "share_of", defArgs (top 46), defBody (top 46), defScope (top 46), [], []⟩
def d_rounds_of : He.DefD := ⟨("rounds_of", none), "rounds_of", "rounds_of", defArgs (top 43), defBody (top 43), defScope (top 43), [], []⟩
def d__law_q_dealt_right : He.DefD := ⟨("_law_q_dealt_right", none), "_law_q_dealt_right", "_law_q_dealt_right", defArgs (top 54), defBody (top 54), defScope (top 54), [], []⟩
def d_last_end : He.DefD := ⟨("last_end", none), "last_end", "last_end", defArgs (top 24), defBody (top 24), defScope (top 24), [], []⟩
def d_split_of : He.DefD := ⟨("split_of", none), "split_of", "split_of", defArgs (top 26), defBody (top 26), defScope (top 26), [], []⟩
def d_certificate_for : He.DefD := ⟨("certificate_for", none), "certificate_for", "certificate_for", defArgs (top 27), defBody (top 27), defScope (top 27), [], []⟩
def d_certificate_against : He.DefD := ⟨("certificate_against", none), "certificate_against", "certificate_against", defArgs (top 28), defBody (top 28), defScope (top 28), [], []⟩
def d_sound_rows : He.DefD := ⟨("sound_rows", none), "sound_rows", "sound_rows", defArgs (top 25), defBody (top 25), defScope (top 25), [], []⟩
def d_sound_chain : He.DefD := ⟨("sound_chain", none), "sound_chain", "sound_chain", defArgs (top 29), defBody (top 29), defScope (top 29), [], []⟩
def d_short_axis : He.DefD := ⟨("short_axis", none), "short_axis", "short_axis", defArgs (top 21), defBody (top 21), defScope (top 21), [], []⟩
def d_raw_back : He.DefD := ⟨("raw_back", none), "raw_back", "raw_back", defArgs (top 30), defBody (top 30), defScope (top 30), [], []⟩
def d_where_is : He.DefD := ⟨("where_is", none), "where_is", "where_is", defArgs (top 45), defBody (top 45), defScope (top 45), [], []⟩
def d__law_q_sought_right : He.DefD := ⟨("_law_q_sought_right", none), "_law_q_sought_right", "_law_q_sought_right", defArgs (top 55), defBody (top 55), defScope (top 55), [], []⟩
def d_need_pair : He.DefD := ⟨("need_pair", none), "need_pair", "need_pair", defArgs (top 33), defBody (top 33), defScope (top 33), [], []⟩
def d_holding : He.DefD := ⟨("holding", none), "holding", "holding", defArgs (top 42), defBody (top 42), defScope (top 42), [], []⟩
def d_law : He.DefD := ⟨("law", none), "law", "law", defArgs (top 56), defBody (top 56), defScope (top 56), [], []⟩
def fn : List He.DefD := [d__law_open, d__law_spread, d__law_take, d__law_q_pick, d__law_q_bad_hands, d__law_q_word, d_modes_of, d_is_integer, d_is_mode, d_raw_size, d_is_axes, d_need_axes, d_raw_reach, d_chain_of, d_holding_of, d_does_hold_all, d_need_hands, d_need_work, d_need_below, d_raw_rounds, d_workers_of, d_raw_value, d_element_of, d_rows_for, d_held_below, d_share_of, d_rounds_of, d__law_q_dealt_right, d_last_end, d_split_of, d_certificate_for, d_certificate_against, d_sound_rows, d_sound_chain, d_short_axis, d_raw_back, d_where_is, d__law_q_sought_right, d_need_pair, d_holding, d_law]
def fa : List He.Fa := biNames.map He.Fa.free ++ [.glo "_law_open", .glo "_law_spread", .glo "_law_take", .glo "_law_q_pick", .glo "_law_q_bad_hands", .glo "_law_q_word", .glo "modes_of", .glo "is_integer", .glo "is_mode", .glo "raw_size", .glo "is_axes", .glo "need_axes", .glo "raw_reach", .glo "chain_of", .glo "holding_of", .glo "does_hold_all", .glo "need_hands", .glo "need_work", .glo "need_below", .glo "raw_rounds", .glo "workers_of", .glo "raw_value", .glo "element_of", .glo "rows_for", .glo "held_below", .glo "share_of", .glo "rounds_of", .glo "_law_q_dealt_right", .glo "last_end", .glo "split_of", .glo "certificate_for", .glo "certificate_against", .glo "sound_rows", .glo "sound_chain", .glo "short_axis", .glo "raw_back", .glo "where_is", .glo "_law_q_sought_right", .glo "need_pair", .glo "holding", .glo "law", .glo "FoldError", .exm "FoldError" "FoldError" true, .exm "NoAxes" "FoldError" true, .exm "NoIndex" "FoldError" true, .exm "NoCount" "FoldError" true, .exm "NoHands" "FoldError" true, .exm "NoRest" "FoldError" true, .glo "NoAxes", .glo "NoHands", .glo "NoCount", .glo "NoIndex", .free "ValueError", .int "MOST_SIZE" 10000000000000000000000000000000000000000, .int "MOST_STRIDE" 1000000000000000000000000000000000000000000000000000000000000, .int "MOST_AXES" 8, .int "MOST_MODES" 200, .exc "NoAxes", .exc "NoHands", .exc "NoCount", .exc "NoIndex"]
def xf : List XF := [.nonx "NoAxes", .kitx "NoAxes" "FoldError" false, .kitx "NoAxes" "NoAxes" true, .kitx "NoAxes" "NoIndex" false, .kitx "NoAxes" "NoCount" false, .kitx "NoAxes" "NoHands" false, .kitx "NoAxes" "NoRest" false, .nonx "NoHands", .kitx "NoHands" "FoldError" false, .kitx "NoHands" "NoAxes" false, .kitx "NoHands" "NoIndex" false, .kitx "NoHands" "NoCount" false, .kitx "NoHands" "NoHands" true, .kitx "NoHands" "NoRest" false, .nonx "NoCount", .kitx "NoCount" "FoldError" false, .kitx "NoCount" "NoAxes" false, .kitx "NoCount" "NoIndex" false, .kitx "NoCount" "NoCount" true, .kitx "NoCount" "NoHands" false, .kitx "NoCount" "NoRest" false, .nonx "NoIndex", .kitx "NoIndex" "FoldError" false, .kitx "NoIndex" "NoAxes" false, .kitx "NoIndex" "NoIndex" true, .kitx "NoIndex" "NoCount" false, .kitx "NoIndex" "NoHands" false, .kitx "NoIndex" "NoRest" false, .nonb "ValueError", .kitb "ValueError" "FoldError" true, .kitb "ValueError" "NoAxes" true, .kitb "ValueError" "NoIndex" true, .kitb "ValueError" "NoCount" true, .kitb "ValueError" "NoHands" true, .kitb "ValueError" "NoRest" true]
end
end K84

namespace K84
open PySem PySem.Spec L2 DV PF Mix
/-- an error of a class, with nothing more -/
abbrev exn (c : Str) : Ex := ⟨c, [], []⟩
theorem look_at {a : Str} {b : Bool} {l : List (Str × Bool)} {c : Str} (h : (c == a) = true) : List.lookup c ((a, b) :: l) = some b := by
  rw [List.lookup_cons, h]
theorem look_ne {a : Str} {b : Bool} {l : List (Str × Bool)} {c : Str} (h : (c == a) = false) : List.lookup c ((a, b) :: l) = List.lookup c l := by
  rw [List.lookup_cons, h]
theorem word_fine {T : Sto → R D} {s : Sto} {d : D} (h : T s = .ok d s) : f__law_q_word T s = .ok (.str "fine") s := by
  refine fnT_of fun t => ?_
  have e : fnSem N__law_q_word (ir__law_q_word (onlyT t T)) s [.fnv t] = .ok (.str "fine") s := by
    simp [b_nil, b_cons, b_ifs, b_for, b_while, semS, e_lc, e_lc2, e_var, e_int, e_bl, e_non, e_str, e_glob, e_bin, e_neg, e_tst, e_ife, e_tup, e_lst, e_ix, e_slc, e_rev, e_call, e_callK, permL, e_bi, e_isi, e_meth, e_fz, e_fzl, e_sortK, e_isx, e_isb, e_fld, e_callT, e_emp, b_try, isxSem, fldSem, actSem, actOut, catchO, onlyT_at, semEs, semT, semAnd, semOr, semO, semC, semI, R.bind_ok, R.bind_ex, R.bind_bad, R.out_ok, R.out_ex, R.out_bad, thn_nx, thn_ret, thn_brk, thn_ct, thn_ex, thn_bad, val_nx, val_ret, val_ex, tgSem, tgsSem, binSem, addSem, augSem, ixSem, seqOf, lstOf, lstT, newL, cmpSem, cmpInts, cmpI, eqD_int, DV.isNon, biSem, biLen, biInt, biList, biTuple, biTwo, isi_ii, isi_ib, isi_il, isi_it, isi_ll, isi_li, isi_lt, isi_tt, isi_tl, isi_ti, itemsOf, litOf, at0, at1, at2, ix30, ix31, ix32, sl0, sl1, sl2, sl3, sl4, sl5, sl6, sl7, sl8, sl9, sl10, sl11, sl12, sl13, sl14, fnSem, startE, wipeE, N__law_q_word, ir__law_q_word, h, DV.isNon]
  rw [e]
  exact dropJ_id (by rw [bnd])
theorem word_axes {T : Sto → R D} {s : Sto} (h : T s = .ex (exn "NoAxes") s) : f__law_q_word T s = .ok (.str "axes") s := by
  refine fnT_of fun t => ?_
  have q : ∀ (a b c d e f : Bool), List.lookup ("NoAxes" : Str) [(("FoldError" : Str), a), ("NoAxes", b), ("NoIndex", c), ("NoCount", d), ("NoHands", e), ("NoRest", f)] = some b := fun a b c d e f => by
    first
    | rw [look_ne (by decide +kernel), look_at (by decide +kernel)]
    | rw [look_ne (by decide +kernel), look_ne (by decide +kernel), look_at (by decide +kernel)]
    | rw [look_ne (by decide +kernel), look_ne (by decide +kernel), look_ne (by decide +kernel), look_at (by decide +kernel)]
    | rw [look_ne (by decide +kernel), look_ne (by decide +kernel), look_ne (by decide +kernel), look_ne (by decide +kernel), look_at (by decide +kernel)]
  have g : ∀ c : Cell, (s ++ [c])[s.length]? = some c := cell_last s
  have g2 : ∀ c c' : Cell, (s ++ [c]).set s.length c' = s ++ [c'] := set_last s
  have a3 : ∀ a b c d : D, atI [a, b, c, d] 3 = some d := fun _ _ _ _ => rfl
  have hs : (3 : Nat) < sizeLine := by decide
  have p1 : (pureAll [.bl true, .bl false, .bl false, .bl false] = true ∧ DV.pure (.bl true) = true) ∧ SeqAt.shaped (.list (toPyAll [.bl true, .bl false, .bl false, .bl false])) = true ∧ SeqAt.shaped (toPy (.bl true)) = true := by decide +kernel
  have p2 : ((toPyAll [.bl true, .bl false, .bl false, .bl false]).countP fun z => PyData.eqv z (toPy (.bl true))) = 1 := by decide +kernel
  have p3 : findD (toPy (.bl true)) (toPyAll [.bl true, .bl false, .bl false, .bl false]) 0 = some 0 := by decide +kernel
  have m1 : meCountD (.obj s.length) [.bl true] (s ++ [.lst [.bl true, .bl false, .bl false, .bl false]]) = .ok (.int 1) (s ++ [.lst [.bl true, .bl false, .bl false, .bl false]]) := by
    unfold meCountD
    simp only [lstOf, g]
    rw [if_pos p1, p2]
    rfl
  have m2 : meIndex (.obj s.length) [.bl true] (s ++ [.lst [.bl true, .bl false, .bl false, .bl false]]) = .ok (.int 0) (s ++ [.lst [.bl true, .bl false, .bl false, .bl false]]) := by
    unfold meIndex
    simp only [lstOf, g]
    rw [if_pos p1, p3]
    rfl
  have e : fnSem N__law_q_word (ir__law_q_word (onlyT t T)) s [.fnv t] = .ok (.str "axes") (s ++ [.lst [.bl true, .bl false, .bl false, .bl false]]) := by
    simp [b_nil, b_cons, b_ifs, b_for, b_while, semS, e_lc, e_lc2, e_var, e_int, e_bl, e_non, e_str, e_glob, e_bin, e_neg, e_tst, e_ife, e_tup, e_lst, e_ix, e_slc, e_rev, e_call, e_callK, permL, e_bi, e_isi, e_meth, e_fz, e_fzl, e_sortK, e_isx, e_isb, e_fld, e_callT, e_emp, b_try, isxSem, fldSem, actSem, actOut, catchO, onlyT_at, semEs, semT, semAnd, semOr, semO, semC, semI, R.bind_ok, R.bind_ex, R.bind_bad, R.out_ok, R.out_ex, R.out_bad, thn_nx, thn_ret, thn_brk, thn_ct, thn_ex, thn_bad, val_nx, val_ret, val_ex, tgSem, tgsSem, binSem, addSem, augSem, ixSem, seqOf, lstOf, lstT, newL, cmpSem, cmpInts, cmpI, eqD_int, DV.isNon, biSem, biLen, biInt, biList, biTuple, biTwo, isi_ii, isi_ib, isi_il, isi_it, isi_ll, isi_li, isi_lt, isi_tt, isi_tl, isi_ti, itemsOf, litOf, at0, at1, at2, ix30, ix31, ix32, sl0, sl1, sl2, sl3, sl4, sl5, sl6, sl7, sl8, sl9, sl10, sl11, sl12, sl13, sl14, fnSem, startE, wipeE, N__law_q_word, ir__law_q_word, h, DV.isNon, q, meSem, meAppend, g, g2, hs, m1, m2, a3]
  rw [e]
  exact dropJ_same (by rw [bnd])
theorem word_hands {T : Sto → R D} {s : Sto} (h : T s = .ex (exn "NoHands") s) : f__law_q_word T s = .ok (.str "hands") s := by
  refine fnT_of fun t => ?_
  have q : ∀ (a b c d e f : Bool), List.lookup ("NoHands" : Str) [(("FoldError" : Str), a), ("NoAxes", b), ("NoIndex", c), ("NoCount", d), ("NoHands", e), ("NoRest", f)] = some e := fun a b c d e f => by
    first
    | rw [look_ne (by decide +kernel), look_at (by decide +kernel)]
    | rw [look_ne (by decide +kernel), look_ne (by decide +kernel), look_at (by decide +kernel)]
    | rw [look_ne (by decide +kernel), look_ne (by decide +kernel), look_ne (by decide +kernel), look_at (by decide +kernel)]
    | rw [look_ne (by decide +kernel), look_ne (by decide +kernel), look_ne (by decide +kernel), look_ne (by decide +kernel), look_at (by decide +kernel)]
  have g : ∀ c : Cell, (s ++ [c])[s.length]? = some c := cell_last s
  have g2 : ∀ c c' : Cell, (s ++ [c]).set s.length c' = s ++ [c'] := set_last s
  have a3 : ∀ a b c d : D, atI [a, b, c, d] 3 = some d := fun _ _ _ _ => rfl
  have hs : (3 : Nat) < sizeLine := by decide
  have p1 : (pureAll [.bl false, .bl true, .bl false, .bl false] = true ∧ DV.pure (.bl true) = true) ∧ SeqAt.shaped (.list (toPyAll [.bl false, .bl true, .bl false, .bl false])) = true ∧ SeqAt.shaped (toPy (.bl true)) = true := by decide +kernel
  have p2 : ((toPyAll [.bl false, .bl true, .bl false, .bl false]).countP fun z => PyData.eqv z (toPy (.bl true))) = 1 := by decide +kernel
  have p3 : findD (toPy (.bl true)) (toPyAll [.bl false, .bl true, .bl false, .bl false]) 0 = some 1 := by decide +kernel
  have m1 : meCountD (.obj s.length) [.bl true] (s ++ [.lst [.bl false, .bl true, .bl false, .bl false]]) = .ok (.int 1) (s ++ [.lst [.bl false, .bl true, .bl false, .bl false]]) := by
    unfold meCountD
    simp only [lstOf, g]
    rw [if_pos p1, p2]
    rfl
  have m2 : meIndex (.obj s.length) [.bl true] (s ++ [.lst [.bl false, .bl true, .bl false, .bl false]]) = .ok (.int 1) (s ++ [.lst [.bl false, .bl true, .bl false, .bl false]]) := by
    unfold meIndex
    simp only [lstOf, g]
    rw [if_pos p1, p3]
    rfl
  have e : fnSem N__law_q_word (ir__law_q_word (onlyT t T)) s [.fnv t] = .ok (.str "hands") (s ++ [.lst [.bl false, .bl true, .bl false, .bl false]]) := by
    simp [b_nil, b_cons, b_ifs, b_for, b_while, semS, e_lc, e_lc2, e_var, e_int, e_bl, e_non, e_str, e_glob, e_bin, e_neg, e_tst, e_ife, e_tup, e_lst, e_ix, e_slc, e_rev, e_call, e_callK, permL, e_bi, e_isi, e_meth, e_fz, e_fzl, e_sortK, e_isx, e_isb, e_fld, e_callT, e_emp, b_try, isxSem, fldSem, actSem, actOut, catchO, onlyT_at, semEs, semT, semAnd, semOr, semO, semC, semI, R.bind_ok, R.bind_ex, R.bind_bad, R.out_ok, R.out_ex, R.out_bad, thn_nx, thn_ret, thn_brk, thn_ct, thn_ex, thn_bad, val_nx, val_ret, val_ex, tgSem, tgsSem, binSem, addSem, augSem, ixSem, seqOf, lstOf, lstT, newL, cmpSem, cmpInts, cmpI, eqD_int, DV.isNon, biSem, biLen, biInt, biList, biTuple, biTwo, isi_ii, isi_ib, isi_il, isi_it, isi_ll, isi_li, isi_lt, isi_tt, isi_tl, isi_ti, itemsOf, litOf, at0, at1, at2, ix30, ix31, ix32, sl0, sl1, sl2, sl3, sl4, sl5, sl6, sl7, sl8, sl9, sl10, sl11, sl12, sl13, sl14, fnSem, startE, wipeE, N__law_q_word, ir__law_q_word, h, DV.isNon, q, meSem, meAppend, g, g2, hs, m1, m2, a3]
  rw [e]
  exact dropJ_same (by rw [bnd])
theorem word_count {T : Sto → R D} {s : Sto} (h : T s = .ex (exn "NoCount") s) : f__law_q_word T s = .ok (.str "count") s := by
  refine fnT_of fun t => ?_
  have q : ∀ (a b c d e f : Bool), List.lookup ("NoCount" : Str) [(("FoldError" : Str), a), ("NoAxes", b), ("NoIndex", c), ("NoCount", d), ("NoHands", e), ("NoRest", f)] = some d := fun a b c d e f => by
    first
    | rw [look_ne (by decide +kernel), look_at (by decide +kernel)]
    | rw [look_ne (by decide +kernel), look_ne (by decide +kernel), look_at (by decide +kernel)]
    | rw [look_ne (by decide +kernel), look_ne (by decide +kernel), look_ne (by decide +kernel), look_at (by decide +kernel)]
    | rw [look_ne (by decide +kernel), look_ne (by decide +kernel), look_ne (by decide +kernel), look_ne (by decide +kernel), look_at (by decide +kernel)]
  have g : ∀ c : Cell, (s ++ [c])[s.length]? = some c := cell_last s
  have g2 : ∀ c c' : Cell, (s ++ [c]).set s.length c' = s ++ [c'] := set_last s
  have a3 : ∀ a b c d : D, atI [a, b, c, d] 3 = some d := fun _ _ _ _ => rfl
  have hs : (3 : Nat) < sizeLine := by decide
  have p1 : (pureAll [.bl false, .bl false, .bl true, .bl false] = true ∧ DV.pure (.bl true) = true) ∧ SeqAt.shaped (.list (toPyAll [.bl false, .bl false, .bl true, .bl false])) = true ∧ SeqAt.shaped (toPy (.bl true)) = true := by decide +kernel
  have p2 : ((toPyAll [.bl false, .bl false, .bl true, .bl false]).countP fun z => PyData.eqv z (toPy (.bl true))) = 1 := by decide +kernel
  have p3 : findD (toPy (.bl true)) (toPyAll [.bl false, .bl false, .bl true, .bl false]) 0 = some 2 := by decide +kernel
  have m1 : meCountD (.obj s.length) [.bl true] (s ++ [.lst [.bl false, .bl false, .bl true, .bl false]]) = .ok (.int 1) (s ++ [.lst [.bl false, .bl false, .bl true, .bl false]]) := by
    unfold meCountD
    simp only [lstOf, g]
    rw [if_pos p1, p2]
    rfl
  have m2 : meIndex (.obj s.length) [.bl true] (s ++ [.lst [.bl false, .bl false, .bl true, .bl false]]) = .ok (.int 2) (s ++ [.lst [.bl false, .bl false, .bl true, .bl false]]) := by
    unfold meIndex
    simp only [lstOf, g]
    rw [if_pos p1, p3]
    rfl
  have e : fnSem N__law_q_word (ir__law_q_word (onlyT t T)) s [.fnv t] = .ok (.str "count") (s ++ [.lst [.bl false, .bl false, .bl true, .bl false]]) := by
    simp [b_nil, b_cons, b_ifs, b_for, b_while, semS, e_lc, e_lc2, e_var, e_int, e_bl, e_non, e_str, e_glob, e_bin, e_neg, e_tst, e_ife, e_tup, e_lst, e_ix, e_slc, e_rev, e_call, e_callK, permL, e_bi, e_isi, e_meth, e_fz, e_fzl, e_sortK, e_isx, e_isb, e_fld, e_callT, e_emp, b_try, isxSem, fldSem, actSem, actOut, catchO, onlyT_at, semEs, semT, semAnd, semOr, semO, semC, semI, R.bind_ok, R.bind_ex, R.bind_bad, R.out_ok, R.out_ex, R.out_bad, thn_nx, thn_ret, thn_brk, thn_ct, thn_ex, thn_bad, val_nx, val_ret, val_ex, tgSem, tgsSem, binSem, addSem, augSem, ixSem, seqOf, lstOf, lstT, newL, cmpSem, cmpInts, cmpI, eqD_int, DV.isNon, biSem, biLen, biInt, biList, biTuple, biTwo, isi_ii, isi_ib, isi_il, isi_it, isi_ll, isi_li, isi_lt, isi_tt, isi_tl, isi_ti, itemsOf, litOf, at0, at1, at2, ix30, ix31, ix32, sl0, sl1, sl2, sl3, sl4, sl5, sl6, sl7, sl8, sl9, sl10, sl11, sl12, sl13, sl14, fnSem, startE, wipeE, N__law_q_word, ir__law_q_word, h, DV.isNon, q, meSem, meAppend, g, g2, hs, m1, m2, a3]
  rw [e]
  exact dropJ_same (by rw [bnd])
theorem word_index {T : Sto → R D} {s : Sto} (h : T s = .ex (exn "NoIndex") s) : f__law_q_word T s = .ok (.str "index") s := by
  refine fnT_of fun t => ?_
  have q : ∀ (a b c d e f : Bool), List.lookup ("NoIndex" : Str) [(("FoldError" : Str), a), ("NoAxes", b), ("NoIndex", c), ("NoCount", d), ("NoHands", e), ("NoRest", f)] = some c := fun a b c d e f => by
    first
    | rw [look_ne (by decide +kernel), look_at (by decide +kernel)]
    | rw [look_ne (by decide +kernel), look_ne (by decide +kernel), look_at (by decide +kernel)]
    | rw [look_ne (by decide +kernel), look_ne (by decide +kernel), look_ne (by decide +kernel), look_at (by decide +kernel)]
    | rw [look_ne (by decide +kernel), look_ne (by decide +kernel), look_ne (by decide +kernel), look_ne (by decide +kernel), look_at (by decide +kernel)]
  have g : ∀ c : Cell, (s ++ [c])[s.length]? = some c := cell_last s
  have g2 : ∀ c c' : Cell, (s ++ [c]).set s.length c' = s ++ [c'] := set_last s
  have a3 : ∀ a b c d : D, atI [a, b, c, d] 3 = some d := fun _ _ _ _ => rfl
  have hs : (3 : Nat) < sizeLine := by decide
  have p1 : (pureAll [.bl false, .bl false, .bl false, .bl true] = true ∧ DV.pure (.bl true) = true) ∧ SeqAt.shaped (.list (toPyAll [.bl false, .bl false, .bl false, .bl true])) = true ∧ SeqAt.shaped (toPy (.bl true)) = true := by decide +kernel
  have p2 : ((toPyAll [.bl false, .bl false, .bl false, .bl true]).countP fun z => PyData.eqv z (toPy (.bl true))) = 1 := by decide +kernel
  have p3 : findD (toPy (.bl true)) (toPyAll [.bl false, .bl false, .bl false, .bl true]) 0 = some 3 := by decide +kernel
  have m1 : meCountD (.obj s.length) [.bl true] (s ++ [.lst [.bl false, .bl false, .bl false, .bl true]]) = .ok (.int 1) (s ++ [.lst [.bl false, .bl false, .bl false, .bl true]]) := by
    unfold meCountD
    simp only [lstOf, g]
    rw [if_pos p1, p2]
    rfl
  have m2 : meIndex (.obj s.length) [.bl true] (s ++ [.lst [.bl false, .bl false, .bl false, .bl true]]) = .ok (.int 3) (s ++ [.lst [.bl false, .bl false, .bl false, .bl true]]) := by
    unfold meIndex
    simp only [lstOf, g]
    rw [if_pos p1, p3]
    rfl
  have e : fnSem N__law_q_word (ir__law_q_word (onlyT t T)) s [.fnv t] = .ok (.str "index") (s ++ [.lst [.bl false, .bl false, .bl false, .bl true]]) := by
    simp [b_nil, b_cons, b_ifs, b_for, b_while, semS, e_lc, e_lc2, e_var, e_int, e_bl, e_non, e_str, e_glob, e_bin, e_neg, e_tst, e_ife, e_tup, e_lst, e_ix, e_slc, e_rev, e_call, e_callK, permL, e_bi, e_isi, e_meth, e_fz, e_fzl, e_sortK, e_isx, e_isb, e_fld, e_callT, e_emp, b_try, isxSem, fldSem, actSem, actOut, catchO, onlyT_at, semEs, semT, semAnd, semOr, semO, semC, semI, R.bind_ok, R.bind_ex, R.bind_bad, R.out_ok, R.out_ex, R.out_bad, thn_nx, thn_ret, thn_brk, thn_ct, thn_ex, thn_bad, val_nx, val_ret, val_ex, tgSem, tgsSem, binSem, addSem, augSem, ixSem, seqOf, lstOf, lstT, newL, cmpSem, cmpInts, cmpI, eqD_int, DV.isNon, biSem, biLen, biInt, biList, biTuple, biTwo, isi_ii, isi_ib, isi_il, isi_it, isi_ll, isi_li, isi_lt, isi_tt, isi_tl, isi_ti, itemsOf, litOf, at0, at1, at2, ix30, ix31, ix32, sl0, sl1, sl2, sl3, sl4, sl5, sl6, sl7, sl8, sl9, sl10, sl11, sl12, sl13, sl14, fnSem, startE, wipeE, N__law_q_word, ir__law_q_word, h, DV.isNon, q, meSem, meAppend, g, g2, hs, m1, m2, a3]
  rw [e]
  exact dropJ_same (by rw [bnd])
end K84

namespace K84
open PySem PySem.Spec L2 DV PF Mix
section
variable {s : Sto}
theorem isi_bi {b : Bool} : isiSem (.bl b) "int" s = .ok (.bl true) s := by simp only [isiSem, res, typD, Option.bind_some, show kitB "bool" "int" = some true from by decide +kernel]
theorem isi_bb {b : Bool} : isiSem (.bl b) "bool" s = .ok (.bl true) s := by simp only [isiSem, res, typD, Option.bind_some, show kitB "bool" "bool" = some true from by decide +kernel]
theorem isi_ni : isiSem .non "int" s = .ok (.bl false) s := by simp only [isiSem, res, typD, Option.bind_some, show kitB "NoneType" "int" = some false from by decide +kernel]
theorem isi_si {x : Str} : isiSem (.str x) "int" s = .ok (.bl false) s := by simp only [isiSem, res, typD, Option.bind_some, show kitB "str" "int" = some false from by decide +kernel]
theorem isi_nl : isiSem .non "list" s = .ok (.bl false) s := by simp only [isiSem, res, typD, Option.bind_some, show kitB "NoneType" "list" = some false from by decide +kernel]
theorem isi_dl {a b : List D} : isiSem (.dic a b) "list" s = .ok (.bl false) s := by simp only [isiSem, res, typD, Option.bind_some, show kitB "dict" "list" = some false from by decide +kernel]
end
/-- no integer within the bounds -/
def badI (d : D) (lo hi : Int) : Prop := ∀ s, f_is_integer s [d, .int lo, .int hi] = .ok (.bl false) s
theorem bad_int {i lo hi : Int} (h : i < lo ∨ hi < i) : badI (.int i) lo hi := fun s => by
  rw [is_integer_int]
  have : (decide (lo ≤ i) && decide (i ≤ hi)) = false := by
    rw [Bool.and_eq_false_iff, decide_eq_false_iff_not, decide_eq_false_iff_not]
    omega
  rw [this]
theorem bad_bl (b : Bool) (lo hi : Int) : badI (.bl b) lo hi := fun s => by
  refine fnD_of ?_ (by rw [bnd])
  simp [b_nil, b_cons, b_ifs, b_for, b_while, semS, e_lc, e_lc2, e_var, e_int, e_bl, e_non, e_str, e_glob, e_bin, e_neg, e_tst, e_ife, e_tup, e_lst, e_ix, e_slc, e_rev, e_call, e_callK, permL, e_bi, e_isi, e_meth, e_fz, e_fzl, e_sortK, e_isx, e_isb, e_fld, e_callT, e_emp, b_try, isxSem, fldSem, actSem, actOut, catchO, onlyT_at, semEs, semT, semAnd, semOr, semO, semC, semI, R.bind_ok, R.bind_ex, R.bind_bad, R.out_ok, R.out_ex, R.out_bad, thn_nx, thn_ret, thn_brk, thn_ct, thn_ex, thn_bad, val_nx, val_ret, val_ex, tgSem, tgsSem, binSem, addSem, augSem, ixSem, seqOf, lstOf, lstT, newL, cmpSem, cmpInts, cmpI, eqD_int, DV.isNon, biSem, biLen, biInt, biList, biTuple, biTwo, isi_ii, isi_ib, isi_il, isi_it, isi_ll, isi_li, isi_lt, isi_tt, isi_tl, isi_ti, itemsOf, litOf, at0, at1, at2, ix30, ix31, ix32, sl0, sl1, sl2, sl3, sl4, sl5, sl6, sl7, sl8, sl9, sl10, sl11, sl12, sl13, sl14, fnSem, startE, wipeE, N_is_integer, ir_is_integer, isi_bi, isi_bb]
theorem bad_non (lo hi : Int) : badI .non lo hi := fun s => by
  refine fnD_of ?_ (by rw [bnd])
  simp [b_nil, b_cons, b_ifs, b_for, b_while, semS, e_lc, e_lc2, e_var, e_int, e_bl, e_non, e_str, e_glob, e_bin, e_neg, e_tst, e_ife, e_tup, e_lst, e_ix, e_slc, e_rev, e_call, e_callK, permL, e_bi, e_isi, e_meth, e_fz, e_fzl, e_sortK, e_isx, e_isb, e_fld, e_callT, e_emp, b_try, isxSem, fldSem, actSem, actOut, catchO, onlyT_at, semEs, semT, semAnd, semOr, semO, semC, semI, R.bind_ok, R.bind_ex, R.bind_bad, R.out_ok, R.out_ex, R.out_bad, thn_nx, thn_ret, thn_brk, thn_ct, thn_ex, thn_bad, val_nx, val_ret, val_ex, tgSem, tgsSem, binSem, addSem, augSem, ixSem, seqOf, lstOf, lstT, newL, cmpSem, cmpInts, cmpI, eqD_int, DV.isNon, biSem, biLen, biInt, biList, biTuple, biTwo, isi_ii, isi_ib, isi_il, isi_it, isi_ll, isi_li, isi_lt, isi_tt, isi_tl, isi_ti, itemsOf, litOf, at0, at1, at2, ix30, ix31, ix32, sl0, sl1, sl2, sl3, sl4, sl5, sl6, sl7, sl8, sl9, sl10, sl11, sl12, sl13, sl14, fnSem, startE, wipeE, N_is_integer, ir_is_integer, isi_ni]
theorem bad_str (x : Str) (lo hi : Int) : badI (.str x) lo hi := fun s => by
  refine fnD_of ?_ (by rw [bnd])
  simp [b_nil, b_cons, b_ifs, b_for, b_while, semS, e_lc, e_lc2, e_var, e_int, e_bl, e_non, e_str, e_glob, e_bin, e_neg, e_tst, e_ife, e_tup, e_lst, e_ix, e_slc, e_rev, e_call, e_callK, permL, e_bi, e_isi, e_meth, e_fz, e_fzl, e_sortK, e_isx, e_isb, e_fld, e_callT, e_emp, b_try, isxSem, fldSem, actSem, actOut, catchO, onlyT_at, semEs, semT, semAnd, semOr, semO, semC, semI, R.bind_ok, R.bind_ex, R.bind_bad, R.out_ok, R.out_ex, R.out_bad, thn_nx, thn_ret, thn_brk, thn_ct, thn_ex, thn_bad, val_nx, val_ret, val_ex, tgSem, tgsSem, binSem, addSem, augSem, ixSem, seqOf, lstOf, lstT, newL, cmpSem, cmpInts, cmpI, eqD_int, DV.isNon, biSem, biLen, biInt, biList, biTuple, biTwo, isi_ii, isi_ib, isi_il, isi_it, isi_ll, isi_li, isi_lt, isi_tt, isi_tl, isi_ti, itemsOf, litOf, at0, at1, at2, ix30, ix31, ix32, sl0, sl1, sl2, sl3, sl4, sl5, sl6, sl7, sl8, sl9, sl10, sl11, sl12, sl13, sl14, fnSem, startE, wipeE, N_is_integer, ir_is_integer, isi_si]
theorem bad_tup (xs : List D) (lo hi : Int) : badI (.tup xs) lo hi := fun s => by
  refine fnD_of ?_ (by rw [bnd])
  simp [b_nil, b_cons, b_ifs, b_for, b_while, semS, e_lc, e_lc2, e_var, e_int, e_bl, e_non, e_str, e_glob, e_bin, e_neg, e_tst, e_ife, e_tup, e_lst, e_ix, e_slc, e_rev, e_call, e_callK, permL, e_bi, e_isi, e_meth, e_fz, e_fzl, e_sortK, e_isx, e_isb, e_fld, e_callT, e_emp, b_try, isxSem, fldSem, actSem, actOut, catchO, onlyT_at, semEs, semT, semAnd, semOr, semO, semC, semI, R.bind_ok, R.bind_ex, R.bind_bad, R.out_ok, R.out_ex, R.out_bad, thn_nx, thn_ret, thn_brk, thn_ct, thn_ex, thn_bad, val_nx, val_ret, val_ex, tgSem, tgsSem, binSem, addSem, augSem, ixSem, seqOf, lstOf, lstT, newL, cmpSem, cmpInts, cmpI, eqD_int, DV.isNon, biSem, biLen, biInt, biList, biTuple, biTwo, isi_ii, isi_ib, isi_il, isi_it, isi_ll, isi_li, isi_lt, isi_tt, isi_tl, isi_ti, itemsOf, litOf, at0, at1, at2, ix30, ix31, ix32, sl0, sl1, sl2, sl3, sl4, sl5, sl6, sl7, sl8, sl9, sl10, sl11, sl12, sl13, sl14, fnSem, startE, wipeE, N_is_integer, ir_is_integer]
/-- what an error leaves -/
theorem dropJ_ex {s : Sto} {c : Str} : dropJ s (.ex (exn c) s) = .ex (exn c) s := by
  unfold dropJ
  dsimp only
  rw [List.take_length]
  split <;> rfl
theorem fnD_ex {N : List Str} {ib : IB} {s : Sto} {ds : List D} {c : Str} (h : fnSem N ib s ds = .ex (exn c) s) : fnD N ib s ds = .ex (exn c) s := by
  unfold fnD
  rw [h, dropJ_ex]
/-- hands that are none: need_hands, holding -/
structure HBad (h : D) (w : Str) (l : R D → Sto → Prop) : Prop where
  need : ∀ s, f_need_hands s [h] = .ex (exn w) s
  hold : ∀ s, l (f_holding s [h]) s
theorem hb_axes {h : D} (e : ∀ s, f_is_axes s [h] = .ok (.bl false) s) : HBad h "NoAxes" fun r s => r = .ex (exn "NoAxes") s := by
  have e1 : ∀ s, f_need_axes s [h] = .ex (exn "NoAxes") s := fun s => fnD_ex (by simp [b_nil, b_cons, b_ifs, b_for, b_while, semS, e_lc, e_lc2, e_var, e_int, e_bl, e_non, e_str, e_glob, e_bin, e_neg, e_tst, e_ife, e_tup, e_lst, e_ix, e_slc, e_rev, e_call, e_callK, permL, e_bi, e_isi, e_meth, e_fz, e_fzl, e_sortK, e_isx, e_isb, e_fld, e_callT, e_emp, b_try, isxSem, fldSem, actSem, actOut, catchO, onlyT_at, semEs, semT, semAnd, semOr, semO, semC, semI, R.bind_ok, R.bind_ex, R.bind_bad, R.out_ok, R.out_ex, R.out_bad, thn_nx, thn_ret, thn_brk, thn_ct, thn_ex, thn_bad, val_nx, val_ret, val_ex, tgSem, tgsSem, binSem, addSem, augSem, ixSem, seqOf, lstOf, lstT, newL, cmpSem, cmpInts, cmpI, eqD_int, DV.isNon, biSem, biLen, biInt, biList, biTuple, biTwo, isi_ii, isi_ib, isi_il, isi_it, isi_ll, isi_li, isi_lt, isi_tt, isi_tl, isi_ti, itemsOf, litOf, at0, at1, at2, ix30, ix31, ix32, sl0, sl1, sl2, sl3, sl4, sl5, sl6, sl7, sl8, sl9, sl10, sl11, sl12, sl13, sl14, fnSem, startE, wipeE, N_need_axes, ir_need_axes, e])
  have e2 : ∀ s, f_need_pair s [h] = .ex (exn "NoAxes") s := fun s => fnD_ex (by simp [b_nil, b_cons, b_ifs, b_for, b_while, semS, e_lc, e_lc2, e_var, e_int, e_bl, e_non, e_str, e_glob, e_bin, e_neg, e_tst, e_ife, e_tup, e_lst, e_ix, e_slc, e_rev, e_call, e_callK, permL, e_bi, e_isi, e_meth, e_fz, e_fzl, e_sortK, e_isx, e_isb, e_fld, e_callT, e_emp, b_try, isxSem, fldSem, actSem, actOut, catchO, onlyT_at, semEs, semT, semAnd, semOr, semO, semC, semI, R.bind_ok, R.bind_ex, R.bind_bad, R.out_ok, R.out_ex, R.out_bad, thn_nx, thn_ret, thn_brk, thn_ct, thn_ex, thn_bad, val_nx, val_ret, val_ex, tgSem, tgsSem, binSem, addSem, augSem, ixSem, seqOf, lstOf, lstT, newL, cmpSem, cmpInts, cmpI, eqD_int, DV.isNon, biSem, biLen, biInt, biList, biTuple, biTwo, isi_ii, isi_ib, isi_il, isi_it, isi_ll, isi_li, isi_lt, isi_tt, isi_tl, isi_ti, itemsOf, litOf, at0, at1, at2, ix30, ix31, ix32, sl0, sl1, sl2, sl3, sl4, sl5, sl6, sl7, sl8, sl9, sl10, sl11, sl12, sl13, sl14, fnSem, startE, wipeE, N_need_pair, ir_need_pair, e1])
  exact ⟨fun s => fnD_ex (by simp [b_nil, b_cons, b_ifs, b_for, b_while, semS, e_lc, e_lc2, e_var, e_int, e_bl, e_non, e_str, e_glob, e_bin, e_neg, e_tst, e_ife, e_tup, e_lst, e_ix, e_slc, e_rev, e_call, e_callK, permL, e_bi, e_isi, e_meth, e_fz, e_fzl, e_sortK, e_isx, e_isb, e_fld, e_callT, e_emp, b_try, isxSem, fldSem, actSem, actOut, catchO, onlyT_at, semEs, semT, semAnd, semOr, semO, semC, semI, R.bind_ok, R.bind_ex, R.bind_bad, R.out_ok, R.out_ex, R.out_bad, thn_nx, thn_ret, thn_brk, thn_ct, thn_ex, thn_bad, val_nx, val_ret, val_ex, tgSem, tgsSem, binSem, addSem, augSem, ixSem, seqOf, lstOf, lstT, newL, cmpSem, cmpInts, cmpI, eqD_int, DV.isNon, biSem, biLen, biInt, biList, biTuple, biTwo, isi_ii, isi_ib, isi_il, isi_it, isi_ll, isi_li, isi_lt, isi_tt, isi_tl, isi_ti, itemsOf, litOf, at0, at1, at2, ix30, ix31, ix32, sl0, sl1, sl2, sl3, sl4, sl5, sl6, sl7, sl8, sl9, sl10, sl11, sl12, sl13, sl14, fnSem, startE, wipeE, N_need_hands, ir_need_hands, e1]), fun s => fnD_ex (by simp [b_nil, b_cons, b_ifs, b_for, b_while, semS, e_lc, e_lc2, e_var, e_int, e_bl, e_non, e_str, e_glob, e_bin, e_neg, e_tst, e_ife, e_tup, e_lst, e_ix, e_slc, e_rev, e_call, e_callK, permL, e_bi, e_isi, e_meth, e_fz, e_fzl, e_sortK, e_isx, e_isb, e_fld, e_callT, e_emp, b_try, isxSem, fldSem, actSem, actOut, catchO, onlyT_at, semEs, semT, semAnd, semOr, semO, semC, semI, R.bind_ok, R.bind_ex, R.bind_bad, R.out_ok, R.out_ex, R.out_bad, thn_nx, thn_ret, thn_brk, thn_ct, thn_ex, thn_bad, val_nx, val_ret, val_ex, tgSem, tgsSem, binSem, addSem, augSem, ixSem, seqOf, lstOf, lstT, newL, cmpSem, cmpInts, cmpI, eqD_int, DV.isNon, biSem, biLen, biInt, biList, biTuple, biTwo, isi_ii, isi_ib, isi_il, isi_it, isi_ll, isi_li, isi_lt, isi_tt, isi_tl, isi_ti, itemsOf, litOf, at0, at1, at2, ix30, ix31, ix32, sl0, sl1, sl2, sl3, sl4, sl5, sl6, sl7, sl8, sl9, sl10, sl11, sl12, sl13, sl14, fnSem, startE, wipeE, N_holding, ir_holding, e2])⟩
/-- axes, but not two -/
theorem hb_two {hh : List (List Mode)} (h8 : hh.length ≤ 8) (hl : hh.flatten.length ≤ 200) (hm : ∀ m ∈ hh.flatten, okM m) (hp : prodM hh.flatten ≤ 10000000000000000000000000000000000000000) (h2 : hh.length ≠ 2) : HBad (eH hh) "NoHands" fun r s => r = .ex (exn "NoHands") s := by
  have e := fun s => is_axes_ok s hh h8 hl hm hp
  have e1 : ∀ s, f_need_axes s [eH hh] = .ok .non s := fun s => by
    refine fnD_of ?_ (by rw [bnd])
    simp [b_nil, b_cons, b_ifs, b_for, b_while, semS, e_lc, e_lc2, e_var, e_int, e_bl, e_non, e_str, e_glob, e_bin, e_neg, e_tst, e_ife, e_tup, e_lst, e_ix, e_slc, e_rev, e_call, e_callK, permL, e_bi, e_isi, e_meth, e_fz, e_fzl, e_sortK, e_isx, e_isb, e_fld, e_callT, e_emp, b_try, isxSem, fldSem, actSem, actOut, catchO, onlyT_at, semEs, semT, semAnd, semOr, semO, semC, semI, R.bind_ok, R.bind_ex, R.bind_bad, R.out_ok, R.out_ex, R.out_bad, thn_nx, thn_ret, thn_brk, thn_ct, thn_ex, thn_bad, val_nx, val_ret, val_ex, tgSem, tgsSem, binSem, addSem, augSem, ixSem, seqOf, lstOf, lstT, newL, cmpSem, cmpInts, cmpI, eqD_int, DV.isNon, biSem, biLen, biInt, biList, biTuple, biTwo, isi_ii, isi_ib, isi_il, isi_it, isi_ll, isi_li, isi_lt, isi_tt, isi_tl, isi_ti, itemsOf, litOf, at0, at1, at2, ix30, ix31, ix32, sl0, sl1, sl2, sl3, sl4, sl5, sl6, sl7, sl8, sl9, sl10, sl11, sl12, sl13, sl14, fnSem, startE, wipeE, N_need_axes, ir_need_axes, e]
  have h3 : ((hh.length : Nat) : Int) ≠ 2 := by omega
  have e2 : ∀ s, f_does_hold_all s [eH hh] = .ok (.bl false) s := fun s => by
    refine fnD_of ?_ (by rw [bnd])
    unfold eH at *
    simp [b_nil, b_cons, b_ifs, b_for, b_while, semS, e_lc, e_lc2, e_var, e_int, e_bl, e_non, e_str, e_glob, e_bin, e_neg, e_tst, e_ife, e_tup, e_lst, e_ix, e_slc, e_rev, e_call, e_callK, permL, e_bi, e_isi, e_meth, e_fz, e_fzl, e_sortK, e_isx, e_isb, e_fld, e_callT, e_emp, b_try, isxSem, fldSem, actSem, actOut, catchO, onlyT_at, semEs, semT, semAnd, semOr, semO, semC, semI, R.bind_ok, R.bind_ex, R.bind_bad, R.out_ok, R.out_ex, R.out_bad, thn_nx, thn_ret, thn_brk, thn_ct, thn_ex, thn_bad, val_nx, val_ret, val_ex, tgSem, tgsSem, binSem, addSem, augSem, ixSem, seqOf, lstOf, lstT, newL, cmpSem, cmpInts, cmpI, eqD_int, DV.isNon, biSem, biLen, biInt, biList, biTuple, biTwo, isi_ii, isi_ib, isi_il, isi_it, isi_ll, isi_li, isi_lt, isi_tt, isi_tl, isi_ti, itemsOf, litOf, at0, at1, at2, ix30, ix31, ix32, sl0, sl1, sl2, sl3, sl4, sl5, sl6, sl7, sl8, sl9, sl10, sl11, sl12, sl13, sl14, fnSem, startE, wipeE, N_does_hold_all, ir_does_hold_all, h3]
  have e3 : ∀ s, f_need_pair s [eH hh] = .ex (exn "NoHands") s := fun s => fnD_ex (by
    unfold eH at *
    simp [b_nil, b_cons, b_ifs, b_for, b_while, semS, e_lc, e_lc2, e_var, e_int, e_bl, e_non, e_str, e_glob, e_bin, e_neg, e_tst, e_ife, e_tup, e_lst, e_ix, e_slc, e_rev, e_call, e_callK, permL, e_bi, e_isi, e_meth, e_fz, e_fzl, e_sortK, e_isx, e_isb, e_fld, e_callT, e_emp, b_try, isxSem, fldSem, actSem, actOut, catchO, onlyT_at, semEs, semT, semAnd, semOr, semO, semC, semI, R.bind_ok, R.bind_ex, R.bind_bad, R.out_ok, R.out_ex, R.out_bad, thn_nx, thn_ret, thn_brk, thn_ct, thn_ex, thn_bad, val_nx, val_ret, val_ex, tgSem, tgsSem, binSem, addSem, augSem, ixSem, seqOf, lstOf, lstT, newL, cmpSem, cmpInts, cmpI, eqD_int, DV.isNon, biSem, biLen, biInt, biList, biTuple, biTwo, isi_ii, isi_ib, isi_il, isi_it, isi_ll, isi_li, isi_lt, isi_tt, isi_tl, isi_ti, itemsOf, litOf, at0, at1, at2, ix30, ix31, ix32, sl0, sl1, sl2, sl3, sl4, sl5, sl6, sl7, sl8, sl9, sl10, sl11, sl12, sl13, sl14, fnSem, startE, wipeE, N_need_pair, ir_need_pair, e1, h3])
  generalize eH hh = h at *
  exact ⟨fun s => fnD_ex (by simp [b_nil, b_cons, b_ifs, b_for, b_while, semS, e_lc, e_lc2, e_var, e_int, e_bl, e_non, e_str, e_glob, e_bin, e_neg, e_tst, e_ife, e_tup, e_lst, e_ix, e_slc, e_rev, e_call, e_callK, permL, e_bi, e_isi, e_meth, e_fz, e_fzl, e_sortK, e_isx, e_isb, e_fld, e_callT, e_emp, b_try, isxSem, fldSem, actSem, actOut, catchO, onlyT_at, semEs, semT, semAnd, semOr, semO, semC, semI, R.bind_ok, R.bind_ex, R.bind_bad, R.out_ok, R.out_ex, R.out_bad, thn_nx, thn_ret, thn_brk, thn_ct, thn_ex, thn_bad, val_nx, val_ret, val_ex, tgSem, tgsSem, binSem, addSem, augSem, ixSem, seqOf, lstOf, lstT, newL, cmpSem, cmpInts, cmpI, eqD_int, DV.isNon, biSem, biLen, biInt, biList, biTuple, biTwo, isi_ii, isi_ib, isi_il, isi_it, isi_ll, isi_li, isi_lt, isi_tt, isi_tl, isi_ti, itemsOf, litOf, at0, at1, at2, ix30, ix31, ix32, sl0, sl1, sl2, sl3, sl4, sl5, sl6, sl7, sl8, sl9, sl10, sl11, sl12, sl13, sl14, fnSem, startE, wipeE, N_need_hands, ir_need_hands, e1, e2]), fun s => fnD_ex (by simp [b_nil, b_cons, b_ifs, b_for, b_while, semS, e_lc, e_lc2, e_var, e_int, e_bl, e_non, e_str, e_glob, e_bin, e_neg, e_tst, e_ife, e_tup, e_lst, e_ix, e_slc, e_rev, e_call, e_callK, permL, e_bi, e_isi, e_meth, e_fz, e_fzl, e_sortK, e_isx, e_isb, e_fld, e_callT, e_emp, b_try, isxSem, fldSem, actSem, actOut, catchO, onlyT_at, semEs, semT, semAnd, semOr, semO, semC, semI, R.bind_ok, R.bind_ex, R.bind_bad, R.out_ok, R.out_ex, R.out_bad, thn_nx, thn_ret, thn_brk, thn_ct, thn_ex, thn_bad, val_nx, val_ret, val_ex, tgSem, tgsSem, binSem, addSem, augSem, ixSem, seqOf, lstOf, lstT, newL, cmpSem, cmpInts, cmpI, eqD_int, DV.isNon, biSem, biLen, biInt, biList, biTuple, biTwo, isi_ii, isi_ib, isi_il, isi_it, isi_ll, isi_li, isi_lt, isi_tt, isi_tl, isi_ti, itemsOf, litOf, at0, at1, at2, ix30, ix31, ix32, sl0, sl1, sl2, sl3, sl4, sl5, sl6, sl7, sl8, sl9, sl10, sl11, sl12, sl13, sl14, fnSem, startE, wipeE, N_holding, ir_holding, e3])⟩
/-- two axes that do not hold all -/
theorem hb_loose {hh : List (List Mode)} (h2 : hh.length = 2) (hl : hh.flatten.length ≤ 200) (hm : ∀ m ∈ hh.flatten, okM m) (hp : prodM hh.flatten ≤ 10000000000000000000000000000000000000000) (ha : ansOf hh.flatten ≠ .full) : HBad (eH hh) "NoHands" fun r s => ∃ d, r = .ok d s := by
  have e := fun s => is_axes_ok s hh (by omega) hl hm hp
  have e0 := fun s => holding_of_ok s hh hl hm
  have hn : DV.isNon (eAns (ansOf hh.flatten)) = false := by
    cases q : ansOf hh.flatten with
    | full => exact absurd q ha
    | _ => rfl
  have e1 : ∀ s, f_need_axes s [eH hh] = .ok .non s := fun s => by
    refine fnD_of ?_ (by rw [bnd])
    simp [b_nil, b_cons, b_ifs, b_for, b_while, semS, e_lc, e_lc2, e_var, e_int, e_bl, e_non, e_str, e_glob, e_bin, e_neg, e_tst, e_ife, e_tup, e_lst, e_ix, e_slc, e_rev, e_call, e_callK, permL, e_bi, e_isi, e_meth, e_fz, e_fzl, e_sortK, e_isx, e_isb, e_fld, e_callT, e_emp, b_try, isxSem, fldSem, actSem, actOut, catchO, onlyT_at, semEs, semT, semAnd, semOr, semO, semC, semI, R.bind_ok, R.bind_ex, R.bind_bad, R.out_ok, R.out_ex, R.out_bad, thn_nx, thn_ret, thn_brk, thn_ct, thn_ex, thn_bad, val_nx, val_ret, val_ex, tgSem, tgsSem, binSem, addSem, augSem, ixSem, seqOf, lstOf, lstT, newL, cmpSem, cmpInts, cmpI, eqD_int, DV.isNon, biSem, biLen, biInt, biList, biTuple, biTwo, isi_ii, isi_ib, isi_il, isi_it, isi_ll, isi_li, isi_lt, isi_tt, isi_tl, isi_ti, itemsOf, litOf, at0, at1, at2, ix30, ix31, ix32, sl0, sl1, sl2, sl3, sl4, sl5, sl6, sl7, sl8, sl9, sl10, sl11, sl12, sl13, sl14, fnSem, startE, wipeE, N_need_axes, ir_need_axes, e]
  have e2 : ∀ s, f_does_hold_all s [eH hh] = .ok (.bl false) s := fun s => by
    refine fnD_of ?_ (by rw [bnd])
    generalize eAns (ansOf hh.flatten) = A at *
    unfold eH at *
    simp [b_nil, b_cons, b_ifs, b_for, b_while, semS, e_lc, e_lc2, e_var, e_int, e_bl, e_non, e_str, e_glob, e_bin, e_neg, e_tst, e_ife, e_tup, e_lst, e_ix, e_slc, e_rev, e_call, e_callK, permL, e_bi, e_isi, e_meth, e_fz, e_fzl, e_sortK, e_isx, e_isb, e_fld, e_callT, e_emp, b_try, isxSem, fldSem, actSem, actOut, catchO, onlyT_at, semEs, semT, semAnd, semOr, semO, semC, semI, R.bind_ok, R.bind_ex, R.bind_bad, R.out_ok, R.out_ex, R.out_bad, thn_nx, thn_ret, thn_brk, thn_ct, thn_ex, thn_bad, val_nx, val_ret, val_ex, tgSem, tgsSem, binSem, addSem, augSem, ixSem, seqOf, lstOf, lstT, newL, cmpSem, cmpInts, cmpI, eqD_int, DV.isNon, biSem, biLen, biInt, biList, biTuple, biTwo, isi_ii, isi_ib, isi_il, isi_it, isi_ll, isi_li, isi_lt, isi_tt, isi_tl, isi_ti, itemsOf, litOf, at0, at1, at2, ix30, ix31, ix32, sl0, sl1, sl2, sl3, sl4, sl5, sl6, sl7, sl8, sl9, sl10, sl11, sl12, sl13, sl14, fnSem, startE, wipeE, -DV.isNon, N_does_hold_all, ir_does_hold_all, h2, e0, hn]
  have e3 : ∀ s, f_need_pair s [eH hh] = .ok .non s := fun s => by
    refine fnD_of ?_ (by rw [bnd])
    unfold eH at *
    simp [b_nil, b_cons, b_ifs, b_for, b_while, semS, e_lc, e_lc2, e_var, e_int, e_bl, e_non, e_str, e_glob, e_bin, e_neg, e_tst, e_ife, e_tup, e_lst, e_ix, e_slc, e_rev, e_call, e_callK, permL, e_bi, e_isi, e_meth, e_fz, e_fzl, e_sortK, e_isx, e_isb, e_fld, e_callT, e_emp, b_try, isxSem, fldSem, actSem, actOut, catchO, onlyT_at, semEs, semT, semAnd, semOr, semO, semC, semI, R.bind_ok, R.bind_ex, R.bind_bad, R.out_ok, R.out_ex, R.out_bad, thn_nx, thn_ret, thn_brk, thn_ct, thn_ex, thn_bad, val_nx, val_ret, val_ex, tgSem, tgsSem, binSem, addSem, augSem, ixSem, seqOf, lstOf, lstT, newL, cmpSem, cmpInts, cmpI, eqD_int, DV.isNon, biSem, biLen, biInt, biList, biTuple, biTwo, isi_ii, isi_ib, isi_il, isi_it, isi_ll, isi_li, isi_lt, isi_tt, isi_tl, isi_ti, itemsOf, litOf, at0, at1, at2, ix30, ix31, ix32, sl0, sl1, sl2, sl3, sl4, sl5, sl6, sl7, sl8, sl9, sl10, sl11, sl12, sl13, sl14, fnSem, startE, wipeE, N_need_pair, ir_need_pair, e1, h2]
  generalize eH hh = h at *
  exact ⟨fun s => fnD_ex (by simp [b_nil, b_cons, b_ifs, b_for, b_while, semS, e_lc, e_lc2, e_var, e_int, e_bl, e_non, e_str, e_glob, e_bin, e_neg, e_tst, e_ife, e_tup, e_lst, e_ix, e_slc, e_rev, e_call, e_callK, permL, e_bi, e_isi, e_meth, e_fz, e_fzl, e_sortK, e_isx, e_isb, e_fld, e_callT, e_emp, b_try, isxSem, fldSem, actSem, actOut, catchO, onlyT_at, semEs, semT, semAnd, semOr, semO, semC, semI, R.bind_ok, R.bind_ex, R.bind_bad, R.out_ok, R.out_ex, R.out_bad, thn_nx, thn_ret, thn_brk, thn_ct, thn_ex, thn_bad, val_nx, val_ret, val_ex, tgSem, tgsSem, binSem, addSem, augSem, ixSem, seqOf, lstOf, lstT, newL, cmpSem, cmpInts, cmpI, eqD_int, DV.isNon, biSem, biLen, biInt, biList, biTuple, biTwo, isi_ii, isi_ib, isi_il, isi_it, isi_ll, isi_li, isi_lt, isi_tt, isi_tl, isi_ti, itemsOf, litOf, at0, at1, at2, ix30, ix31, ix32, sl0, sl1, sl2, sl3, sl4, sl5, sl6, sl7, sl8, sl9, sl10, sl11, sl12, sl13, sl14, fnSem, startE, wipeE, N_need_hands, ir_need_hands, e1, e2]), fun s => ⟨eAns (ansOf hh.flatten), fnD_of (by simp [b_nil, b_cons, b_ifs, b_for, b_while, semS, e_lc, e_lc2, e_var, e_int, e_bl, e_non, e_str, e_glob, e_bin, e_neg, e_tst, e_ife, e_tup, e_lst, e_ix, e_slc, e_rev, e_call, e_callK, permL, e_bi, e_isi, e_meth, e_fz, e_fzl, e_sortK, e_isx, e_isb, e_fld, e_callT, e_emp, b_try, isxSem, fldSem, actSem, actOut, catchO, onlyT_at, semEs, semT, semAnd, semOr, semO, semC, semI, R.bind_ok, R.bind_ex, R.bind_bad, R.out_ok, R.out_ex, R.out_bad, thn_nx, thn_ret, thn_brk, thn_ct, thn_ex, thn_bad, val_nx, val_ret, val_ex, tgSem, tgsSem, binSem, addSem, augSem, ixSem, seqOf, lstOf, lstT, newL, cmpSem, cmpInts, cmpI, eqD_int, DV.isNon, biSem, biLen, biInt, biList, biTuple, biTwo, isi_ii, isi_ib, isi_il, isi_it, isi_ll, isi_li, isi_lt, isi_tt, isi_tl, isi_ti, itemsOf, litOf, at0, at1, at2, ix30, ix31, ix32, sl0, sl1, sl2, sl3, sl4, sl5, sl6, sl7, sl8, sl9, sl10, sl11, sl12, sl13, sl14, fnSem, startE, wipeE, N_holding, ir_holding, e3, e0]) (bnd_eAns _)⟩⟩
/-! ### the bad hands that the law draws -/
theorem mode_list {m : Mode} {l : List Mode} (h : m ∈ l) {p : Mode → Prop} (hp : ∀ x ∈ l, p x) : p m := hp m h
def twoH : List (List (List Mode)) := [[], [[]], [[(4, 1)]], [[(2, 1)], [(2, 2)], []], [[(2, 1)], [(2, 2)], [(2, 4)]]]
def looseH : List (List (List Mode)) := [[[(2, 1)], [(2, 1)]], [[(2, 2)], [(2, 2)]], [[(2, 1)], [(2, 3)]], [[(2, -1)], [(2, 2)]], [[(2, 0)], []], [[(2, 1), (2, 4)], [(3, 2)]], [[(100000000000000000000, 1)], [(100000000000000000000, 100000000000000000001)]]]
instance (m : Mode) : Decidable (okM m) := by unfold okM; infer_instance
theorem two_bad : ∀ hh ∈ twoH, HBad (eH hh) "NoHands" fun r s => r = .ex (exn "NoHands") s := by
  have key : ∀ hh ∈ twoH, hh.length ≤ 8 ∧ hh.flatten.length ≤ 200 ∧ (∀ m ∈ hh.flatten, okM m) ∧ prodM hh.flatten ≤ 10000000000000000000000000000000000000000 ∧ hh.length ≠ 2 := by decide +kernel
  intro hh h
  obtain ⟨a, b, c, d, e⟩ := key hh h
  exact hb_two a b c d e
def isFull : Ans → Bool
  | .full => true
  | _ => false
def insR (r : List Int) : List (List Int) → List (List Int)
  | [] => [r]
  | x :: xs => if HT.lexLt r x = true then r :: x :: xs else x :: insR r xs
def insS (l : List (List Int)) : List (List Int) := l.foldr insR []
def notFull (l : List Mode) : Bool := decide (lowM l < 0) || (decide ((insS (pairs l)).Perm (pairs l)) && (decide ((insS (pairs l)).Pairwise fun a b => HT.lexLt b a = false) && !isFull (walkL (insS (pairs l)) 1)))
theorem notFull_ok {l : List Mode} (h : notFull l = true) : ansOf l ≠ .full := fun z => by
  unfold ansOf at z
  unfold notFull at h
  rw [Bool.or_eq_true] at h
  by_cases hl : lowM l < 0
  · rw [if_pos hl] at z
    cases z
  · rw [if_neg hl] at z
    rcases h with h | h
    · exact hl (of_decide_eq_true h)
    · rw [Bool.and_eq_true, Bool.and_eq_true] at h
      obtain ⟨h1, h2, h3⟩ := h
      rw [← sortT_uniq (of_decide_eq_true h1) (of_decide_eq_true h2)] at z
      rw [z] at h3
      cases h3
theorem loose_bad : ∀ hh ∈ looseH, HBad (eH hh) "NoHands" fun r s => ∃ d, r = .ok d s := by
  have key : ∀ hh ∈ looseH, hh.length = 2 ∧ hh.flatten.length ≤ 200 ∧ (∀ m ∈ hh.flatten, okM m) ∧ prodM hh.flatten ≤ 10000000000000000000000000000000000000000 ∧ notFull hh.flatten = true := by decide +kernel
  intro hh h
  obtain ⟨a, b, c, d, e⟩ := key hh h
  exact hb_loose a b c d (notFull_ok e)
/-- what is no axes at all -/
def noAxes : List D := [.non, .tup [], .dic [] [], .int 7, .lst [.tup []], .lst [.non, .non], .lst [.lst [.tup [.int 2, .int 1]], .tup [.tup [.int 2, .int 2]]], .lst [.lst [.tup [.int 0, .int 1]], .lst []], .lst [.lst [.tup [.int 2, .bl true]], .lst []]]
section
variable (s : Sto)
theorem na1 : f_is_axes s [.non] = .ok (.bl false) s := fnD_of (by simp [b_nil, b_cons, b_ifs, b_for, b_while, semS, e_lc, e_lc2, e_var, e_int, e_bl, e_non, e_str, e_glob, e_bin, e_neg, e_tst, e_ife, e_tup, e_lst, e_ix, e_slc, e_rev, e_call, e_callK, permL, e_bi, e_isi, e_meth, e_fz, e_fzl, e_sortK, e_isx, e_isb, e_fld, e_callT, e_emp, b_try, isxSem, fldSem, actSem, actOut, catchO, onlyT_at, semEs, semT, semAnd, semOr, semO, semC, semI, R.bind_ok, R.bind_ex, R.bind_bad, R.out_ok, R.out_ex, R.out_bad, thn_nx, thn_ret, thn_brk, thn_ct, thn_ex, thn_bad, val_nx, val_ret, val_ex, tgSem, tgsSem, binSem, addSem, augSem, ixSem, seqOf, lstOf, lstT, newL, cmpSem, cmpInts, cmpI, eqD_int, DV.isNon, biSem, biLen, biInt, biList, biTuple, biTwo, isi_ii, isi_ib, isi_il, isi_it, isi_ll, isi_li, isi_lt, isi_tt, isi_tl, isi_ti, itemsOf, litOf, at0, at1, at2, ix30, ix31, ix32, sl0, sl1, sl2, sl3, sl4, sl5, sl6, sl7, sl8, sl9, sl10, sl11, sl12, sl13, sl14, fnSem, startE, wipeE, N_is_axes, ir_is_axes, isi_nl]) (by rw [bnd])
theorem na2 : f_is_axes s [.tup []] = .ok (.bl false) s := fnD_of (by simp [b_nil, b_cons, b_ifs, b_for, b_while, semS, e_lc, e_lc2, e_var, e_int, e_bl, e_non, e_str, e_glob, e_bin, e_neg, e_tst, e_ife, e_tup, e_lst, e_ix, e_slc, e_rev, e_call, e_callK, permL, e_bi, e_isi, e_meth, e_fz, e_fzl, e_sortK, e_isx, e_isb, e_fld, e_callT, e_emp, b_try, isxSem, fldSem, actSem, actOut, catchO, onlyT_at, semEs, semT, semAnd, semOr, semO, semC, semI, R.bind_ok, R.bind_ex, R.bind_bad, R.out_ok, R.out_ex, R.out_bad, thn_nx, thn_ret, thn_brk, thn_ct, thn_ex, thn_bad, val_nx, val_ret, val_ex, tgSem, tgsSem, binSem, addSem, augSem, ixSem, seqOf, lstOf, lstT, newL, cmpSem, cmpInts, cmpI, eqD_int, DV.isNon, biSem, biLen, biInt, biList, biTuple, biTwo, isi_ii, isi_ib, isi_il, isi_it, isi_ll, isi_li, isi_lt, isi_tt, isi_tl, isi_ti, itemsOf, litOf, at0, at1, at2, ix30, ix31, ix32, sl0, sl1, sl2, sl3, sl4, sl5, sl6, sl7, sl8, sl9, sl10, sl11, sl12, sl13, sl14, fnSem, startE, wipeE, N_is_axes, ir_is_axes]) (by rw [bnd])
theorem na3 : f_is_axes s [.dic [] []] = .ok (.bl false) s := fnD_of (by simp [b_nil, b_cons, b_ifs, b_for, b_while, semS, e_lc, e_lc2, e_var, e_int, e_bl, e_non, e_str, e_glob, e_bin, e_neg, e_tst, e_ife, e_tup, e_lst, e_ix, e_slc, e_rev, e_call, e_callK, permL, e_bi, e_isi, e_meth, e_fz, e_fzl, e_sortK, e_isx, e_isb, e_fld, e_callT, e_emp, b_try, isxSem, fldSem, actSem, actOut, catchO, onlyT_at, semEs, semT, semAnd, semOr, semO, semC, semI, R.bind_ok, R.bind_ex, R.bind_bad, R.out_ok, R.out_ex, R.out_bad, thn_nx, thn_ret, thn_brk, thn_ct, thn_ex, thn_bad, val_nx, val_ret, val_ex, tgSem, tgsSem, binSem, addSem, augSem, ixSem, seqOf, lstOf, lstT, newL, cmpSem, cmpInts, cmpI, eqD_int, DV.isNon, biSem, biLen, biInt, biList, biTuple, biTwo, isi_ii, isi_ib, isi_il, isi_it, isi_ll, isi_li, isi_lt, isi_tt, isi_tl, isi_ti, itemsOf, litOf, at0, at1, at2, ix30, ix31, ix32, sl0, sl1, sl2, sl3, sl4, sl5, sl6, sl7, sl8, sl9, sl10, sl11, sl12, sl13, sl14, fnSem, startE, wipeE, N_is_axes, ir_is_axes, isi_dl]) (by rw [bnd])
theorem na4 : f_is_axes s [.int 7] = .ok (.bl false) s := fnD_of (by simp [b_nil, b_cons, b_ifs, b_for, b_while, semS, e_lc, e_lc2, e_var, e_int, e_bl, e_non, e_str, e_glob, e_bin, e_neg, e_tst, e_ife, e_tup, e_lst, e_ix, e_slc, e_rev, e_call, e_callK, permL, e_bi, e_isi, e_meth, e_fz, e_fzl, e_sortK, e_isx, e_isb, e_fld, e_callT, e_emp, b_try, isxSem, fldSem, actSem, actOut, catchO, onlyT_at, semEs, semT, semAnd, semOr, semO, semC, semI, R.bind_ok, R.bind_ex, R.bind_bad, R.out_ok, R.out_ex, R.out_bad, thn_nx, thn_ret, thn_brk, thn_ct, thn_ex, thn_bad, val_nx, val_ret, val_ex, tgSem, tgsSem, binSem, addSem, augSem, ixSem, seqOf, lstOf, lstT, newL, cmpSem, cmpInts, cmpI, eqD_int, DV.isNon, biSem, biLen, biInt, biList, biTuple, biTwo, isi_ii, isi_ib, isi_il, isi_it, isi_ll, isi_li, isi_lt, isi_tt, isi_tl, isi_ti, itemsOf, litOf, at0, at1, at2, ix30, ix31, ix32, sl0, sl1, sl2, sl3, sl4, sl5, sl6, sl7, sl8, sl9, sl10, sl11, sl12, sl13, sl14, fnSem, startE, wipeE, N_is_axes, ir_is_axes]) (by rw [bnd])
theorem na5 : f_is_axes s [.lst [.tup []]] = .ok (.bl false) s := fnD_of (by simp [b_nil, b_cons, b_ifs, b_for, b_while, semS, e_lc, e_lc2, e_var, e_int, e_bl, e_non, e_str, e_glob, e_bin, e_neg, e_tst, e_ife, e_tup, e_lst, e_ix, e_slc, e_rev, e_call, e_callK, permL, e_bi, e_isi, e_meth, e_fz, e_fzl, e_sortK, e_isx, e_isb, e_fld, e_callT, e_emp, b_try, isxSem, fldSem, actSem, actOut, catchO, onlyT_at, semEs, semT, semAnd, semOr, semO, semC, semI, R.bind_ok, R.bind_ex, R.bind_bad, R.out_ok, R.out_ex, R.out_bad, thn_nx, thn_ret, thn_brk, thn_ct, thn_ex, thn_bad, val_nx, val_ret, val_ex, tgSem, tgsSem, binSem, addSem, augSem, ixSem, seqOf, lstOf, lstT, newL, cmpSem, cmpInts, cmpI, eqD_int, DV.isNon, biSem, biLen, biInt, biList, biTuple, biTwo, isi_ii, isi_ib, isi_il, isi_it, isi_ll, isi_li, isi_lt, isi_tt, isi_tl, isi_ti, itemsOf, litOf, at0, at1, at2, ix30, ix31, ix32, sl0, sl1, sl2, sl3, sl4, sl5, sl6, sl7, sl8, sl9, sl10, sl11, sl12, sl13, sl14, fnSem, startE, wipeE, N_is_axes, ir_is_axes, lcGo, lcBd, biBools, boolsOf, sizeLine]) (by rw [bnd])
theorem na6 : f_is_axes s [.lst [.non, .non]] = .ok (.bl false) s := fnD_of (by simp [b_nil, b_cons, b_ifs, b_for, b_while, semS, e_lc, e_lc2, e_var, e_int, e_bl, e_non, e_str, e_glob, e_bin, e_neg, e_tst, e_ife, e_tup, e_lst, e_ix, e_slc, e_rev, e_call, e_callK, permL, e_bi, e_isi, e_meth, e_fz, e_fzl, e_sortK, e_isx, e_isb, e_fld, e_callT, e_emp, b_try, isxSem, fldSem, actSem, actOut, catchO, onlyT_at, semEs, semT, semAnd, semOr, semO, semC, semI, R.bind_ok, R.bind_ex, R.bind_bad, R.out_ok, R.out_ex, R.out_bad, thn_nx, thn_ret, thn_brk, thn_ct, thn_ex, thn_bad, val_nx, val_ret, val_ex, tgSem, tgsSem, binSem, addSem, augSem, ixSem, seqOf, lstOf, lstT, newL, cmpSem, cmpInts, cmpI, eqD_int, DV.isNon, biSem, biLen, biInt, biList, biTuple, biTwo, isi_ii, isi_ib, isi_il, isi_it, isi_ll, isi_li, isi_lt, isi_tt, isi_tl, isi_ti, itemsOf, litOf, at0, at1, at2, ix30, ix31, ix32, sl0, sl1, sl2, sl3, sl4, sl5, sl6, sl7, sl8, sl9, sl10, sl11, sl12, sl13, sl14, fnSem, startE, wipeE, N_is_axes, ir_is_axes, lcGo, lcBd, biBools, boolsOf, sizeLine, isi_nl]) (by rw [bnd])
theorem na7 : f_is_axes s [.lst [.lst [.tup [.int 2, .int 1]], .tup [.tup [.int 2, .int 2]]]] = .ok (.bl false) s := fnD_of (by simp [b_nil, b_cons, b_ifs, b_for, b_while, semS, e_lc, e_lc2, e_var, e_int, e_bl, e_non, e_str, e_glob, e_bin, e_neg, e_tst, e_ife, e_tup, e_lst, e_ix, e_slc, e_rev, e_call, e_callK, permL, e_bi, e_isi, e_meth, e_fz, e_fzl, e_sortK, e_isx, e_isb, e_fld, e_callT, e_emp, b_try, isxSem, fldSem, actSem, actOut, catchO, onlyT_at, semEs, semT, semAnd, semOr, semO, semC, semI, R.bind_ok, R.bind_ex, R.bind_bad, R.out_ok, R.out_ex, R.out_bad, thn_nx, thn_ret, thn_brk, thn_ct, thn_ex, thn_bad, val_nx, val_ret, val_ex, tgSem, tgsSem, binSem, addSem, augSem, ixSem, seqOf, lstOf, lstT, newL, cmpSem, cmpInts, cmpI, eqD_int, DV.isNon, biSem, biLen, biInt, biList, biTuple, biTwo, isi_ii, isi_ib, isi_il, isi_it, isi_ll, isi_li, isi_lt, isi_tt, isi_tl, isi_ti, itemsOf, litOf, at0, at1, at2, ix30, ix31, ix32, sl0, sl1, sl2, sl3, sl4, sl5, sl6, sl7, sl8, sl9, sl10, sl11, sl12, sl13, sl14, fnSem, startE, wipeE, N_is_axes, ir_is_axes, lcGo, lcBd, biBools, boolsOf, sizeLine]) (by rw [bnd])
theorem im8 : f_is_mode s [.tup [.int 0, .int 1]] = .ok (.bl false) s := by
  have e0 : atI [D.int 0, D.int 1] 0 = some (.int 0) := rfl
  exact fnD_of (by simp [b_nil, b_cons, b_ifs, b_for, b_while, semS, e_lc, e_lc2, e_var, e_int, e_bl, e_non, e_str, e_glob, e_bin, e_neg, e_tst, e_ife, e_tup, e_lst, e_ix, e_slc, e_rev, e_call, e_callK, permL, e_bi, e_isi, e_meth, e_fz, e_fzl, e_sortK, e_isx, e_isb, e_fld, e_callT, e_emp, b_try, isxSem, fldSem, actSem, actOut, catchO, onlyT_at, semEs, semT, semAnd, semOr, semO, semC, semI, R.bind_ok, R.bind_ex, R.bind_bad, R.out_ok, R.out_ex, R.out_bad, thn_nx, thn_ret, thn_brk, thn_ct, thn_ex, thn_bad, val_nx, val_ret, val_ex, tgSem, tgsSem, binSem, addSem, augSem, ixSem, seqOf, lstOf, lstT, newL, cmpSem, cmpInts, cmpI, eqD_int, DV.isNon, biSem, biLen, biInt, biList, biTuple, biTwo, isi_ii, isi_ib, isi_il, isi_it, isi_ll, isi_li, isi_lt, isi_tt, isi_tl, isi_ti, itemsOf, litOf, at0, at1, at2, ix30, ix31, ix32, sl0, sl1, sl2, sl3, sl4, sl5, sl6, sl7, sl8, sl9, sl10, sl11, sl12, sl13, sl14, fnSem, startE, wipeE, N_is_mode, ir_is_mode, e0, is_integer_int]) (by rw [bnd])
theorem im9 : f_is_mode s [.tup [.int 2, .bl true]] = .ok (.bl false) s := by
  have e0 : atI [D.int 2, D.bl true] 0 = some (.int 2) := rfl
  have e1 : atI [D.int 2, D.bl true] 1 = some (.bl true) := rfl
  have b := bad_bl true (-1000000000000000000000000000000000000000000000000000000000000) 1000000000000000000000000000000000000000000000000000000000000 s
  exact fnD_of (by simp [b_nil, b_cons, b_ifs, b_for, b_while, semS, e_lc, e_lc2, e_var, e_int, e_bl, e_non, e_str, e_glob, e_bin, e_neg, e_tst, e_ife, e_tup, e_lst, e_ix, e_slc, e_rev, e_call, e_callK, permL, e_bi, e_isi, e_meth, e_fz, e_fzl, e_sortK, e_isx, e_isb, e_fld, e_callT, e_emp, b_try, isxSem, fldSem, actSem, actOut, catchO, onlyT_at, semEs, semT, semAnd, semOr, semO, semC, semI, R.bind_ok, R.bind_ex, R.bind_bad, R.out_ok, R.out_ex, R.out_bad, thn_nx, thn_ret, thn_brk, thn_ct, thn_ex, thn_bad, val_nx, val_ret, val_ex, tgSem, tgsSem, binSem, addSem, augSem, ixSem, seqOf, lstOf, lstT, newL, cmpSem, cmpInts, cmpI, eqD_int, DV.isNon, biSem, biLen, biInt, biList, biTuple, biTwo, isi_ii, isi_ib, isi_il, isi_it, isi_ll, isi_li, isi_lt, isi_tt, isi_tl, isi_ti, itemsOf, litOf, at0, at1, at2, ix30, ix31, ix32, sl0, sl1, sl2, sl3, sl4, sl5, sl6, sl7, sl8, sl9, sl10, sl11, sl12, sl13, sl14, fnSem, startE, wipeE, N_is_mode, ir_is_mode, e0, e1, is_integer_int, b]) (by rw [bnd])
theorem mo8 : f_modes_of s [.lst [.lst [.tup [.int 0, .int 1]], .lst []]] = .ok (.lst [.tup [.int 0, .int 1]]) s :=
  fnD_of (by simp [b_nil, b_cons, b_ifs, b_for, b_while, semS, e_lc, e_lc2, e_var, e_int, e_bl, e_non, e_str, e_glob, e_bin, e_neg, e_tst, e_ife, e_tup, e_lst, e_ix, e_slc, e_rev, e_call, e_callK, permL, e_bi, e_isi, e_meth, e_fz, e_fzl, e_sortK, e_isx, e_isb, e_fld, e_callT, e_emp, b_try, isxSem, fldSem, actSem, actOut, catchO, onlyT_at, semEs, semT, semAnd, semOr, semO, semC, semI, R.bind_ok, R.bind_ex, R.bind_bad, R.out_ok, R.out_ex, R.out_bad, thn_nx, thn_ret, thn_brk, thn_ct, thn_ex, thn_bad, val_nx, val_ret, val_ex, tgSem, tgsSem, binSem, addSem, augSem, ixSem, seqOf, lstOf, lstT, newL, cmpSem, cmpInts, cmpI, eqD_int, DV.isNon, biSem, biLen, biInt, biList, biTuple, biTwo, isi_ii, isi_ib, isi_il, isi_it, isi_ll, isi_li, isi_lt, isi_tt, isi_tl, isi_ti, itemsOf, litOf, at0, at1, at2, ix30, ix31, ix32, sl0, sl1, sl2, sl3, sl4, sl5, sl6, sl7, sl8, sl9, sl10, sl11, sl12, sl13, sl14, fnSem, startE, wipeE, N_modes_of, ir_modes_of, lc2Go, lc2Bd, lcGo, sizeLine]) (by simp [bnd, bnds])
theorem mo9 : f_modes_of s [.lst [.lst [.tup [.int 2, .bl true]], .lst []]] = .ok (.lst [.tup [.int 2, .bl true]]) s :=
  fnD_of (by simp [b_nil, b_cons, b_ifs, b_for, b_while, semS, e_lc, e_lc2, e_var, e_int, e_bl, e_non, e_str, e_glob, e_bin, e_neg, e_tst, e_ife, e_tup, e_lst, e_ix, e_slc, e_rev, e_call, e_callK, permL, e_bi, e_isi, e_meth, e_fz, e_fzl, e_sortK, e_isx, e_isb, e_fld, e_callT, e_emp, b_try, isxSem, fldSem, actSem, actOut, catchO, onlyT_at, semEs, semT, semAnd, semOr, semO, semC, semI, R.bind_ok, R.bind_ex, R.bind_bad, R.out_ok, R.out_ex, R.out_bad, thn_nx, thn_ret, thn_brk, thn_ct, thn_ex, thn_bad, val_nx, val_ret, val_ex, tgSem, tgsSem, binSem, addSem, augSem, ixSem, seqOf, lstOf, lstT, newL, cmpSem, cmpInts, cmpI, eqD_int, DV.isNon, biSem, biLen, biInt, biList, biTuple, biTwo, isi_ii, isi_ib, isi_il, isi_it, isi_ll, isi_li, isi_lt, isi_tt, isi_tl, isi_ti, itemsOf, litOf, at0, at1, at2, ix30, ix31, ix32, sl0, sl1, sl2, sl3, sl4, sl5, sl6, sl7, sl8, sl9, sl10, sl11, sl12, sl13, sl14, fnSem, startE, wipeE, N_modes_of, ir_modes_of, lc2Go, lc2Bd, lcGo, sizeLine]) (by simp [bnd, bnds])
theorem na8 : f_is_axes s [.lst [.lst [.tup [.int 0, .int 1]], .lst []]] = .ok (.bl false) s := fnD_of (by simp [b_nil, b_cons, b_ifs, b_for, b_while, semS, e_lc, e_lc2, e_var, e_int, e_bl, e_non, e_str, e_glob, e_bin, e_neg, e_tst, e_ife, e_tup, e_lst, e_ix, e_slc, e_rev, e_call, e_callK, permL, e_bi, e_isi, e_meth, e_fz, e_fzl, e_sortK, e_isx, e_isb, e_fld, e_callT, e_emp, b_try, isxSem, fldSem, actSem, actOut, catchO, onlyT_at, semEs, semT, semAnd, semOr, semO, semC, semI, R.bind_ok, R.bind_ex, R.bind_bad, R.out_ok, R.out_ex, R.out_bad, thn_nx, thn_ret, thn_brk, thn_ct, thn_ex, thn_bad, val_nx, val_ret, val_ex, tgSem, tgsSem, binSem, addSem, augSem, ixSem, seqOf, lstOf, lstT, newL, cmpSem, cmpInts, cmpI, eqD_int, DV.isNon, biSem, biLen, biInt, biList, biTuple, biTwo, isi_ii, isi_ib, isi_il, isi_it, isi_ll, isi_li, isi_lt, isi_tt, isi_tl, isi_ti, itemsOf, litOf, at0, at1, at2, ix30, ix31, ix32, sl0, sl1, sl2, sl3, sl4, sl5, sl6, sl7, sl8, sl9, sl10, sl11, sl12, sl13, sl14, fnSem, startE, wipeE, N_is_axes, ir_is_axes, lcGo, lcBd, biBools, boolsOf, sizeLine, mo8, im8]) (by rw [bnd])
theorem na9 : f_is_axes s [.lst [.lst [.tup [.int 2, .bl true]], .lst []]] = .ok (.bl false) s := fnD_of (by simp [b_nil, b_cons, b_ifs, b_for, b_while, semS, e_lc, e_lc2, e_var, e_int, e_bl, e_non, e_str, e_glob, e_bin, e_neg, e_tst, e_ife, e_tup, e_lst, e_ix, e_slc, e_rev, e_call, e_callK, permL, e_bi, e_isi, e_meth, e_fz, e_fzl, e_sortK, e_isx, e_isb, e_fld, e_callT, e_emp, b_try, isxSem, fldSem, actSem, actOut, catchO, onlyT_at, semEs, semT, semAnd, semOr, semO, semC, semI, R.bind_ok, R.bind_ex, R.bind_bad, R.out_ok, R.out_ex, R.out_bad, thn_nx, thn_ret, thn_brk, thn_ct, thn_ex, thn_bad, val_nx, val_ret, val_ex, tgSem, tgsSem, binSem, addSem, augSem, ixSem, seqOf, lstOf, lstT, newL, cmpSem, cmpInts, cmpI, eqD_int, DV.isNon, biSem, biLen, biInt, biList, biTuple, biTwo, isi_ii, isi_ib, isi_il, isi_it, isi_ll, isi_li, isi_lt, isi_tt, isi_tl, isi_ti, itemsOf, litOf, at0, at1, at2, ix30, ix31, ix32, sl0, sl1, sl2, sl3, sl4, sl5, sl6, sl7, sl8, sl9, sl10, sl11, sl12, sl13, sl14, fnSem, startE, wipeE, N_is_axes, ir_is_axes, lcGo, lcBd, biBools, boolsOf, sizeLine, mo9, im9]) (by rw [bnd])
end
theorem axes_bad : ∀ h ∈ noAxes, HBad h "NoAxes" fun r s => r = .ex (exn "NoAxes") s := by
  intro h hh
  simp only [noAxes, List.mem_cons, List.not_mem_nil, or_false] at hh
  rcases hh with rfl | rfl | rfl | rfl | rfl | rfl | rfl | rfl | rfl
  · exact hb_axes na1
  · exact hb_axes na2
  · exact hb_axes na3
  · exact hb_axes na4
  · exact hb_axes na5
  · exact hb_axes na6
  · exact hb_axes na7
  · exact hb_axes na8
  · exact hb_axes na9
end K84

namespace K84
open PySem PySem.Spec L2 DV PF Mix
theorem slice_rest (x y : List Mode) (i : Nat) : ∀ (ρ : DV.Env) s, ρ[i]? = some (some (eH [x, y])) → semE (.slc false (.var i) (.some (.int 1)) .none) ρ s = .ok (eH [y]) s := by
  intro ρ s hρ
  have cx := cut_rest [eA x, eA y] 1
  have eE : eH [x, y] = .lst [eA x, eA y] := rfl
  simp [b_nil, b_cons, b_ifs, b_for, b_while, semS, e_lc, e_lc2, e_var, e_int, e_bl, e_non, e_str, e_glob, e_bin, e_neg, e_tst, e_ife, e_tup, e_lst, e_ix, e_slc, e_rev, e_call, e_callK, permL, e_bi, e_isi, e_meth, e_fz, e_fzl, e_sortK, e_isx, e_isb, e_fld, e_callT, e_emp, b_try, isxSem, fldSem, actSem, actOut, catchO, onlyT_at, semEs, semT, semAnd, semOr, semO, semC, semI, R.bind_ok, R.bind_ex, R.bind_bad, R.out_ok, R.out_ex, R.out_bad, thn_nx, thn_ret, thn_brk, thn_ct, thn_ex, thn_bad, val_nx, val_ret, val_ex, tgSem, tgsSem, binSem, addSem, augSem, ixSem, seqOf, lstOf, lstT, newL, cmpSem, cmpInts, cmpI, eqD_int, DV.isNon, biSem, biLen, biInt, biList, biTuple, biTwo, isi_ii, isi_ib, isi_il, isi_it, isi_ll, isi_li, isi_lt, isi_tt, isi_tl, isi_ti, itemsOf, litOf, at0, at1, at2, ix30, ix31, ix32, sl0, sl1, sl2, sl3, sl4, sl5, sl6, sl7, sl8, sl9, sl10, sl11, sl12, sl13, sl14, fnSem, startE, wipeE, hρ, eE, slcSem]
  simp only [show (1 : Int) = ((1 : Nat) : Int) from rfl, cx]
  rfl
theorem below_bad {d : D} {e : Int} (h : badI d 0 (e - 1)) (s : Sto) : f_need_below s [d, .int e] = .ex (exn "NoIndex") s := fnD_ex (by
  have := h s
  simp [b_nil, b_cons, b_ifs, b_for, b_while, semS, e_lc, e_lc2, e_var, e_int, e_bl, e_non, e_str, e_glob, e_bin, e_neg, e_tst, e_ife, e_tup, e_lst, e_ix, e_slc, e_rev, e_call, e_callK, permL, e_bi, e_isi, e_meth, e_fz, e_fzl, e_sortK, e_isx, e_isb, e_fld, e_callT, e_emp, b_try, isxSem, fldSem, actSem, actOut, catchO, onlyT_at, semEs, semT, semAnd, semOr, semO, semC, semI, R.bind_ok, R.bind_ex, R.bind_bad, R.out_ok, R.out_ex, R.out_bad, thn_nx, thn_ret, thn_brk, thn_ct, thn_ex, thn_bad, val_nx, val_ret, val_ex, tgSem, tgsSem, binSem, addSem, augSem, ixSem, seqOf, lstOf, lstT, newL, cmpSem, cmpInts, cmpI, eqD_int, DV.isNon, biSem, biLen, biInt, biList, biTuple, biTwo, isi_ii, isi_ib, isi_il, isi_it, isi_ll, isi_li, isi_lt, isi_tt, isi_tl, isi_ti, itemsOf, litOf, at0, at1, at2, ix30, ix31, ix32, sl0, sl1, sl2, sl3, sl4, sl5, sl6, sl7, sl8, sl9, sl10, sl11, sl12, sl13, sl14, fnSem, startE, wipeE, N_need_below, ir_need_below, this])
theorem work_bad0 {h n : D} {w : Str} {l : R D → Sto → Prop} (b : HBad h w l) (s : Sto) : f_need_work s [h, n] = .ex (exn w) s := fnD_ex (by
  have := b.need s
  simp [b_nil, b_cons, b_ifs, b_for, b_while, semS, e_lc, e_lc2, e_var, e_int, e_bl, e_non, e_str, e_glob, e_bin, e_neg, e_tst, e_ife, e_tup, e_lst, e_ix, e_slc, e_rev, e_call, e_callK, permL, e_bi, e_isi, e_meth, e_fz, e_fzl, e_sortK, e_isx, e_isb, e_fld, e_callT, e_emp, b_try, isxSem, fldSem, actSem, actOut, catchO, onlyT_at, semEs, semT, semAnd, semOr, semO, semC, semI, R.bind_ok, R.bind_ex, R.bind_bad, R.out_ok, R.out_ex, R.out_bad, thn_nx, thn_ret, thn_brk, thn_ct, thn_ex, thn_bad, val_nx, val_ret, val_ex, tgSem, tgsSem, binSem, addSem, augSem, ixSem, seqOf, lstOf, lstT, newL, cmpSem, cmpInts, cmpI, eqD_int, DV.isNon, biSem, biLen, biInt, biList, biTuple, biTwo, isi_ii, isi_ib, isi_il, isi_it, isi_ll, isi_li, isi_lt, isi_tt, isi_tl, isi_ti, itemsOf, litOf, at0, at1, at2, ix30, ix31, ix32, sl0, sl1, sl2, sl3, sl4, sl5, sl6, sl7, sl8, sl9, sl10, sl11, sl12, sl13, sl14, fnSem, startE, wipeE, N_need_work, ir_need_work, this])
theorem work_bad1 {hh : List (List Mode)} (g : Hnd hh) {n : D} (b : badI n 0 10000000000000000000000000000000000000000) (s : Sto) : f_need_work s [eH hh, n] = .ex (exn "NoCount") s := by
  have e1 := need_hands_ok s g
  have e2 := b s
  generalize eH hh = h at *
  exact fnD_ex (by simp [b_nil, b_cons, b_ifs, b_for, b_while, semS, e_lc, e_lc2, e_var, e_int, e_bl, e_non, e_str, e_glob, e_bin, e_neg, e_tst, e_ife, e_tup, e_lst, e_ix, e_slc, e_rev, e_call, e_callK, permL, e_bi, e_isi, e_meth, e_fz, e_fzl, e_sortK, e_isx, e_isb, e_fld, e_callT, e_emp, b_try, isxSem, fldSem, actSem, actOut, catchO, onlyT_at, semEs, semT, semAnd, semOr, semO, semC, semI, R.bind_ok, R.bind_ex, R.bind_bad, R.out_ok, R.out_ex, R.out_bad, thn_nx, thn_ret, thn_brk, thn_ct, thn_ex, thn_bad, val_nx, val_ret, val_ex, tgSem, tgsSem, binSem, addSem, augSem, ixSem, seqOf, lstOf, lstT, newL, cmpSem, cmpInts, cmpI, eqD_int, DV.isNon, biSem, biLen, biInt, biList, biTuple, biTwo, isi_ii, isi_ib, isi_il, isi_it, isi_ll, isi_li, isi_lt, isi_tt, isi_tl, isi_ti, itemsOf, litOf, at0, at1, at2, ix30, ix31, ix32, sl0, sl1, sl2, sl3, sl4, sl5, sl6, sl7, sl8, sl9, sl10, sl11, sl12, sl13, sl14, fnSem, startE, wipeE, N_need_work, ir_need_work, e1, e2])
section
variable (s : Sto)
/-- an error of need_work goes through all of them -/
theorem elem_w {h n r w k : D} {c : Str} (e : f_need_work s [h, n] = .ex (exn c) s) : f_element_of s [h, n, r, w, k] = .ex (exn c) s := fnD_ex (by simp [b_nil, b_cons, b_ifs, b_for, b_while, semS, e_lc, e_lc2, e_var, e_int, e_bl, e_non, e_str, e_glob, e_bin, e_neg, e_tst, e_ife, e_tup, e_lst, e_ix, e_slc, e_rev, e_call, e_callK, permL, e_bi, e_isi, e_meth, e_fz, e_fzl, e_sortK, e_isx, e_isb, e_fld, e_callT, e_emp, b_try, isxSem, fldSem, actSem, actOut, catchO, onlyT_at, semEs, semT, semAnd, semOr, semO, semC, semI, R.bind_ok, R.bind_ex, R.bind_bad, R.out_ok, R.out_ex, R.out_bad, thn_nx, thn_ret, thn_brk, thn_ct, thn_ex, thn_bad, val_nx, val_ret, val_ex, tgSem, tgsSem, binSem, addSem, augSem, ixSem, seqOf, lstOf, lstT, newL, cmpSem, cmpInts, cmpI, eqD_int, DV.isNon, biSem, biLen, biInt, biList, biTuple, biTwo, isi_ii, isi_ib, isi_il, isi_it, isi_ll, isi_li, isi_lt, isi_tt, isi_tl, isi_ti, itemsOf, litOf, at0, at1, at2, ix30, ix31, ix32, sl0, sl1, sl2, sl3, sl4, sl5, sl6, sl7, sl8, sl9, sl10, sl11, sl12, sl13, sl14, fnSem, startE, wipeE, N_element_of, ir_element_of, e])
theorem share_w {h n w : D} {c : Str} (e : f_need_work s [h, n] = .ex (exn c) s) : f_share_of s [h, n, w] = .ex (exn c) s := fnD_ex (by simp [b_nil, b_cons, b_ifs, b_for, b_while, semS, e_lc, e_lc2, e_var, e_int, e_bl, e_non, e_str, e_glob, e_bin, e_neg, e_tst, e_ife, e_tup, e_lst, e_ix, e_slc, e_rev, e_call, e_callK, permL, e_bi, e_isi, e_meth, e_fz, e_fzl, e_sortK, e_isx, e_isb, e_fld, e_callT, e_emp, b_try, isxSem, fldSem, actSem, actOut, catchO, onlyT_at, semEs, semT, semAnd, semOr, semO, semC, semI, R.bind_ok, R.bind_ex, R.bind_bad, R.out_ok, R.out_ex, R.out_bad, thn_nx, thn_ret, thn_brk, thn_ct, thn_ex, thn_bad, val_nx, val_ret, val_ex, tgSem, tgsSem, binSem, addSem, augSem, ixSem, seqOf, lstOf, lstT, newL, cmpSem, cmpInts, cmpI, eqD_int, DV.isNon, biSem, biLen, biInt, biList, biTuple, biTwo, isi_ii, isi_ib, isi_il, isi_it, isi_ll, isi_li, isi_lt, isi_tt, isi_tl, isi_ti, itemsOf, litOf, at0, at1, at2, ix30, ix31, ix32, sl0, sl1, sl2, sl3, sl4, sl5, sl6, sl7, sl8, sl9, sl10, sl11, sl12, sl13, sl14, fnSem, startE, wipeE, N_share_of, ir_share_of, e])
theorem rounds_w {h n : D} {c : Str} (e : f_need_work s [h, n] = .ex (exn c) s) : f_rounds_of s [h, n] = .ex (exn c) s := fnD_ex (by simp [b_nil, b_cons, b_ifs, b_for, b_while, semS, e_lc, e_lc2, e_var, e_int, e_bl, e_non, e_str, e_glob, e_bin, e_neg, e_tst, e_ife, e_tup, e_lst, e_ix, e_slc, e_rev, e_call, e_callK, permL, e_bi, e_isi, e_meth, e_fz, e_fzl, e_sortK, e_isx, e_isb, e_fld, e_callT, e_emp, b_try, isxSem, fldSem, actSem, actOut, catchO, onlyT_at, semEs, semT, semAnd, semOr, semO, semC, semI, R.bind_ok, R.bind_ex, R.bind_bad, R.out_ok, R.out_ex, R.out_bad, thn_nx, thn_ret, thn_brk, thn_ct, thn_ex, thn_bad, val_nx, val_ret, val_ex, tgSem, tgsSem, binSem, addSem, augSem, ixSem, seqOf, lstOf, lstT, newL, cmpSem, cmpInts, cmpI, eqD_int, DV.isNon, biSem, biLen, biInt, biList, biTuple, biTwo, isi_ii, isi_ib, isi_il, isi_it, isi_ll, isi_li, isi_lt, isi_tt, isi_tl, isi_ti, itemsOf, litOf, at0, at1, at2, ix30, ix31, ix32, sl0, sl1, sl2, sl3, sl4, sl5, sl6, sl7, sl8, sl9, sl10, sl11, sl12, sl13, sl14, fnSem, startE, wipeE, N_rounds_of, ir_rounds_of, e])
theorem where_w {h n i : D} {c : Str} (e : f_need_work s [h, n] = .ex (exn c) s) : f_where_is s [h, n, i] = .ex (exn c) s := fnD_ex (by simp [b_nil, b_cons, b_ifs, b_for, b_while, semS, e_lc, e_lc2, e_var, e_int, e_bl, e_non, e_str, e_glob, e_bin, e_neg, e_tst, e_ife, e_tup, e_lst, e_ix, e_slc, e_rev, e_call, e_callK, permL, e_bi, e_isi, e_meth, e_fz, e_fzl, e_sortK, e_isx, e_isb, e_fld, e_callT, e_emp, b_try, isxSem, fldSem, actSem, actOut, catchO, onlyT_at, semEs, semT, semAnd, semOr, semO, semC, semI, R.bind_ok, R.bind_ex, R.bind_bad, R.out_ok, R.out_ex, R.out_bad, thn_nx, thn_ret, thn_brk, thn_ct, thn_ex, thn_bad, val_nx, val_ret, val_ex, tgSem, tgsSem, binSem, addSem, augSem, ixSem, seqOf, lstOf, lstT, newL, cmpSem, cmpInts, cmpI, eqD_int, DV.isNon, biSem, biLen, biInt, biList, biTuple, biTwo, isi_ii, isi_ib, isi_il, isi_it, isi_ll, isi_li, isi_lt, isi_tt, isi_tl, isi_ti, itemsOf, litOf, at0, at1, at2, ix30, ix31, ix32, sl0, sl1, sl2, sl3, sl4, sl5, sl6, sl7, sl8, sl9, sl10, sl11, sl12, sl13, sl14, fnSem, startE, wipeE, N_where_is, ir_where_is, e])
variable {x y : List Mode} (g : Hnd [x, y]) (n : Int) (n0 : 0 ≤ n) (n1 : n ≤ 10000000000000000000000000000000000000000)
include g n0 n1
theorem share_i {w : D} (b : badI w 0 (prodM x - 1)) : f_share_of s [eH [x, y], .int n, w] = .ex (exn "NoIndex") s := by
  have e1 := need_work_ok s g n n0 n1
  have hf : ([x, y] : List (List Mode)).flatten = x ++ y := by simp
  have few := g.few
  have ok := g.ok
  rw [hf] at few ok
  rw [List.length_append] at few
  have e2 := workers_of_ok s x y (by omega) fun m hm => ok m (List.mem_append_left _ hm)
  have e3 := below_bad b s
  generalize eH [x, y] = E at *
  exact fnD_ex (by simp [b_nil, b_cons, b_ifs, b_for, b_while, semS, e_lc, e_lc2, e_var, e_int, e_bl, e_non, e_str, e_glob, e_bin, e_neg, e_tst, e_ife, e_tup, e_lst, e_ix, e_slc, e_rev, e_call, e_callK, permL, e_bi, e_isi, e_meth, e_fz, e_fzl, e_sortK, e_isx, e_isb, e_fld, e_callT, e_emp, b_try, isxSem, fldSem, actSem, actOut, catchO, onlyT_at, semEs, semT, semAnd, semOr, semO, semC, semI, R.bind_ok, R.bind_ex, R.bind_bad, R.out_ok, R.out_ex, R.out_bad, thn_nx, thn_ret, thn_brk, thn_ct, thn_ex, thn_bad, val_nx, val_ret, val_ex, tgSem, tgsSem, binSem, addSem, augSem, ixSem, seqOf, lstOf, lstT, newL, cmpSem, cmpInts, cmpI, eqD_int, DV.isNon, biSem, biLen, biInt, biList, biTuple, biTwo, isi_ii, isi_ib, isi_il, isi_it, isi_ll, isi_li, isi_lt, isi_tt, isi_tl, isi_ti, itemsOf, litOf, at0, at1, at2, ix30, ix31, ix32, sl0, sl1, sl2, sl3, sl4, sl5, sl6, sl7, sl8, sl9, sl10, sl11, sl12, sl13, sl14, fnSem, startE, wipeE, N_share_of, ir_share_of, e1, e2, e3])
theorem where_i {i : D} (b : badI i 0 (n - 1)) : f_where_is s [eH [x, y], .int n, i] = .ex (exn "NoIndex") s := by
  have e1 := need_work_ok s g n n0 n1
  have e3 := below_bad b s
  generalize eH [x, y] = E at *
  exact fnD_ex (by simp [b_nil, b_cons, b_ifs, b_for, b_while, semS, e_lc, e_lc2, e_var, e_int, e_bl, e_non, e_str, e_glob, e_bin, e_neg, e_tst, e_ife, e_tup, e_lst, e_ix, e_slc, e_rev, e_call, e_callK, permL, e_bi, e_isi, e_meth, e_fz, e_fzl, e_sortK, e_isx, e_isb, e_fld, e_callT, e_emp, b_try, isxSem, fldSem, actSem, actOut, catchO, onlyT_at, semEs, semT, semAnd, semOr, semO, semC, semI, R.bind_ok, R.bind_ex, R.bind_bad, R.out_ok, R.out_ex, R.out_bad, thn_nx, thn_ret, thn_brk, thn_ct, thn_ex, thn_bad, val_nx, val_ret, val_ex, tgSem, tgsSem, binSem, addSem, augSem, ixSem, seqOf, lstOf, lstT, newL, cmpSem, cmpInts, cmpI, eqD_int, DV.isNon, biSem, biLen, biInt, biList, biTuple, biTwo, isi_ii, isi_ib, isi_il, isi_it, isi_ll, isi_li, isi_lt, isi_tt, isi_tl, isi_ti, itemsOf, litOf, at0, at1, at2, ix30, ix31, ix32, sl0, sl1, sl2, sl3, sl4, sl5, sl6, sl7, sl8, sl9, sl10, sl11, sl12, sl13, sl14, fnSem, startE, wipeE, N_where_is, ir_where_is, e1, e3])
theorem elem_i {r w k : D} (b : badI r 0 (-(-n / prodM (x ++ y)) - 1) ∨ (∃ i : Int, r = .int i ∧ 0 ≤ i ∧ i < -(-n / prodM (x ++ y))) ∧ (badI w 0 (prodM x - 1) ∨ (∃ i : Int, w = .int i ∧ 0 ≤ i ∧ i < prodM x) ∧ badI k 0 (prodM y - 1))) :
    f_element_of s [eH [x, y], .int n, r, w, k] = .ex (exn "NoIndex") s := by
  obtain ⟨posx, posy, pos, hpx, hpy, hp, hxy, hc⟩ := hnd_facts g
  have e1 := need_work_ok s g n n0 n1
  have hf : ([x, y] : List (List Mode)).flatten = x ++ y := by simp
  have few := g.few
  have ok := g.ok
  rw [hf] at few ok
  rw [List.length_append] at few
  have e2 := workers_of_ok s x y (by omega) fun m hm => ok m (List.mem_append_left _ hm)
  have e4 := raw_rounds_ok s g (by rw [hf]; omega) n
  rw [hf] at e4
  have e5 := raw_size_ok s [y] (by simp; omega) (by
    intro m hm
    exact ok m (List.mem_append_right _ (by simpa using hm)))
  have fy : ([y] : List (List Mode)).flatten = y := by simp
  rw [fy] at e5
  have hS := slice_rest x y 0
  generalize eH [x, y] = E at *
  generalize eH [y] = E1 at *
  rcases b with b | ⟨⟨i, rfl, i0, i1⟩, b⟩
  · have e3 := below_bad b s
    exact fnD_ex (by simp [b_nil, b_cons, b_ifs, b_for, b_while, semS, e_lc, e_lc2, e_var, e_int, e_bl, e_non, e_str, e_glob, e_bin, e_neg, e_tst, e_ife, e_tup, e_lst, e_ix, e_slc, e_rev, e_call, e_callK, permL, e_bi, e_isi, e_meth, e_fz, e_fzl, e_sortK, e_isx, e_isb, e_fld, e_callT, e_emp, b_try, isxSem, fldSem, actSem, actOut, catchO, onlyT_at, semEs, semT, semAnd, semOr, semO, semC, semI, R.bind_ok, R.bind_ex, R.bind_bad, R.out_ok, R.out_ex, R.out_bad, thn_nx, thn_ret, thn_brk, thn_ct, thn_ex, thn_bad, val_nx, val_ret, val_ex, tgSem, tgsSem, binSem, addSem, augSem, ixSem, seqOf, lstOf, lstT, newL, cmpSem, cmpInts, cmpI, eqD_int, DV.isNon, biSem, biLen, biInt, biList, biTuple, biTwo, isi_ii, isi_ib, isi_il, isi_it, isi_ll, isi_li, isi_lt, isi_tt, isi_tl, isi_ti, itemsOf, litOf, at0, at1, at2, ix30, ix31, ix32, sl0, sl1, sl2, sl3, sl4, sl5, sl6, sl7, sl8, sl9, sl10, sl11, sl12, sl13, sl14, fnSem, startE, wipeE, N_element_of, ir_element_of, e1, e4, e3])
  · have e6 := need_below_ok s i _ i0 i1
    rcases b with b | ⟨⟨j, rfl, j0, j1⟩, b⟩
    · have e3 := below_bad b s
      exact fnD_ex (by simp [b_nil, b_cons, b_ifs, b_for, b_while, semS, e_lc, e_lc2, e_var, e_int, e_bl, e_non, e_str, e_glob, e_bin, e_neg, e_tst, e_ife, e_tup, e_lst, e_ix, e_slc, e_rev, e_call, e_callK, permL, e_bi, e_isi, e_meth, e_fz, e_fzl, e_sortK, e_isx, e_isb, e_fld, e_callT, e_emp, b_try, isxSem, fldSem, actSem, actOut, catchO, onlyT_at, semEs, semT, semAnd, semOr, semO, semC, semI, R.bind_ok, R.bind_ex, R.bind_bad, R.out_ok, R.out_ex, R.out_bad, thn_nx, thn_ret, thn_brk, thn_ct, thn_ex, thn_bad, val_nx, val_ret, val_ex, tgSem, tgsSem, binSem, addSem, augSem, ixSem, seqOf, lstOf, lstT, newL, cmpSem, cmpInts, cmpI, eqD_int, DV.isNon, biSem, biLen, biInt, biList, biTuple, biTwo, isi_ii, isi_ib, isi_il, isi_it, isi_ll, isi_li, isi_lt, isi_tt, isi_tl, isi_ti, itemsOf, litOf, at0, at1, at2, ix30, ix31, ix32, sl0, sl1, sl2, sl3, sl4, sl5, sl6, sl7, sl8, sl9, sl10, sl11, sl12, sl13, sl14, fnSem, startE, wipeE, N_element_of, ir_element_of, e1, e4, e6, e2, e3])
    · have e7 := need_below_ok s j _ j0 j1
      have e3 := below_bad b s
      exact fnD_ex (by simp [b_nil, b_cons, b_ifs, b_for, b_while, semS, e_lc, e_lc2, e_var, e_int, e_bl, e_non, e_str, e_glob, e_bin, e_neg, e_tst, e_ife, e_tup, e_lst, e_ix, e_slc, e_rev, e_call, e_callK, permL, e_bi, e_isi, e_meth, e_fz, e_fzl, e_sortK, e_isx, e_isb, e_fld, e_callT, e_emp, b_try, isxSem, fldSem, actSem, actOut, catchO, onlyT_at, semEs, semT, semAnd, semOr, semO, semC, semI, R.bind_ok, R.bind_ex, R.bind_bad, R.out_ok, R.out_ex, R.out_bad, thn_nx, thn_ret, thn_brk, thn_ct, thn_ex, thn_bad, val_nx, val_ret, val_ex, tgSem, tgsSem, binSem, addSem, augSem, ixSem, seqOf, lstOf, lstT, newL, cmpSem, cmpInts, cmpI, eqD_int, DV.isNon, biSem, biLen, biInt, biList, biTuple, biTwo, isi_ii, isi_ib, isi_il, isi_it, isi_ll, isi_li, isi_lt, isi_tt, isi_tl, isi_ti, itemsOf, litOf, at0, at1, at2, ix30, ix31, ix32, sl0, sl1, sl2, sl3, sl4, sl5, sl6, sl7, sl8, sl9, sl10, sl11, sl12, sl13, sl14, fnSem, startE, wipeE, -e_slc, N_element_of, ir_element_of, e1, e4, e6, e2, e7, hS, e5, e3])
end
end K84

namespace K84
open PySem PySem.Spec L2 DV PF Mix
def firstW : List (Bool × Str) → Str
  | [] => "fine"
  | (b, w) :: r => if b = true then w else firstW r
/-- what the law has drawn: hands, numbers, and which of them are none -/
structure Sit (x y : List Mode) (n : Int) (H N R W Q : D) (w0 w1 w2 w3 w4 : Bool) (first : Str) : Prop where
  g : Hnd [x, y]
  n0 : 1 ≤ n
  n1 : n ≤ 1000
  h0 : w0 = false → H = eH [x, y]
  h1 : w0 = true → ∃ c l, HBad H c l ∧ ((c = ("NoAxes" : Str) ∧ first = "axes") ∨ (c = ("NoHands" : Str) ∧ first = "hands"))
  m0 : w1 = false → N = .int n
  m1 : w1 = true → badI N 0 10000000000000000000000000000000000000000
  r0 : w2 = false → ∃ i : Int, R = .int i ∧ 0 ≤ i ∧ i < -(-n / prodM (x ++ y))
  r1 : w2 = true → badI R 0 (-(-n / prodM (x ++ y)) - 1)
  k0 : w3 = false → ∃ i : Int, W = .int i ∧ 0 ≤ i ∧ i < prodM x
  k1 : w3 = true → badI W 0 (prodM x - 1)
  q0 : w4 = false → ∃ i : Int, Q = .int i ∧ 0 ≤ i ∧ i < prodM y
  q1 : w4 = true → badI Q 0 (prodM y - 1)
section
variable {x y : List Mode} {n : Int} {H N O W Q : D} {w0 w1 w2 w3 w4 : Bool} {first : Str} (S : Sit x y n H N O W Q w0 w1 w2 w3 w4 first) (s : Sto)
include S
/-- what need_work says -/
theorem work_word : (w0 = true → ∃ c, f_need_work s [H, N] = .ex (exn c) s ∧ ∀ T : Sto → R D, T s = .ex (exn c) s → f__law_q_word T s = .ok (.str first) s) ∧ (w0 = false → w1 = true → f_need_work s [H, N] = .ex (exn "NoCount") s) := by
  refine ⟨fun h => ?_, fun h h1 => ?_⟩
  · obtain ⟨c, l, b, hc⟩ := S.h1 h
    refine ⟨c, work_bad0 b s, fun T hT => ?_⟩
    rcases hc with ⟨rfl, rfl⟩ | ⟨rfl, rfl⟩
    · exact word_axes hT
    · exact word_hands hT
  · rw [S.h0 h]
    exact work_bad1 S.g (S.m1 h1) s
theorem elem_word : f__law_q_word (fun s1 => f_element_of s1 [H, N, O, W, Q]) s = .ok (.str (firstW [(w0, first), (w1, "count"), (w2, "index"), (w3, "index"), (w4, "index")])) s := by
  obtain ⟨a, b⟩ := work_word S s
  have n0 := S.n0
  have n1 := S.n1
  cases w0 with
  | true =>
    obtain ⟨c, e, f⟩ := a rfl
    exact f _ (elem_w s e)
  | false =>
    cases w1 with
    | true => exact word_count (elem_w s (b rfl rfl))
    | false =>
      rw [S.h0 rfl, S.m0 rfl]
      have ei := fun bb => word_index (T := fun s1 => f_element_of s1 [eH [x, y], .int n, O, W, Q]) (elem_i s S.g n (by omega) (by omega) (r := O) (w := W) (k := Q) bb)
      cases w2 with
      | true => exact ei (.inl (S.r1 rfl))
      | false =>
        cases w3 with
        | true => exact ei (.inr ⟨S.r0 rfl, .inl (S.k1 rfl)⟩)
        | false =>
          cases w4 with
          | true => exact ei (.inr ⟨S.r0 rfl, .inr ⟨S.k0 rfl, S.q1 rfl⟩⟩)
          | false =>
            obtain ⟨r, rfl, r0, r1⟩ := S.r0 rfl
            obtain ⟨w, rfl, k0, k1⟩ := S.k0 rfl
            obtain ⟨q, rfl, q0, q1⟩ := S.q0 rfl
            obtain ⟨posx, posy, pos, hpx, hpy, hp, hxy, hc⟩ := hnd_facts S.g
            have gm := S.g.many
            have hf : ([x, y] : List (List Mode)).flatten = x ++ y := by simp
            rw [hf] at gm
            have big : (10000000000000000000000000000000000000000 : Nat) < 2 ^ 140 := by decide +kernel
            have big2 : (2 : Nat) ^ 140 < 2 ^ 200 := by decide +kernel
            have big3 : (2 : Nat) ^ 140 < 2 ^ 300 := by decide +kernel
            have cle : -(-n / prodM (x ++ y)) ≤ n := by
              obtain ⟨ce1, ce2⟩ := ceil_at (n := n) (N := prodM (x ++ y)) (by omega)
              have := Int.mul_le_mul_of_nonneg_left hp (show 0 ≤ -(-n / prodM (x ++ y)) - 1 by omega)
              omega
            obtain ⟨i0, i1, _, _⟩ := two_split k0 k1 q0 q1
            rw [← hxy] at i1
            exact word_fine (element_of_ok s x y S.g n r w q (by omega) (by omega) r0 r1 k0 k1 q0 q1 (by omega) (by omega) (by omega))
theorem share_word : f__law_q_word (fun s1 => f_share_of s1 [H, N, W]) s = .ok (.str (firstW [(w0, first), (w1, "count"), (w3, "index")])) s := by
  obtain ⟨a, b⟩ := work_word S s
  have n0 := S.n0
  have n1 := S.n1
  cases w0 with
  | true =>
    obtain ⟨c, e, f⟩ := a rfl
    exact f _ (share_w s e)
  | false =>
    cases w1 with
    | true => exact word_count (share_w s (b rfl rfl))
    | false =>
      rw [S.h0 rfl, S.m0 rfl]
      cases w3 with
      | true => exact word_index (share_i s S.g n (by omega) (by omega) (S.k1 rfl))
      | false =>
        obtain ⟨w, rfl, k0, k1⟩ := S.k0 rfl
        exact word_fine (share_of_ok s S.g n w (by omega) (by omega) k0 k1)
theorem rounds_word : f__law_q_word (fun s1 => f_rounds_of s1 [H, N]) s = .ok (.str (firstW [(w0, first), (w1, "count")])) s := by
  obtain ⟨a, b⟩ := work_word S s
  have n0 := S.n0
  have n1 := S.n1
  obtain ⟨posx, posy, pos, hpx, hpy, hp, hxy, hc⟩ := hnd_facts S.g
  have hf : ([x, y] : List (List Mode)).flatten = x ++ y := by simp
  cases w0 with
  | true =>
    obtain ⟨c, e, f⟩ := a rfl
    exact f _ (rounds_w s e)
  | false =>
    cases w1 with
    | true => exact word_count (rounds_w s (b rfl rfl))
    | false =>
      rw [S.h0 rfl, S.m0 rfl]
      exact word_fine (rounds_of_ok s S.g (by rw [hf]; omega) n (by omega) (by omega))
theorem where_word {i : D} {wi : Bool} (i0 : wi = false → ∃ e : Int, i = .int e ∧ 0 ≤ e ∧ e < n) (i1 : wi = true → badI i 0 (n - 1)) : f__law_q_word (fun s1 => f_where_is s1 [H, N, i]) s = .ok (.str (firstW [(w0, first), (w1, "count"), (wi, "index")])) s := by
  obtain ⟨a, b⟩ := work_word S s
  have n0 := S.n0
  have n1 := S.n1
  cases w0 with
  | true =>
    obtain ⟨c, e, f⟩ := a rfl
    exact f _ (where_w s e)
  | false =>
    cases w1 with
    | true => exact word_count (where_w s (b rfl rfl))
    | false =>
      rw [S.h0 rfl, S.m0 rfl]
      cases wi with
      | true => exact word_index (where_i s S.g n (by omega) (by omega) (i1 rfl))
      | false =>
        obtain ⟨e, rfl, e0, e1⟩ := i0 rfl
        exact word_fine (where_is_ok s x y S.g n e (by omega) (by omega) e0 e1)
end
end K84

namespace K84
open PySem PySem.Spec L2 DV PF Mix
theorem at5 (a b c d e : D) : atI [a, b, c, d, e] 0 = some a ∧ atI [a, b, c, d, e] 1 = some b ∧ atI [a, b, c, d, e] 2 = some c ∧ atI [a, b, c, d, e] 3 = some d ∧ atI [a, b, c, d, e] 4 = some e := ⟨rfl, rfl, rfl, rfl, rfl⟩
theorem lc_due (s : Sto) (w0 w1 w2 w3 w4 : Bool) (v0 v1 v2 v3 v4 : D) (d0 d3 d4 : Option D) : ∀ (ks : List Nat), (∀ k ∈ ks, k < 5) →
    lcGo (lcBd [("_law_k", 4)] (.name 4) (.some (.val (.ix (.var 1) (.var 4)))) (.ix (.var 2) (.var 4)) [d0, some (.lst [.bl w0, .bl w1, .bl w2, .bl w3, .bl w4]), some (.lst [v0, v1, v2, v3, v4]), d3, d4]) (ks.map fun k : Nat => D.int k) s [] = .ok ((ks.filter fun k => [w0, w1, w2, w3, w4].getD k false).map fun k => [v0, v1, v2, v3, v4].getD k .non) s := by
  intro ks hk
  obtain ⟨a0, a1, a2, a3, a4⟩ := at5 (.bl w0) (.bl w1) (.bl w2) (.bl w3) (.bl w4)
  obtain ⟨b0, b1, b2, b3, b4⟩ := at5 v0 v1 v2 v3 v4
  rw [lcGo_filter (p := fun k : Nat => [w0, w1, w2, w3, w4].getD k false) (f := fun k => [v0, v1, v2, v3, v4].getD k .non) ks []]
  · rw [List.nil_append]
  · intro k hk2
    have h5 := hk k hk2
    have : k = 0 ∨ k = 1 ∨ k = 2 ∨ k = 3 ∨ k = 4 := by omega
    rcases this with rfl | rfl | rfl | rfl | rfl
    · cases w0 <;> simp [lcBd, b_nil, b_cons, b_ifs, b_for, b_while, semS, e_lc, e_lc2, e_var, e_int, e_bl, e_non, e_str, e_glob, e_bin, e_neg, e_tst, e_ife, e_tup, e_lst, e_ix, e_slc, e_rev, e_call, e_callK, permL, e_bi, e_isi, e_meth, e_fz, e_fzl, e_sortK, e_isx, e_isb, e_fld, e_callT, e_emp, b_try, isxSem, fldSem, actSem, actOut, catchO, onlyT_at, semEs, semT, semAnd, semOr, semO, semC, semI, R.bind_ok, R.bind_ex, R.bind_bad, R.out_ok, R.out_ex, R.out_bad, thn_nx, thn_ret, thn_brk, thn_ct, thn_ex, thn_bad, val_nx, val_ret, val_ex, tgSem, tgsSem, binSem, addSem, augSem, ixSem, seqOf, lstOf, lstT, newL, cmpSem, cmpInts, cmpI, eqD_int, DV.isNon, biSem, biLen, biInt, biList, biTuple, biTwo, isi_ii, isi_ib, isi_il, isi_it, isi_ll, isi_li, isi_lt, isi_tt, isi_tl, isi_ti, itemsOf, litOf, at0, at1, at2, ix30, ix31, ix32, sl0, sl1, sl2, sl3, sl4, sl5, sl6, sl7, sl8, sl9, sl10, sl11, sl12, sl13, sl14, fnSem, startE, wipeE, a0, b0]
    · cases w1 <;> simp [lcBd, b_nil, b_cons, b_ifs, b_for, b_while, semS, e_lc, e_lc2, e_var, e_int, e_bl, e_non, e_str, e_glob, e_bin, e_neg, e_tst, e_ife, e_tup, e_lst, e_ix, e_slc, e_rev, e_call, e_callK, permL, e_bi, e_isi, e_meth, e_fz, e_fzl, e_sortK, e_isx, e_isb, e_fld, e_callT, e_emp, b_try, isxSem, fldSem, actSem, actOut, catchO, onlyT_at, semEs, semT, semAnd, semOr, semO, semC, semI, R.bind_ok, R.bind_ex, R.bind_bad, R.out_ok, R.out_ex, R.out_bad, thn_nx, thn_ret, thn_brk, thn_ct, thn_ex, thn_bad, val_nx, val_ret, val_ex, tgSem, tgsSem, binSem, addSem, augSem, ixSem, seqOf, lstOf, lstT, newL, cmpSem, cmpInts, cmpI, eqD_int, DV.isNon, biSem, biLen, biInt, biList, biTuple, biTwo, isi_ii, isi_ib, isi_il, isi_it, isi_ll, isi_li, isi_lt, isi_tt, isi_tl, isi_ti, itemsOf, litOf, at0, at1, at2, ix30, ix31, ix32, sl0, sl1, sl2, sl3, sl4, sl5, sl6, sl7, sl8, sl9, sl10, sl11, sl12, sl13, sl14, fnSem, startE, wipeE, a1, b1]
    · cases w2 <;> simp [lcBd, b_nil, b_cons, b_ifs, b_for, b_while, semS, e_lc, e_lc2, e_var, e_int, e_bl, e_non, e_str, e_glob, e_bin, e_neg, e_tst, e_ife, e_tup, e_lst, e_ix, e_slc, e_rev, e_call, e_callK, permL, e_bi, e_isi, e_meth, e_fz, e_fzl, e_sortK, e_isx, e_isb, e_fld, e_callT, e_emp, b_try, isxSem, fldSem, actSem, actOut, catchO, onlyT_at, semEs, semT, semAnd, semOr, semO, semC, semI, R.bind_ok, R.bind_ex, R.bind_bad, R.out_ok, R.out_ex, R.out_bad, thn_nx, thn_ret, thn_brk, thn_ct, thn_ex, thn_bad, val_nx, val_ret, val_ex, tgSem, tgsSem, binSem, addSem, augSem, ixSem, seqOf, lstOf, lstT, newL, cmpSem, cmpInts, cmpI, eqD_int, DV.isNon, biSem, biLen, biInt, biList, biTuple, biTwo, isi_ii, isi_ib, isi_il, isi_it, isi_ll, isi_li, isi_lt, isi_tt, isi_tl, isi_ti, itemsOf, litOf, at0, at1, at2, ix30, ix31, ix32, sl0, sl1, sl2, sl3, sl4, sl5, sl6, sl7, sl8, sl9, sl10, sl11, sl12, sl13, sl14, fnSem, startE, wipeE, a2, b2]
    · cases w3 <;> simp [lcBd, b_nil, b_cons, b_ifs, b_for, b_while, semS, e_lc, e_lc2, e_var, e_int, e_bl, e_non, e_str, e_glob, e_bin, e_neg, e_tst, e_ife, e_tup, e_lst, e_ix, e_slc, e_rev, e_call, e_callK, permL, e_bi, e_isi, e_meth, e_fz, e_fzl, e_sortK, e_isx, e_isb, e_fld, e_callT, e_emp, b_try, isxSem, fldSem, actSem, actOut, catchO, onlyT_at, semEs, semT, semAnd, semOr, semO, semC, semI, R.bind_ok, R.bind_ex, R.bind_bad, R.out_ok, R.out_ex, R.out_bad, thn_nx, thn_ret, thn_brk, thn_ct, thn_ex, thn_bad, val_nx, val_ret, val_ex, tgSem, tgsSem, binSem, addSem, augSem, ixSem, seqOf, lstOf, lstT, newL, cmpSem, cmpInts, cmpI, eqD_int, DV.isNon, biSem, biLen, biInt, biList, biTuple, biTwo, isi_ii, isi_ib, isi_il, isi_it, isi_ll, isi_li, isi_lt, isi_tt, isi_tl, isi_ti, itemsOf, litOf, at0, at1, at2, ix30, ix31, ix32, sl0, sl1, sl2, sl3, sl4, sl5, sl6, sl7, sl8, sl9, sl10, sl11, sl12, sl13, sl14, fnSem, startE, wipeE, a3, b3]
    · cases w4 <;> simp [lcBd, b_nil, b_cons, b_ifs, b_for, b_while, semS, e_lc, e_lc2, e_var, e_int, e_bl, e_non, e_str, e_glob, e_bin, e_neg, e_tst, e_ife, e_tup, e_lst, e_ix, e_slc, e_rev, e_call, e_callK, permL, e_bi, e_isi, e_meth, e_fz, e_fzl, e_sortK, e_isx, e_isb, e_fld, e_callT, e_emp, b_try, isxSem, fldSem, actSem, actOut, catchO, onlyT_at, semEs, semT, semAnd, semOr, semO, semC, semI, R.bind_ok, R.bind_ex, R.bind_bad, R.out_ok, R.out_ex, R.out_bad, thn_nx, thn_ret, thn_brk, thn_ct, thn_ex, thn_bad, val_nx, val_ret, val_ex, tgSem, tgsSem, binSem, addSem, augSem, ixSem, seqOf, lstOf, lstT, newL, cmpSem, cmpInts, cmpI, eqD_int, DV.isNon, biSem, biLen, biInt, biList, biTuple, biTwo, isi_ii, isi_ib, isi_il, isi_it, isi_ll, isi_li, isi_lt, isi_tt, isi_tl, isi_ti, itemsOf, litOf, at0, at1, at2, ix30, ix31, ix32, sl0, sl1, sl2, sl3, sl4, sl5, sl6, sl7, sl8, sl9, sl10, sl11, sl12, sl13, sl14, fnSem, startE, wipeE, a4, b4]
/-- the words that the law knows -/
def known (w : Str) : Prop := PyData.strOk w = true
theorem eq_str (s : Sto) {w : Str} (h : known w) : eqD s (.str w) (.str w) = some true := eqD_true (x := .str w) rfl rfl h (by simp [deep])
theorem known_first {l : List (Bool × Str)} (h : ∀ p ∈ l, known p.2) : known (firstW l) := by
  induction l with
  | nil => exact (by decide +kernel : PyData.strOk ("fine" : Str) = true)
  | cons p r ih =>
    obtain ⟨b, w⟩ := p
    unfold firstW
    split
    · exact h (b, w) (List.mem_cons_self ..)
    · exact ih fun q hq => h q (List.mem_cons_of_mem _ hq)
theorem k_count : known "count" := (by decide +kernel : PyData.strOk ("count" : Str) = true)
theorem k_index : known "index" := (by decide +kernel : PyData.strOk ("index" : Str) = true)
theorem due5 (w0 w1 w2 w3 w4 : Bool) (a b c d e : Str) : atI ((([0, 1, 2, 3, 4].filter fun k => [w0, w1, w2, w3, w4].getD k false).map fun k => [D.str a, .str b, .str c, .str d, .str e].getD k .non) ++ [.str "fine"]) 0 = some (.str (firstW [(w0, a), (w1, b), (w2, c), (w3, d), (w4, e)])) := by
  cases w0 <;> cases w1 <;> cases w2 <;> cases w3 <;> cases w4 <;> rfl
theorem due3 (w0 w1 w2 w3 w4 : Bool) (a b c d e : Str) : atI ((([0, 1, 3].filter fun k => [w0, w1, w2, w3, w4].getD k false).map fun k => [D.str a, .str b, .str c, .str d, .str e].getD k .non) ++ [.str "fine"]) 0 = some (.str (firstW [(w0, a), (w1, b), (w3, d)])) := by
  cases w0 <;> cases w1 <;> cases w3 <;> rfl
theorem due2 (w0 w1 w2 w3 w4 : Bool) (a b c d e : Str) : atI ((([0, 1].filter fun k => [w0, w1, w2, w3, w4].getD k false).map fun k => [D.str a, .str b, .str c, .str d, .str e].getD k .non) ++ [.str "fine"]) 0 = some (.str (firstW [(w0, a), (w1, b)])) := by
  cases w0 <;> cases w1 <;> rfl
section
variable {x y : List Mode} {n : Int} {H N O W Q : D} {w0 w1 w2 w3 w4 : Bool} {first : Str} (S : Sit x y n H N O W Q w0 w1 w2 w3 w4 first) (hf : known first) (s : Sto)
include S hf
theorem dealt_ok : f__law_q_dealt_right s [.lst [H, N, O, W, Q], .lst [.bl w0, .bl w1, .bl w2, .bl w3, .bl w4], .lst [.str first, .str "count", .str "index", .str "index", .str "index"]] = .ok (.bl true) s := by
  obtain ⟨a0, a1, a2, a3, a4⟩ := at5 H N O W Q
  have e1 := elem_word S s
  have e2 := share_word S s
  have e3 := rounds_word S s
  have l1 := fun d0 d3 d4 => lc_due s w0 w1 w2 w3 w4 (.str first) (.str "count") (.str "index") (.str "index") (.str "index") d0 d3 d4 [0, 1, 2, 3, 4] (by decide)
  have l2 := fun d0 d3 d4 => lc_due s w0 w1 w2 w3 w4 (.str first) (.str "count") (.str "index") (.str "index") (.str "index") d0 d3 d4 [0, 1, 3] (by decide)
  have l3 := fun d0 d3 d4 => lc_due s w0 w1 w2 w3 w4 (.str first) (.str "count") (.str "index") (.str "index") (.str "index") d0 d3 d4 [0, 1] (by decide)
  have q1 := due5 w0 w1 w2 w3 w4 first "count" "index" "index" "index"
  have q2 := due3 w0 w1 w2 w3 w4 first "count" "index" "index" "index"
  have q3 := due2 w0 w1 w2 w3 w4 first "count" "index" "index" "index"
  have z1 := eq_str s (known_first (l := [(w0, first), (w1, "count"), (w2, "index"), (w3, "index"), (w4, "index")]) (by
    intro p hp
    simp at hp
    rcases hp with rfl | rfl | rfl | rfl | rfl
    · exact hf
    · exact k_count
    · exact k_index
    · exact k_index
    · exact k_index))
  have z2 := eq_str s (known_first (l := [(w0, first), (w1, "count"), (w3, "index")]) (by
    intro p hp
    simp at hp
    rcases hp with rfl | rfl | rfl
    · exact hf
    · exact k_count
    · exact k_index))
  have z3 := eq_str s (known_first (l := [(w0, first), (w1, "count")]) (by
    intro p hp
    simp at hp
    rcases hp with rfl | rfl
    · exact hf
    · exact k_count))
  have r5 : rOk 5 := ⟨by decide, by decide⟩
  have hr5 : rangeD 0 5 = [0, 1, 2, 3, 4].map fun k : Nat => D.int k := rfl
  have n1 : (([0, 1, 2, 3, 4].filter fun k => [w0, w1, w2, w3, w4].getD k false).map fun k => [D.str first, .str "count", .str "index", .str "index", .str "index"].getD k .non).length ≤ 5 := by
    rw [List.length_map]; exact List.length_filter_le ..
  have n2 : (([0, 1, 3].filter fun k => [w0, w1, w2, w3, w4].getD k false).map fun k => [D.str first, .str "count", .str "index", .str "index", .str "index"].getD k .non).length ≤ 3 := by
    rw [List.length_map]; exact List.length_filter_le ..
  have n3 : (([0, 1].filter fun k => [w0, w1, w2, w3, w4].getD k false).map fun k => [D.str first, .str "count", .str "index", .str "index", .str "index"].getD k .non).length ≤ 2 := by
    rw [List.length_map]; exact List.length_filter_le ..
  have hz : sizeLine = 16777216 := rfl
  generalize firstW [(w0, first), (w1, "count"), (w2, "index"), (w3, "index"), (w4, "index")] = F1 at *
  generalize firstW [(w0, first), (w1, "count"), (w3, "index")] = F2 at *
  generalize firstW [(w0, first), (w1, "count")] = F3 at *
  generalize (([0, 1, 2, 3, 4].filter fun k => [w0, w1, w2, w3, w4].getD k false).map fun k => [D.str first, .str "count", .str "index", .str "index", .str "index"].getD k .non) = L1 at *
  generalize (([0, 1, 3].filter fun k => [w0, w1, w2, w3, w4].getD k false).map fun k => [D.str first, .str "count", .str "index", .str "index", .str "index"].getD k .non) = L2 at *
  generalize (([0, 1].filter fun k => [w0, w1, w2, w3, w4].getD k false).map fun k => [D.str first, .str "count", .str "index", .str "index", .str "index"].getD k .non) = L3 at *
  generalize D.lst [.bl w0, .bl w1, .bl w2, .bl w3, .bl w4] = WR at *
  generalize D.lst [.str first, .str "count", .str "index", .str "index", .str "index"] = WO at *
  have o1 : L1.length + 1 ≤ sizeLine := by omega
  have o2 : L2.length + 1 ≤ sizeLine := by omega
  have o3 : L3.length + 1 ≤ sizeLine := by omega
  have l2 : ∀ d0 d3 d4 : Option D, lcGo (lcBd [("_law_k", 4)] (.name 4) (.some (.val (.ix (.var 1) (.var 4)))) (.ix (.var 2) (.var 4)) [d0, some WR, some WO, d3, d4]) [.int 0, .int 1, .int 3] s [] = .ok L2 s := l2
  have l3 : ∀ d0 d3 d4 : Option D, lcGo (lcBd [("_law_k", 4)] (.name 4) (.some (.val (.ix (.var 1) (.var 4)))) (.ix (.var 2) (.var 4)) [d0, some WR, some WO, d3, d4]) [.int 0, .int 1] s [] = .ok L3 s := l3
  refine fnD_of ?_ (by rw [bnd])
  simp [b_nil, b_cons, b_ifs, b_for, b_while, semS, e_lc, e_lc2, e_var, e_int, e_bl, e_non, e_str, e_glob, e_bin, e_neg, e_tst, e_ife, e_tup, e_lst, e_ix, e_slc, e_rev, e_call, e_callK, permL, e_bi, e_isi, e_meth, e_fz, e_fzl, e_sortK, e_isx, e_isb, e_fld, e_callT, e_emp, b_try, isxSem, fldSem, actSem, actOut, catchO, onlyT_at, semEs, semT, semAnd, semOr, semO, semC, semI, R.bind_ok, R.bind_ex, R.bind_bad, R.out_ok, R.out_ex, R.out_bad, thn_nx, thn_ret, thn_brk, thn_ct, thn_ex, thn_bad, val_nx, val_ret, val_ex, tgSem, tgsSem, binSem, addSem, augSem, ixSem, seqOf, lstOf, lstT, newL, cmpSem, cmpInts, cmpI, eqD_int, DV.isNon, biSem, biLen, biInt, biList, biTuple, biTwo, isi_ii, isi_ib, isi_il, isi_it, isi_ll, isi_li, isi_lt, isi_tt, isi_tl, isi_ti, itemsOf, litOf, at0, at1, at2, ix30, ix31, ix32, sl0, sl1, sl2, sl3, sl4, sl5, sl6, sl7, sl8, sl9, sl10, sl11, sl12, sl13, sl14, fnSem, startE, wipeE, N__law_q_dealt_right, ir__law_q_dealt_right, r5]
  rw [hr5, l1]
  simp [b_nil, b_cons, b_ifs, b_for, b_while, semS, e_lc, e_lc2, e_var, e_int, e_bl, e_non, e_str, e_glob, e_bin, e_neg, e_tst, e_ife, e_tup, e_lst, e_ix, e_slc, e_rev, e_call, e_callK, permL, e_bi, e_isi, e_meth, e_fz, e_fzl, e_sortK, e_isx, e_isb, e_fld, e_callT, e_emp, b_try, isxSem, fldSem, actSem, actOut, catchO, onlyT_at, semEs, semT, semAnd, semOr, semO, semC, semI, R.bind_ok, R.bind_ex, R.bind_bad, R.out_ok, R.out_ex, R.out_bad, thn_nx, thn_ret, thn_brk, thn_ct, thn_ex, thn_bad, val_nx, val_ret, val_ex, tgSem, tgsSem, binSem, addSem, augSem, ixSem, seqOf, lstOf, lstT, newL, cmpSem, cmpInts, cmpI, eqD_int, DV.isNon, biSem, biLen, biInt, biList, biTuple, biTwo, isi_ii, isi_ib, isi_il, isi_it, isi_ll, isi_li, isi_lt, isi_tt, isi_tl, isi_ti, itemsOf, litOf, at0, at1, at2, ix30, ix31, ix32, sl0, sl1, sl2, sl3, sl4, sl5, sl6, sl7, sl8, sl9, sl10, sl11, sl12, sl13, sl14, fnSem, startE, wipeE, a0, a1, a2, a3, a4, e1, q1, z1, o1]
  rw [l2]
  simp [b_nil, b_cons, b_ifs, b_for, b_while, semS, e_lc, e_lc2, e_var, e_int, e_bl, e_non, e_str, e_glob, e_bin, e_neg, e_tst, e_ife, e_tup, e_lst, e_ix, e_slc, e_rev, e_call, e_callK, permL, e_bi, e_isi, e_meth, e_fz, e_fzl, e_sortK, e_isx, e_isb, e_fld, e_callT, e_emp, b_try, isxSem, fldSem, actSem, actOut, catchO, onlyT_at, semEs, semT, semAnd, semOr, semO, semC, semI, R.bind_ok, R.bind_ex, R.bind_bad, R.out_ok, R.out_ex, R.out_bad, thn_nx, thn_ret, thn_brk, thn_ct, thn_ex, thn_bad, val_nx, val_ret, val_ex, tgSem, tgsSem, binSem, addSem, augSem, ixSem, seqOf, lstOf, lstT, newL, cmpSem, cmpInts, cmpI, eqD_int, DV.isNon, biSem, biLen, biInt, biList, biTuple, biTwo, isi_ii, isi_ib, isi_il, isi_it, isi_ll, isi_li, isi_lt, isi_tt, isi_tl, isi_ti, itemsOf, litOf, at0, at1, at2, ix30, ix31, ix32, sl0, sl1, sl2, sl3, sl4, sl5, sl6, sl7, sl8, sl9, sl10, sl11, sl12, sl13, sl14, fnSem, startE, wipeE, a0, a1, a2, a3, a4, e2, q2, z2, o2]
  rw [l3]
  simp [b_nil, b_cons, b_ifs, b_for, b_while, semS, e_lc, e_lc2, e_var, e_int, e_bl, e_non, e_str, e_glob, e_bin, e_neg, e_tst, e_ife, e_tup, e_lst, e_ix, e_slc, e_rev, e_call, e_callK, permL, e_bi, e_isi, e_meth, e_fz, e_fzl, e_sortK, e_isx, e_isb, e_fld, e_callT, e_emp, b_try, isxSem, fldSem, actSem, actOut, catchO, onlyT_at, semEs, semT, semAnd, semOr, semO, semC, semI, R.bind_ok, R.bind_ex, R.bind_bad, R.out_ok, R.out_ex, R.out_bad, thn_nx, thn_ret, thn_brk, thn_ct, thn_ex, thn_bad, val_nx, val_ret, val_ex, tgSem, tgsSem, binSem, addSem, augSem, ixSem, seqOf, lstOf, lstT, newL, cmpSem, cmpInts, cmpI, eqD_int, DV.isNon, biSem, biLen, biInt, biList, biTuple, biTwo, isi_ii, isi_ib, isi_il, isi_it, isi_ll, isi_li, isi_lt, isi_tt, isi_tl, isi_ti, itemsOf, litOf, at0, at1, at2, ix30, ix31, ix32, sl0, sl1, sl2, sl3, sl4, sl5, sl6, sl7, sl8, sl9, sl10, sl11, sl12, sl13, sl14, fnSem, startE, wipeE, a0, a1, a2, a3, a4, e3, q3, z3, o3]
theorem sought_ok (tot : Int) (ht : tot = n) {i : D} (hi : badI i 0 (n - 1)) : f__law_q_sought_right s [.lst [H, N, O, W, Q], .lst [.bl w0, .bl w1, .bl w2, .bl w3, .bl w4], .lst [.str first, .str "count", .str "index", .str "index", .str "index"], .int tot, i] = .ok (.bl true) s := by
  subst ht
  obtain ⟨a0, a1, a2, a3, a4⟩ := at5 H N O W Q
  obtain ⟨b0, b1, _⟩ := at5 (.bl w0) (.bl w1) (.bl w2) (.bl w3) (.bl w4)
  obtain ⟨c0, c1, _⟩ := at5 (.str first) (.str "count") (.str "index") (.str "index") (.str "index")
  have t0 := S.n0
  have e1 := where_word S s (i := i) (wi := true) (fun z => nomatch z) (fun _ => hi)
  have e2 := where_word S s (i := .int (tot - 1)) (wi := false) (fun _ => ⟨tot - 1, rfl, by omega, by omega⟩) (fun z => nomatch z)
  have kf : known "fine" := (by decide +kernel : PyData.strOk ("fine" : Str) = true)
  have z1 := eq_str s hf
  have z2 := eq_str s k_count
  have z3 := eq_str s k_index
  have z4 := eq_str s kf
  have hz : sizeLine = 16777216 := rfl
  have o1 : (1 : Nat) ≤ sizeLine := by omega
  have o2 : (2 : Nat) ≤ sizeLine := by omega
  have o3 : (3 : Nat) ≤ sizeLine := by omega
  have g1 : ∀ a : D, atI [a] 0 = some a := fun _ => rfl
  have g2 : ∀ a b : D, atI [a, b] 0 = some a := fun _ _ => rfl
  have g3 : ∀ a b c : D, atI [a, b, c] 0 = some a := fun _ _ _ => rfl
  clear S
  refine fnD_of ?_ (by rw [bnd])
  cases w0 <;> cases w1 <;> simp [firstW] at e1 e2 <;> simp [b_nil, b_cons, b_ifs, b_for, b_while, semS, e_lc, e_lc2, e_var, e_int, e_bl, e_non, e_str, e_glob, e_bin, e_neg, e_tst, e_ife, e_tup, e_lst, e_ix, e_slc, e_rev, e_call, e_callK, permL, e_bi, e_isi, e_meth, e_fz, e_fzl, e_sortK, e_isx, e_isb, e_fld, e_callT, e_emp, b_try, isxSem, fldSem, actSem, actOut, catchO, onlyT_at, semEs, semT, semAnd, semOr, semO, semC, semI, R.bind_ok, R.bind_ex, R.bind_bad, R.out_ok, R.out_ex, R.out_bad, thn_nx, thn_ret, thn_brk, thn_ct, thn_ex, thn_bad, val_nx, val_ret, val_ex, tgSem, tgsSem, binSem, addSem, augSem, ixSem, seqOf, lstOf, lstT, newL, cmpSem, cmpInts, cmpI, eqD_int, DV.isNon, biSem, biLen, biInt, biList, biTuple, biTwo, isi_ii, isi_ib, isi_il, isi_it, isi_ll, isi_li, isi_lt, isi_tt, isi_tl, isi_ti, itemsOf, litOf, at0, at1, at2, ix30, ix31, ix32, sl0, sl1, sl2, sl3, sl4, sl5, sl6, sl7, sl8, sl9, sl10, sl11, sl12, sl13, sl14, fnSem, startE, wipeE, N__law_q_sought_right, ir__law_q_sought_right, lcGo, lcBd, a0, a1, b0, b1, c0, c1, e1, e2, z1, z2, z3, z4, o1, o2, o3, g1, g2, g3]
end
end K84

namespace K84
open PySem PySem.Spec L2 DV PF Mix
theorem plain_bnd : ∀ d : D, plainD d = true → ∀ m, bnd m d = true
  | .non, _, m => by rw [bnd]
  | .int _, _, m => by rw [bnd]
  | .str _, _, m => by rw [bnd]
  | .lst xs, h, m => by rw [plainD] at h; rw [bnd]; exact go xs h m
  | .tup xs, h, m => by rw [plainD] at h; rw [bnd]; exact go xs h m
  | .bl _, h, _ => by cases h
  | .obj _, h, _ => by cases h
  | .scr _, h, _ => by cases h
  | .exc _ _ _, h, _ => by cases h
  | .fnv _, h, _ => by cases h
  | .dic _ _, h, _ => by cases h
where go : ∀ xs : List D, plainDs xs = true → ∀ m, bnds m xs = true
  | [], _, m => by rw [bnds]
  | d :: ds, h, m => by
    rw [plainDs, Bool.and_eq_true] at h
    rw [bnds, plain_bnd d h.1 m, go ds h.2 m]
    rfl
theorem na_bnd : ∀ x ∈ noAxes, ∀ m, bnd m x = true := by
  intro x hx m
  simp only [noAxes, List.mem_cons, List.not_mem_nil, or_false] at hx
  rcases hx with rfl | rfl | rfl | rfl | rfl | rfl | rfl | rfl | rfl <;> simp [bnd, bnds]
theorem eH_bnd (l : List (List (List Mode))) : ∀ x ∈ l.map eH, ∀ m, bnd m x = true := by
  intro x hx m
  obtain ⟨hh, _, rfl⟩ := List.mem_map.mp hx
  exact bnd_eH _
/-- bad hands, with the word of their kind -/
def BadH (h : D) (w : Str) : Prop := (h ∈ noAxes ∧ w = "axes") ∨ (∃ hh ∈ twoH, h = eH hh ∧ w = "hands") ∨ (∃ hh ∈ looseH, h = eH hh ∧ w = "loose")
theorem bad_hands_ok (s : Sto) (p : Nat) (cells : List Int) (at_ c : Int) (hp : s[p]? = some (pen cells at_ c)) (h0 : 0 ≤ at_) (h1 : at_ < 800000) :
    ∃ h w a2 c2, f__law_q_bad_hands s [.obj p] = .ok (.tup [h, .str w]) (s.set p (pen cells a2 c2)) ∧ BadH h w ∧ at_ ≤ a2 ∧ a2 ≤ at_ + 4 := by
  have hl : p < s.length := (List.getElem?_eq_some_iff.mp hp).1
  have p20 : CPow 10 20 := by decide
  obtain ⟨k, a1, c1, e1, k0, k1, l1, l2⟩ := take_ok s p cells at_ c 3 hp h0 (by omega) (by decide) (by decide +kernel)
  have g1 : (s.set p (pen cells a1 c1))[p]? = some (pen cells a1 c1) := List.getElem?_set_self hl
  have ix3 : ∀ a b c : D, atI [a, b, c] 0 = some a ∧ atI [a, b, c] 1 = some b ∧ atI [a, b, c] 2 = some c := fun _ _ _ => ⟨rfl, rfl, rfl⟩
  have hz : sizeLine = 16777216 := rfl
  have z : ∀ k : Nat, k ≤ 10 → k ≤ sizeLine := fun k h => by omega
  have hk : k = 0 ∨ k = 1 ∨ k = 2 := by omega
  rcases hk with rfl | rfl | rfl
  · obtain ⟨h, a2, c2, e2, hx, l3, l4⟩ := pick_ok _ p cells a1 c1 noAxes g1 (by omega) (by omega) (by decide) (by decide) na_bnd
    rw [List.set_set] at e2
    refine ⟨h, "axes", a2, c2, fnD_set0 ?_ (bnd_pen ..) (by simp [bnd, bnds, na_bnd h hx]), .inl ⟨hx, rfl⟩, by omega, by omega⟩
    unfold noAxes at e2
    simp [b_nil, b_cons, b_ifs, b_for, b_while, semS, e_lc, e_lc2, e_var, e_int, e_bl, e_non, e_str, e_glob, e_bin, e_neg, e_tst, e_ife, e_tup, e_lst, e_ix, e_slc, e_rev, e_call, e_callK, permL, e_bi, e_isi, e_meth, e_fz, e_fzl, e_sortK, e_isx, e_isb, e_fld, e_callT, e_emp, b_try, isxSem, fldSem, actSem, actOut, catchO, onlyT_at, semEs, semT, semAnd, semOr, semO, semC, semI, R.bind_ok, R.bind_ex, R.bind_bad, R.out_ok, R.out_ex, R.out_bad, thn_nx, thn_ret, thn_brk, thn_ct, thn_ex, thn_bad, val_nx, val_ret, val_ex, tgSem, tgsSem, binSem, addSem, augSem, ixSem, seqOf, lstOf, lstT, newL, cmpSem, cmpInts, cmpI, eqD_int, DV.isNon, biSem, biLen, biInt, biList, biTuple, biTwo, isi_ii, isi_ib, isi_il, isi_it, isi_ll, isi_li, isi_lt, isi_tt, isi_tl, isi_ti, itemsOf, litOf, at0, at1, at2, ix30, ix31, ix32, sl0, sl1, sl2, sl3, sl4, sl5, sl6, sl7, sl8, sl9, sl10, sl11, sl12, sl13, sl14, fnSem, startE, wipeE, N__law_q_bad_hands, ir__law_q_bad_hands, e1, e2, p20, ix3, z]
  · obtain ⟨h, a2, c2, e2, hx, l3, l4⟩ := pick_ok _ p cells a1 c1 (twoH.map eH) g1 (by omega) (by omega) (by decide) (by decide) (eH_bnd _)
    rw [List.set_set] at e2
    obtain ⟨hh, hm, rfl⟩ := List.mem_map.mp hx
    refine ⟨eH hh, "hands", a2, c2, fnD_set0 ?_ (bnd_pen ..) (by simp [bnd, bnds, bnd_eH]), .inr (.inl ⟨hh, hm, rfl, rfl⟩), by omega, by omega⟩
    generalize eH hh = E at *
    simp [twoH, eH, eA, eM] at e2
    simp [b_nil, b_cons, b_ifs, b_for, b_while, semS, e_lc, e_lc2, e_var, e_int, e_bl, e_non, e_str, e_glob, e_bin, e_neg, e_tst, e_ife, e_tup, e_lst, e_ix, e_slc, e_rev, e_call, e_callK, permL, e_bi, e_isi, e_meth, e_fz, e_fzl, e_sortK, e_isx, e_isb, e_fld, e_callT, e_emp, b_try, isxSem, fldSem, actSem, actOut, catchO, onlyT_at, semEs, semT, semAnd, semOr, semO, semC, semI, R.bind_ok, R.bind_ex, R.bind_bad, R.out_ok, R.out_ex, R.out_bad, thn_nx, thn_ret, thn_brk, thn_ct, thn_ex, thn_bad, val_nx, val_ret, val_ex, tgSem, tgsSem, binSem, addSem, augSem, ixSem, seqOf, lstOf, lstT, newL, cmpSem, cmpInts, cmpI, eqD_int, DV.isNon, biSem, biLen, biInt, biList, biTuple, biTwo, isi_ii, isi_ib, isi_il, isi_it, isi_ll, isi_li, isi_lt, isi_tt, isi_tl, isi_ti, itemsOf, litOf, at0, at1, at2, ix30, ix31, ix32, sl0, sl1, sl2, sl3, sl4, sl5, sl6, sl7, sl8, sl9, sl10, sl11, sl12, sl13, sl14, fnSem, startE, wipeE, N__law_q_bad_hands, ir__law_q_bad_hands, e1, e2, p20, ix3, z]
  · obtain ⟨h, a2, c2, e2, hx, l3, l4⟩ := pick_ok _ p cells a1 c1 (looseH.map eH) g1 (by omega) (by omega) (by decide) (by decide) (eH_bnd _)
    rw [List.set_set] at e2
    obtain ⟨hh, hm, rfl⟩ := List.mem_map.mp hx
    refine ⟨eH hh, "loose", a2, c2, fnD_set0 ?_ (bnd_pen ..) (by simp [bnd, bnds, bnd_eH]), .inr (.inr ⟨hh, hm, rfl, rfl⟩), by omega, by omega⟩
    generalize eH hh = E at *
    simp [looseH, eH, eA, eM] at e2
    simp [b_nil, b_cons, b_ifs, b_for, b_while, semS, e_lc, e_lc2, e_var, e_int, e_bl, e_non, e_str, e_glob, e_bin, e_neg, e_tst, e_ife, e_tup, e_lst, e_ix, e_slc, e_rev, e_call, e_callK, permL, e_bi, e_isi, e_meth, e_fz, e_fzl, e_sortK, e_isx, e_isb, e_fld, e_callT, e_emp, b_try, isxSem, fldSem, actSem, actOut, catchO, onlyT_at, semEs, semT, semAnd, semOr, semO, semC, semI, R.bind_ok, R.bind_ex, R.bind_bad, R.out_ok, R.out_ex, R.out_bad, thn_nx, thn_ret, thn_brk, thn_ct, thn_ex, thn_bad, val_nx, val_ret, val_ex, tgSem, tgsSem, binSem, addSem, augSem, ixSem, seqOf, lstOf, lstT, newL, cmpSem, cmpInts, cmpI, eqD_int, DV.isNon, biSem, biLen, biInt, biList, biTuple, biTwo, isi_ii, isi_ib, isi_il, isi_it, isi_ll, isi_li, isi_lt, isi_tt, isi_tl, isi_ti, itemsOf, litOf, at0, at1, at2, ix30, ix31, ix32, sl0, sl1, sl2, sl3, sl4, sl5, sl6, sl7, sl8, sl9, sl10, sl11, sl12, sl13, sl14, fnSem, startE, wipeE, N__law_q_bad_hands, ir__law_q_bad_hands, e1, e2, p20, ix3, z]
end K84

namespace K84
open PySem PySem.Spec L2 DV PF Mix
/-! ### the deal in rows -/
def xR (s m : Int) : List Mode := [(s, m)]
def yR (m : Int) : List Mode := [(m, 1)]
theorem hnd_row {s m : Int} (s0 : 1 ≤ s) (s1 : s ≤ 40) (m0 : 1 ≤ m) (m1 : m ≤ 40) : Hnd [xR s m, yR m] := by
  refine drawn_hnd rfl (by simp [xR, yR]) (fun p hp => ?_) ⟨[m, s], [], ?_, ?_, by simp, by simp⟩
  · simp [xR, yR] at hp
    unfold okT
    rcases hp with rfl | rfl <;> simp <;> omega
  · simp only [xR, yR, chainF, List.flatten_cons, List.flatten_nil, List.append_nil, List.cons_append, List.nil_append, Int.one_mul]
    exact List.Perm.swap ..
  · intro v hv
    simp at hv
    omega
theorem prod_row (s m : Int) : prodM (xR s m ++ yR m) = s * m := by simp [xR, yR, prodM]
theorem prod_xR (s m : Int) : prodM (xR s m) = s := by simp [xR, prodM]
theorem prod_yR (m : Int) : prodM (yR m) = m := by simp [yR, prodM]
/-! ### what the law draws as bad -/
def oddL : List D := [.int (-1), .bl true, .bl false, .non, .str "0", .tup [.int 0], .int 100000000000000000000000000000000000000000000000000]
def numL : List D := [.int (-1), .int 10000000000000000000000000000000000000001, .bl true, .non, .str "1"]
theorem odd_bad {d : D} (h : d ∈ oddL) {hi : Int} (hh : hi < 100000) : badI d 0 hi := by
  simp only [oddL, List.mem_cons, List.not_mem_nil, or_false] at h
  rcases h with rfl | rfl | rfl | rfl | rfl | rfl | rfl
  · exact bad_int (by omega)
  · exact bad_bl _ _ _
  · exact bad_bl _ _ _
  · exact bad_non _ _
  · exact bad_str _ _ _
  · exact bad_tup _ _ _
  · exact bad_int (by omega)
theorem num_bad {d : D} (h : d ∈ numL) : badI d 0 10000000000000000000000000000000000000000 := by
  simp only [numL, List.mem_cons, List.not_mem_nil, or_false] at h
  rcases h with rfl | rfl | rfl | rfl | rfl
  · exact bad_int (by omega)
  · exact bad_int (by omega)
  · exact bad_bl _ _ _
  · exact bad_non _ _
  · exact bad_str _ _ _
theorem odd_bnd : ∀ x ∈ oddL, ∀ m, bnd m x = true := by
  intro x hx m
  simp only [oddL, List.mem_cons, List.not_mem_nil, or_false] at hx
  rcases hx with rfl | rfl | rfl | rfl | rfl | rfl | rfl <;> simp [bnd, bnds]
theorem num_bnd : ∀ x ∈ numL, ∀ m, bnd m x = true := by
  intro x hx m
  simp only [numL, List.mem_cons, List.not_mem_nil, or_false] at hx
  rcases hx with rfl | rfl | rfl | rfl | rfl <;> simp [bnd, bnds]
/-- told in a few signs -/
def few (d : D) : Prop := tellable d = true ∧ nodes d ≤ 30 ∧ deep d ≤ 10
theorem odd_few {d : D} (h : d ∈ oddL) : few d := (by decide +kernel : ∀ d ∈ oddL, tellable d = true ∧ nodes d ≤ 30 ∧ deep d ≤ 10) d h
theorem num_few {d : D} (h : d ∈ numL) : few d := (by decide +kernel : ∀ d ∈ numL, tellable d = true ∧ nodes d ≤ 30 ∧ deep d ≤ 10) d h
theorem tell_int {i : Int} (h : i.natAbs < 2 ^ 299) : tellable (.int i) = true := by
  have : i.natAbs.log2 < 300 := by
    by_cases hz : i.natAbs = 0
    · rw [hz]; decide
    · have := (Nat.log2_lt hz).mpr h
      omega
  rw [tellable]
  exact decide_eq_true this
theorem int_few {i : Int} (h : i.natAbs < 1000) : few (.int i) := ⟨tell_int (by
  have : (1000 : Nat) < 2 ^ 299 := by decide +kernel
  omega), by simp [nodes], by simp [deep]⟩
theorem bad_few {h : D} {w : Str} (b : BadH h w) : few h := by
  rcases b with ⟨h1, _⟩ | ⟨hh, h1, rfl, _⟩ | ⟨hh, h1, rfl, _⟩
  · exact (by decide +kernel : ∀ d ∈ noAxes, tellable d = true ∧ nodes d ≤ 30 ∧ deep d ≤ 10) h h1
  · exact (by decide +kernel : ∀ hh ∈ twoH, tellable (eH hh) = true ∧ nodes (eH hh) ≤ 30 ∧ deep (eH hh) ≤ 10) hh h1
  · exact (by decide +kernel : ∀ hh ∈ looseH, tellable (eH hh) = true ∧ nodes (eH hh) ≤ 30 ∧ deep (eH hh) ≤ 10) hh h1
theorem row_few {s m : Int} (g : Hnd [xR s m, yR m]) : few (eH [xR s m, yR m]) := by
  refine ⟨tell_eH g.ok, ?_, ?_⟩
  · have := nodes_eH [xR s m, yR m]
    have := g.few
    rw [eH, nodes]
    simp [xR, yR] at *
    omega
  · have := deep_eH [xR s m, yR m]
    omega
theorem some_told {a b c d e : D} (h1 : few a) (h2 : few b) (h3 : few c) (h4 : few d) (h5 : few e) : ∃ t, (∀ s, biRepr [.lst [a, b, c, d, e]] s = .ok (.str t) s) ∧ ∀ s, eqD s (.str t) (.str t) = some true := by
  have h : tellable (.lst [a, b, c, d, e]) = true := by
    rw [tellable, tellables, tellables, tellables, tellables, tellables, tellables, h1.1, h2.1, h3.1, h4.1, h5.1]
    rfl
  refine ⟨(toPy (.lst [a, b, c, d, e])).shown, fun s => repr_tell h ?_ ?_ rfl, fun s => eqD_true (x := .str _) rfl rfl (shown_ok h) (by simp [deep])⟩
  · obtain ⟨_, n1, _⟩ := h1
    obtain ⟨_, n2, _⟩ := h2
    obtain ⟨_, n3, _⟩ := h3
    obtain ⟨_, n4, _⟩ := h4
    obtain ⟨_, n5, _⟩ := h5
    simp only [nodes, nodess]
    omega
  · obtain ⟨_, _, n1⟩ := h1
    obtain ⟨_, _, n2⟩ := h2
    obtain ⟨_, _, n3⟩ := h3
    obtain ⟨_, _, n4⟩ := h4
    obtain ⟨_, _, n5⟩ := h5
    simp only [deep, deeps]
    omega
end K84

namespace K84
open PySem PySem.Spec L2 DV PF Mix
noncomputable def ife7 : IE := .ife (.cmp .Eq (.var 17) (.str "axes")) (.str "axes") (.str "hands")
noncomputable def ife8 : IE := .ife (.and (.cons (.val (.ix (.var 15) (.int 0))) (.one (.cmp .NotEq (.var 17) (.str "loose"))))) (.var 7) (.str "fine")
theorem ks (w : Str) (h : PyData.strOk w = true := by decide +kernel) : known w := h
theorem eq_no (s : Sto) {a b : Str} (ha : known a) (hb : known b) (h : a ≠ b) : eqD s (.str a) (.str b) = some false := eqD_false (x := .str a) (y := .str b) rfl rfl ha hb (by simp [deep]) (by simp [deep]) (fun z => h (by cases z; rfl))
theorem i7 {word first : Str} (k : Bool) (h : ∀ st, eqD st (.str word) (.str "axes") = some k) (hk : first = if k = true then "axes" else "hands") (ρ : DV.Env) (st : Sto) (hρ : ρ[17]? = some (some (.str word))) : semE ife7 ρ st = .ok (.str first) st := by
  have hT : semT (.cmp .Eq (.var 17) (.str "axes")) ρ st = .ok k st := by
    simp [b_nil, b_cons, b_ifs, b_for, b_while, semS, e_lc, e_lc2, e_var, e_int, e_bl, e_non, e_str, e_glob, e_bin, e_neg, e_tst, e_ife, e_tup, e_lst, e_ix, e_slc, e_rev, e_call, e_callK, permL, e_bi, e_isi, e_meth, e_fz, e_fzl, e_sortK, e_isx, e_isb, e_fld, e_callT, e_emp, b_try, isxSem, fldSem, actSem, actOut, catchO, onlyT_at, semEs, semT, semAnd, semOr, semO, semC, semI, R.bind_ok, R.bind_ex, R.bind_bad, R.out_ok, R.out_ex, R.out_bad, thn_nx, thn_ret, thn_brk, thn_ct, thn_ex, thn_bad, val_nx, val_ret, val_ex, tgSem, tgsSem, binSem, addSem, augSem, ixSem, seqOf, lstOf, lstT, newL, cmpSem, cmpInts, cmpI, eqD_int, DV.isNon, biSem, biLen, biInt, biList, biTuple, biTwo, isi_ii, isi_ib, isi_il, isi_it, isi_ll, isi_li, isi_lt, isi_tt, isi_tl, isi_ti, itemsOf, litOf, at0, at1, at2, ix30, ix31, ix32, sl0, sl1, sl2, sl3, sl4, sl5, sl6, sl7, sl8, sl9, sl10, sl11, sl12, sl13, sl14, fnSem, startE, wipeE, hρ, h]
  unfold ife7
  rw [e_ife, hT, R.bind_ok, hk]
  cases k
  · rw [if_neg Bool.false_ne_true, e_str]; rfl
  · rw [if_pos rfl, e_str]; rfl
theorem i8 {word first due : Str} (k : Bool) (h : ∀ st, eqD st (.str word) (.str "loose") = some k) (hk : due = if k = true then ("fine" : Str) else first) (ρ : DV.Env) (st : Sto) (w0 : Bool) (b c d e : D) (hρ : ρ[17]? = some (some (.str word))) (h7 : ρ[7]? = some (some (.str first))) (h15 : ρ[15]? = some (some (.lst [.bl w0, b, c, d, e]))) :
    semE ife8 ρ st = .ok (.str (if w0 = true then due else "fine")) st := by
  obtain ⟨a0, _⟩ := at5 (.bl w0) b c d e
  have hT : semT (.and (.cons (.val (.ix (.var 15) (.int 0))) (.one (.cmp .NotEq (.var 17) (.str "loose"))))) ρ st = .ok (w0 && !k) st := by
    cases w0 <;> simp [b_nil, b_cons, b_ifs, b_for, b_while, semS, e_lc, e_lc2, e_var, e_int, e_bl, e_non, e_str, e_glob, e_bin, e_neg, e_tst, e_ife, e_tup, e_lst, e_ix, e_slc, e_rev, e_call, e_callK, permL, e_bi, e_isi, e_meth, e_fz, e_fzl, e_sortK, e_isx, e_isb, e_fld, e_callT, e_emp, b_try, isxSem, fldSem, actSem, actOut, catchO, onlyT_at, semEs, semT, semAnd, semOr, semO, semC, semI, R.bind_ok, R.bind_ex, R.bind_bad, R.out_ok, R.out_ex, R.out_bad, thn_nx, thn_ret, thn_brk, thn_ct, thn_ex, thn_bad, val_nx, val_ret, val_ex, tgSem, tgsSem, binSem, addSem, augSem, ixSem, seqOf, lstOf, lstT, newL, cmpSem, cmpInts, cmpI, eqD_int, DV.isNon, biSem, biLen, biInt, biList, biTuple, biTwo, isi_ii, isi_ib, isi_il, isi_it, isi_ll, isi_li, isi_lt, isi_tt, isi_tl, isi_ti, itemsOf, litOf, at0, at1, at2, ix30, ix31, ix32, sl0, sl1, sl2, sl3, sl4, sl5, sl6, sl7, sl8, sl9, sl10, sl11, sl12, sl13, sl14, fnSem, startE, wipeE, hρ, h15, h, a0]
  have h7' : semE (.var 7) ρ st = .ok (.str first) st := by simp [b_nil, b_cons, b_ifs, b_for, b_while, semS, e_lc, e_lc2, e_var, e_int, e_bl, e_non, e_str, e_glob, e_bin, e_neg, e_tst, e_ife, e_tup, e_lst, e_ix, e_slc, e_rev, e_call, e_callK, permL, e_bi, e_isi, e_meth, e_fz, e_fzl, e_sortK, e_isx, e_isb, e_fld, e_callT, e_emp, b_try, isxSem, fldSem, actSem, actOut, catchO, onlyT_at, semEs, semT, semAnd, semOr, semO, semC, semI, R.bind_ok, R.bind_ex, R.bind_bad, R.out_ok, R.out_ex, R.out_bad, thn_nx, thn_ret, thn_brk, thn_ct, thn_ex, thn_bad, val_nx, val_ret, val_ex, tgSem, tgsSem, binSem, addSem, augSem, ixSem, seqOf, lstOf, lstT, newL, cmpSem, cmpInts, cmpI, eqD_int, DV.isNon, biSem, biLen, biInt, biList, biTuple, biTwo, isi_ii, isi_ib, isi_il, isi_it, isi_ll, isi_li, isi_lt, isi_tt, isi_tl, isi_ti, itemsOf, litOf, at0, at1, at2, ix30, ix31, ix32, sl0, sl1, sl2, sl3, sl4, sl5, sl6, sl7, sl8, sl9, sl10, sl11, sl12, sl13, sl14, fnSem, startE, wipeE, h7]
  unfold ife8
  rw [e_ife, hT, R.bind_ok, hk]
  cases w0 <;> cases k
  · rw [if_neg (by decide), e_str]; rfl
  · rw [if_neg (by decide), e_str]; rfl
  · rw [if_pos (by decide), h7']; rfl
  · rw [if_neg (by decide), e_str]; rfl
theorem bad_facts {bad : D} {word : Str} (hb : BadH bad word) : ∃ first due : Str, known first ∧ known due ∧ (∃ c l, HBad bad c l ∧ ((c = ("NoAxes" : Str) ∧ first = "axes") ∨ (c = ("NoHands" : Str) ∧ first = "hands"))) ∧
    (∀ s, f__law_q_word (fun s1 => f_holding s1 [bad]) s = .ok (.str due) s) ∧
    (∀ (ρ : DV.Env) (st : Sto), ρ[17]? = some (some (.str word)) → semE ife7 ρ st = .ok (.str first) st) ∧
    (∀ (ρ : DV.Env) (st : Sto) (w0 : Bool) (b c d e : D), ρ[17]? = some (some (.str word)) → ρ[7]? = some (some (.str first)) → ρ[15]? = some (some (.lst [.bl w0, b, c, d, e])) → semE ife8 ρ st = .ok (.str (if w0 = true then due else "fine")) st) := by
  rcases hb with ⟨h1, rfl⟩ | ⟨hh, h1, rfl, rfl⟩ | ⟨hh, h1, rfl, rfl⟩
  · have b := axes_bad bad h1
    exact ⟨"axes", "axes", ks _, ks _, ⟨_, _, b, .inl ⟨rfl, rfl⟩⟩, fun s => word_axes (b.hold s), i7 true (fun st => eq_str st (ks _)) rfl, i8 false (fun st => eq_no st (ks _) (ks _) (by decide +kernel)) rfl⟩
  · have b := two_bad hh h1
    exact ⟨"hands", "hands", ks _, ks _, ⟨_, _, b, .inr ⟨rfl, rfl⟩⟩, fun s => word_hands (b.hold s), i7 false (fun st => eq_no st (ks _) (ks _) (by decide +kernel)) rfl, i8 false (fun st => eq_no st (ks _) (ks _) (by decide +kernel)) rfl⟩
  · have b := loose_bad hh h1
    exact ⟨"hands", "fine", ks _, ks _, ⟨_, _, b, .inr ⟨rfl, rfl⟩⟩, fun s => (b.hold s).elim fun d h => word_fine h, i7 false (fun st => eq_no st (ks _) (ks _) (by decide +kernel)) rfl, i8 true (fun st => eq_str st (ks _)) rfl⟩
end K84

namespace K84
open PySem PySem.Spec PyProof.Rows L2 DV PF
theorem s__law_open : FnScope N__law_open ["_law_script"] (defScope (top 49)) := ⟨rfl, rfl, rfl, by decide +kernel, rfl, by decide +kernel, by decide +kernel⟩
theorem k__law_open : chkB N__law_open true (defScope (top 49)) ir__law_open (defBody (top 49)) = true := by decide +kernel
theorem s__law_spread : FnScope N__law_spread ["_law_cell", "_law_at"] (defScope (top 48)) := ⟨rfl, rfl, rfl, by decide +kernel, rfl, by decide +kernel, by decide +kernel⟩
theorem k__law_spread : chkB N__law_spread true (defScope (top 48)) ir__law_spread (defBody (top 48)) = true := by decide +kernel
theorem s__law_take : FnScope N__law_take ["_law_pen", "_law_many"] (defScope (top 50)) := ⟨rfl, rfl, rfl, by decide +kernel, rfl, by decide +kernel, by decide +kernel⟩
theorem k__law_take : chkB N__law_take true (defScope (top 50)) ir__law_take (defBody (top 50)) = true := by decide +kernel
theorem s__law_q_pick : FnScope N__law_q_pick ["_law_pen", "_law_some"] (defScope (top 51)) := ⟨rfl, rfl, rfl, by decide +kernel, rfl, by decide +kernel, by decide +kernel⟩
theorem k__law_q_pick : chkB N__law_q_pick true (defScope (top 51)) ir__law_q_pick (defBody (top 51)) = true := by decide +kernel
theorem s__law_q_bad_hands : FnScope N__law_q_bad_hands ["_law_pen"] (defScope (top 53)) := ⟨rfl, rfl, rfl, by decide +kernel, rfl, by decide +kernel, by decide +kernel⟩
theorem k__law_q_bad_hands : chkB N__law_q_bad_hands true (defScope (top 53)) ir__law_q_bad_hands (defBody (top 53)) = true := by decide +kernel
theorem s__law_q_word : FnScope N__law_q_word ["_law_act"] (defScope (top 52)) := ⟨rfl, rfl, rfl, by decide +kernel, rfl, by decide +kernel, by decide +kernel⟩
theorem k__law_q_word : ∀ T, chkB N__law_q_word true (defScope (top 52)) (ir__law_q_word T) (defBody (top 52)) = true := by
  intro T
  kernel_rfl
theorem s_modes_of : FnScope N_modes_of ["axes"] (defScope (top 14)) := ⟨rfl, rfl, rfl, by decide +kernel, rfl, by decide +kernel, by decide +kernel⟩
theorem k_modes_of : chkB N_modes_of true (defScope (top 14)) ir_modes_of (defBody (top 14)) = true := by decide +kernel
theorem s_is_integer : FnScope N_is_integer ["thing", "least", "most"] (defScope (top 12)) := ⟨rfl, rfl, rfl, by decide +kernel, rfl, by decide +kernel, by decide +kernel⟩
theorem k_is_integer : chkB N_is_integer true (defScope (top 12)) ir_is_integer (defBody (top 12)) = true := by decide +kernel
theorem s_is_mode : FnScope N_is_mode ["thing"] (defScope (top 13)) := ⟨rfl, rfl, rfl, by decide +kernel, rfl, by decide +kernel, by decide +kernel⟩
theorem k_is_mode : chkB N_is_mode true (defScope (top 13)) ir_is_mode (defBody (top 13)) = true := by decide +kernel
theorem s_raw_size : FnScope N_raw_size ["axes"] (defScope (top 15)) := ⟨rfl, rfl, rfl, by decide +kernel, rfl, by decide +kernel, by decide +kernel⟩
theorem k_raw_size : chkB N_raw_size true (defScope (top 15)) ir_raw_size (defBody (top 15)) = true := by decide +kernel
theorem s_is_axes : FnScope N_is_axes ["thing"] (defScope (top 16)) := ⟨rfl, rfl, rfl, by decide +kernel, rfl, by decide +kernel, by decide +kernel⟩
theorem k_is_axes : chkB N_is_axes true (defScope (top 16)) ir_is_axes (defBody (top 16)) = true := by decide +kernel
theorem s_need_axes : FnScope N_need_axes ["axes"] (defScope (top 17)) := ⟨rfl, rfl, rfl, by decide +kernel, rfl, by decide +kernel, by decide +kernel⟩
theorem k_need_axes : chkB N_need_axes true (defScope (top 17)) ir_need_axes (defBody (top 17)) = true := by decide +kernel
theorem s_raw_reach : FnScope N_raw_reach ["axes"] (defScope (top 19)) := ⟨rfl, rfl, rfl, by decide +kernel, rfl, by decide +kernel, by decide +kernel⟩
theorem k_raw_reach : chkB N_raw_reach true (defScope (top 19)) ir_raw_reach (defBody (top 19)) = true := by decide +kernel
theorem s_chain_of : FnScope N_chain_of ["axes"] (defScope (top 23)) := ⟨rfl, rfl, rfl, by decide +kernel, rfl, by decide +kernel, by decide +kernel⟩
theorem k_chain_of : chkB N_chain_of true (defScope (top 23)) ir_chain_of (defBody (top 23)) = true := by decide +kernel
theorem s_holding_of : FnScope N_holding_of ["hands"] (defScope (top 34)) := ⟨rfl, rfl, rfl, by decide +kernel, rfl, by decide +kernel, by decide +kernel⟩
theorem k_holding_of : chkB N_holding_of true (defScope (top 34)) ir_holding_of (defBody (top 34)) = true := by decide +kernel
theorem s_does_hold_all : FnScope N_does_hold_all ["hands"] (defScope (top 35)) := ⟨rfl, rfl, rfl, by decide +kernel, rfl, by decide +kernel, by decide +kernel⟩
theorem k_does_hold_all : chkB N_does_hold_all true (defScope (top 35)) ir_does_hold_all (defBody (top 35)) = true := by decide +kernel
theorem s_need_hands : FnScope N_need_hands ["hands"] (defScope (top 36)) := ⟨rfl, rfl, rfl, by decide +kernel, rfl, by decide +kernel, by decide +kernel⟩
theorem k_need_hands : chkB N_need_hands true (defScope (top 36)) ir_need_hands (defBody (top 36)) = true := by decide +kernel
theorem s_need_work : FnScope N_need_work ["hands", "n"] (defScope (top 37)) := ⟨rfl, rfl, rfl, by decide +kernel, rfl, by decide +kernel, by decide +kernel⟩
theorem k_need_work : chkB N_need_work true (defScope (top 37)) ir_need_work (defBody (top 37)) = true := by decide +kernel
theorem s_need_below : FnScope N_need_below ["thing", "end"] (defScope (top 38)) := ⟨rfl, rfl, rfl, by decide +kernel, rfl, by decide +kernel, by decide +kernel⟩
theorem k_need_below : chkB N_need_below true (defScope (top 38)) ir_need_below (defBody (top 38)) = true := by decide +kernel
theorem s_raw_rounds : FnScope N_raw_rounds ["hands", "n"] (defScope (top 39)) := ⟨rfl, rfl, rfl, by decide +kernel, rfl, by decide +kernel, by decide +kernel⟩
theorem k_raw_rounds : chkB N_raw_rounds true (defScope (top 39)) ir_raw_rounds (defBody (top 39)) = true := by decide +kernel
theorem s_workers_of : FnScope N_workers_of ["hands"] (defScope (top 32)) := ⟨rfl, rfl, rfl, by decide +kernel, rfl, by decide +kernel, by decide +kernel⟩
theorem k_workers_of : chkB N_workers_of true (defScope (top 32)) ir_workers_of (defBody (top 32)) = true := by decide +kernel
theorem s_raw_value : FnScope N_raw_value ["axes", "index"] (defScope (top 18)) := ⟨rfl, rfl, rfl, by decide +kernel, rfl, by decide +kernel, by decide +kernel⟩
theorem k_raw_value : chkB N_raw_value true (defScope (top 18)) ir_raw_value (defBody (top 18)) = true := by decide +kernel
theorem s_element_of : FnScope N_element_of ["hands", "n", "r", "w", "k"] (defScope (top 44)) := ⟨rfl, rfl, rfl, by decide +kernel, rfl, by decide +kernel, by decide +kernel⟩
theorem k_element_of : chkB N_element_of true (defScope (top 44)) ir_element_of (defBody (top 44)) = true := by decide +kernel
theorem s_rows_for : FnScope N_rows_for ["hands", "w"] (defScope (top 40)) := ⟨rfl, rfl, rfl, by decide +kernel, rfl, by decide +kernel, by decide +kernel⟩
theorem k_rows_for : chkB N_rows_for true (defScope (top 40)) ir_rows_for (defBody (top 40)) = true := by decide +kernel
theorem s_held_below : FnScope N_held_below ["hands", "w", "place"] (defScope (top 41)) := ⟨rfl, rfl, rfl, by decide +kernel, rfl, by decide +kernel, by decide +kernel⟩
theorem k_held_below : chkB N_held_below true (defScope (top 41)) ir_held_below (defBody (top 41)) = true := by decide +kernel
theorem s_share_of : FnScope N_share_of ["hands", "n", "w"] (defScope (top 46)) := ⟨rfl, rfl, rfl, by decide +kernel, rfl, by decide +kernel, by decide +kernel⟩
theorem k_share_of : chkB N_share_of true (defScope (top 46)) ir_share_of (defBody (top 46)) = true := by decide +kernel
theorem s_rounds_of : FnScope N_rounds_of ["hands", "n"] (defScope (top 43)) := ⟨rfl, rfl, rfl, by decide +kernel, rfl, by decide +kernel, by decide +kernel⟩
theorem k_rounds_of : chkB N_rounds_of true (defScope (top 43)) ir_rounds_of (defBody (top 43)) = true := by decide +kernel
theorem s__law_q_dealt_right : FnScope N__law_q_dealt_right ["_law_some", "_law_wrong", "_law_words"] (defScope (top 54)) := ⟨rfl, rfl, rfl, by decide +kernel, rfl, by decide +kernel, by decide +kernel⟩
theorem k__law_q_dealt_right : chkB N__law_q_dealt_right true (defScope (top 54)) ir__law_q_dealt_right (defBody (top 54)) = true := by decide +kernel
theorem s_last_end : FnScope N_last_end ["chain", "many"] (defScope (top 24)) := ⟨rfl, rfl, rfl, by decide +kernel, rfl, by decide +kernel, by decide +kernel⟩
theorem k_last_end : chkB N_last_end true (defScope (top 24)) ir_last_end (defBody (top 24)) = true := by decide +kernel
theorem s_split_of : FnScope N_split_of ["chain", "number"] (defScope (top 26)) := ⟨rfl, rfl, rfl, by decide +kernel, rfl, by decide +kernel, by decide +kernel⟩
theorem k_split_of : chkB N_split_of true (defScope (top 26)) ir_split_of (defBody (top 26)) = true := by decide +kernel
theorem s_certificate_for : FnScope N_certificate_for ["chain", "many", "goal"] (defScope (top 27)) := ⟨rfl, rfl, rfl, by decide +kernel, rfl, by decide +kernel, by decide +kernel⟩
theorem k_certificate_for : chkB N_certificate_for true (defScope (top 27)) ir_certificate_for (defBody (top 27)) = true := by decide +kernel
theorem s_certificate_against : FnScope N_certificate_against ["chain", "many", "m"] (defScope (top 28)) := ⟨rfl, rfl, rfl, by decide +kernel, rfl, by decide +kernel, by decide +kernel⟩
theorem k_certificate_against : chkB N_certificate_against true (defScope (top 28)) ir_certificate_against (defBody (top 28)) = true := by decide +kernel
theorem s_sound_rows : FnScope N_sound_rows ["chain"] (defScope (top 25)) := ⟨rfl, rfl, rfl, by decide +kernel, rfl, by decide +kernel, by decide +kernel⟩
theorem k_sound_rows : chkB N_sound_rows true (defScope (top 25)) ir_sound_rows (defBody (top 25)) = true := by decide +kernel
theorem s_sound_chain : FnScope N_sound_chain ["axes", "m"] (defScope (top 29)) := ⟨rfl, rfl, rfl, by decide +kernel, rfl, by decide +kernel, by decide +kernel⟩
theorem k_sound_chain : chkB N_sound_chain true (defScope (top 29)) ir_sound_chain (defBody (top 29)) = true := by decide +kernel
theorem s_short_axis : FnScope N_short_axis ["modes"] (defScope (top 21)) := ⟨rfl, rfl, rfl, by decide +kernel, rfl, by decide +kernel, by decide +kernel⟩
theorem k_short_axis : chkB N_short_axis true (defScope (top 21)) ir_short_axis (defBody (top 21)) = true := by decide +kernel
theorem s_raw_back : FnScope N_raw_back ["axes", "m"] (defScope (top 30)) := ⟨rfl, rfl, rfl, by decide +kernel, rfl, by decide +kernel, by decide +kernel⟩
theorem k_raw_back : chkB N_raw_back true (defScope (top 30)) ir_raw_back (defBody (top 30)) = true := by decide +kernel
theorem s_where_is : FnScope N_where_is ["hands", "n", "e"] (defScope (top 45)) := ⟨rfl, rfl, rfl, by decide +kernel, rfl, by decide +kernel, by decide +kernel⟩
theorem k_where_is : chkB N_where_is true (defScope (top 45)) ir_where_is (defBody (top 45)) = true := by decide +kernel
theorem s__law_q_sought_right : FnScope N__law_q_sought_right ["_law_some", "_law_wrong", "_law_words", "_law_total", "_law_odd"] (defScope (top 55)) := ⟨rfl, rfl, rfl, by decide +kernel, rfl, by decide +kernel, by decide +kernel⟩
theorem k__law_q_sought_right : chkB N__law_q_sought_right true (defScope (top 55)) ir__law_q_sought_right (defBody (top 55)) = true := by decide +kernel
theorem s_need_pair : FnScope N_need_pair ["hands"] (defScope (top 33)) := ⟨rfl, rfl, rfl, by decide +kernel, rfl, by decide +kernel, by decide +kernel⟩
theorem k_need_pair : chkB N_need_pair true (defScope (top 33)) ir_need_pair (defBody (top 33)) = true := by decide +kernel
theorem s_holding : FnScope N_holding ["hands"] (defScope (top 42)) := ⟨rfl, rfl, rfl, by decide +kernel, rfl, by decide +kernel, by decide +kernel⟩
theorem k_holding : chkB N_holding true (defScope (top 42)) ir_holding (defBody (top 42)) = true := by decide +kernel
theorem s_law : FnScope N_law ["_law_script"] (defScope (top 56)) := ⟨rfl, rfl, rfl, by decide +kernel, rfl, by decide +kernel, by decide +kernel⟩
theorem k_law : chkB N_law true (defScope (top 56)) ir_law (defBody (top 56)) = true := by decide +kernel
section
variable {P : Program} {w : World} {K : PySem.W.Frag} {mg : Str → Option Value} {base h : Heap} (X : K.In h) (G : h.Ns mainGlobals mg) (tb : TabsB K base mg) (c : Says fa fn xf K)
include X G tb c
theorem c__law_open : CalleeG P w K mg base 1 "_law_open" 1 f__law_open := by
  obtain ⟨fd, F⟩ := c.c.def_ 0 (d := d__law_open) rfl
  exact calleeD (k := 0) (ib := ir__law_open) (ps := ["_law_script"]) F (He.glo_ok X G (c.c.fact 18 (f := .glo "_law_open") rfl)) s__law_open (free_all c.c X G) tb (c.l _ (List.mem_of_getElem? (i := 0) rfl)) k__law_open (fun _ h => nomatch h) (fun _ _ _ _ _ _ us hl => match us, hl with | [_], _ => rfl) rfl
theorem c__law_spread : CalleeG P w K mg base 1 "_law_spread" 2 f__law_spread := by
  obtain ⟨fd, F⟩ := c.c.def_ 1 (d := d__law_spread) rfl
  exact calleeD (k := 0) (ib := ir__law_spread) (ps := ["_law_cell", "_law_at"]) F (He.glo_ok X G (c.c.fact 19 (f := .glo "_law_spread") rfl)) s__law_spread (free_all c.c X G) tb (c.l _ (List.mem_of_getElem? (i := 1) rfl)) k__law_spread (fun _ h => nomatch h) (fun _ _ _ _ _ _ us hl => match us, hl with | [_, _], _ => rfl) rfl
theorem c__law_take : CalleeG P w K mg base 2 "_law_take" 2 f__law_take := by
  obtain ⟨fd, F⟩ := c.c.def_ 2 (d := d__law_take) rfl
  exact calleeD (k := 1) (ib := ir__law_take) (ps := ["_law_pen", "_law_many"]) F (He.glo_ok X G (c.c.fact 20 (f := .glo "_law_take") rfl)) s__law_take (free_all c.c X G) tb (c.l _ (List.mem_of_getElem? (i := 2) rfl)) k__law_take (List.forall_mem_cons.mpr ⟨((c__law_spread X G tb c).mono (by decide)), (fun _ h => nomatch h)⟩) (fun _ _ _ _ _ _ us hl => match us, hl with | [_, _], _ => rfl) rfl
theorem c__law_q_pick : CalleeG P w K mg base 3 "_law_q_pick" 2 f__law_q_pick := by
  obtain ⟨fd, F⟩ := c.c.def_ 3 (d := d__law_q_pick) rfl
  exact calleeD (k := 2) (ib := ir__law_q_pick) (ps := ["_law_pen", "_law_some"]) F (He.glo_ok X G (c.c.fact 21 (f := .glo "_law_q_pick") rfl)) s__law_q_pick (free_all c.c X G) tb (c.l _ (List.mem_of_getElem? (i := 3) rfl)) k__law_q_pick (List.forall_mem_cons.mpr ⟨((c__law_take X G tb c).mono (by decide)), (fun _ h => nomatch h)⟩) (fun _ _ _ _ _ _ us hl => match us, hl with | [_, _], _ => rfl) rfl
theorem c__law_q_bad_hands : CalleeG P w K mg base 4 "_law_q_bad_hands" 1 f__law_q_bad_hands := by
  obtain ⟨fd, F⟩ := c.c.def_ 4 (d := d__law_q_bad_hands) rfl
  exact calleeD (k := 3) (ib := ir__law_q_bad_hands) (ps := ["_law_pen"]) F (He.glo_ok X G (c.c.fact 22 (f := .glo "_law_q_bad_hands") rfl)) s__law_q_bad_hands (free_all c.c X G) tb (c.l _ (List.mem_of_getElem? (i := 4) rfl)) k__law_q_bad_hands (List.forall_mem_cons.mpr ⟨((c__law_take X G tb c).mono (by decide)), (List.forall_mem_cons.mpr ⟨((c__law_q_pick X G tb c).mono (by decide)), (fun _ h => nomatch h)⟩)⟩) (fun _ _ _ _ _ _ us hl => match us, hl with | [_], _ => rfl) rfl
theorem c__law_q_word (j : Nat) (hj : 1 ≤ j + 2) : CalleeT P w K mg base j "_law_q_word" f__law_q_word := by
  obtain ⟨fd, F⟩ := c.c.def_ 5 (d := d__law_q_word) rfl
  exact calleeTD (j := j) (ir := ir__law_q_word) (d := d__law_q_word) F (He.glo_ok X G (c.c.fact 23 (f := .glo "_law_q_word") rfl)) s__law_q_word (free_all c.c X G) tb (c.l _ (List.mem_of_getElem? (i := 5) rfl)) k__law_q_word rfl (fun T => (List.forall_mem_cons.mpr ⟨(.inl rfl), (List.forall_mem_cons.mpr ⟨(.inr (catch_ok X G c (c.c.fact 59 (f := .glo "FoldError") rfl) (List.forall_mem_cons.mpr ⟨(c.c.fact 60 (f := .exm "FoldError" "FoldError" true) rfl), (List.forall_mem_cons.mpr ⟨(c.c.fact 61 (f := .exm "NoAxes" "FoldError" true) rfl), (List.forall_mem_cons.mpr ⟨(c.c.fact 62 (f := .exm "NoIndex" "FoldError" true) rfl), (List.forall_mem_cons.mpr ⟨(c.c.fact 63 (f := .exm "NoCount" "FoldError" true) rfl), (List.forall_mem_cons.mpr ⟨(c.c.fact 64 (f := .exm "NoHands" "FoldError" true) rfl), (List.forall_mem_cons.mpr ⟨(c.c.fact 65 (f := .exm "NoRest" "FoldError" true) rfl), (fun _ h => nomatch h)⟩)⟩)⟩)⟩)⟩)⟩))), (List.forall_mem_cons.mpr ⟨(.inr (isx_ok X G c (c.c.fact 66 (f := .glo "NoAxes") rfl) (List.mem_of_getElem? (i := 0) rfl) (List.forall_mem_cons.mpr ⟨(List.mem_of_getElem? (i := 1) rfl), (List.forall_mem_cons.mpr ⟨(List.mem_of_getElem? (i := 2) rfl), (List.forall_mem_cons.mpr ⟨(List.mem_of_getElem? (i := 3) rfl), (List.forall_mem_cons.mpr ⟨(List.mem_of_getElem? (i := 4) rfl), (List.forall_mem_cons.mpr ⟨(List.mem_of_getElem? (i := 5) rfl), (List.forall_mem_cons.mpr ⟨(List.mem_of_getElem? (i := 6) rfl), (fun _ h => nomatch h)⟩)⟩)⟩)⟩)⟩)⟩))), (List.forall_mem_cons.mpr ⟨(.inr (isx_ok X G c (c.c.fact 67 (f := .glo "NoHands") rfl) (List.mem_of_getElem? (i := 7) rfl) (List.forall_mem_cons.mpr ⟨(List.mem_of_getElem? (i := 8) rfl), (List.forall_mem_cons.mpr ⟨(List.mem_of_getElem? (i := 9) rfl), (List.forall_mem_cons.mpr ⟨(List.mem_of_getElem? (i := 10) rfl), (List.forall_mem_cons.mpr ⟨(List.mem_of_getElem? (i := 11) rfl), (List.forall_mem_cons.mpr ⟨(List.mem_of_getElem? (i := 12) rfl), (List.forall_mem_cons.mpr ⟨(List.mem_of_getElem? (i := 13) rfl), (fun _ h => nomatch h)⟩)⟩)⟩)⟩)⟩)⟩))), (List.forall_mem_cons.mpr ⟨(.inr (isx_ok X G c (c.c.fact 68 (f := .glo "NoCount") rfl) (List.mem_of_getElem? (i := 14) rfl) (List.forall_mem_cons.mpr ⟨(List.mem_of_getElem? (i := 15) rfl), (List.forall_mem_cons.mpr ⟨(List.mem_of_getElem? (i := 16) rfl), (List.forall_mem_cons.mpr ⟨(List.mem_of_getElem? (i := 17) rfl), (List.forall_mem_cons.mpr ⟨(List.mem_of_getElem? (i := 18) rfl), (List.forall_mem_cons.mpr ⟨(List.mem_of_getElem? (i := 19) rfl), (List.forall_mem_cons.mpr ⟨(List.mem_of_getElem? (i := 20) rfl), (fun _ h => nomatch h)⟩)⟩)⟩)⟩)⟩)⟩))), (List.forall_mem_cons.mpr ⟨(.inr (isx_ok X G c (c.c.fact 69 (f := .glo "NoIndex") rfl) (List.mem_of_getElem? (i := 21) rfl) (List.forall_mem_cons.mpr ⟨(List.mem_of_getElem? (i := 22) rfl), (List.forall_mem_cons.mpr ⟨(List.mem_of_getElem? (i := 23) rfl), (List.forall_mem_cons.mpr ⟨(List.mem_of_getElem? (i := 24) rfl), (List.forall_mem_cons.mpr ⟨(List.mem_of_getElem? (i := 25) rfl), (List.forall_mem_cons.mpr ⟨(List.mem_of_getElem? (i := 26) rfl), (List.forall_mem_cons.mpr ⟨(List.mem_of_getElem? (i := 27) rfl), (fun _ h => nomatch h)⟩)⟩)⟩)⟩)⟩)⟩))), (List.forall_mem_cons.mpr ⟨(.inr (isb_ok X G c (c.c.fact 70 (f := .free "ValueError") rfl) (List.mem_of_getElem? (i := 28) rfl) (List.forall_mem_cons.mpr ⟨(List.mem_of_getElem? (i := 29) rfl), (List.forall_mem_cons.mpr ⟨(List.mem_of_getElem? (i := 30) rfl), (List.forall_mem_cons.mpr ⟨(List.mem_of_getElem? (i := 31) rfl), (List.forall_mem_cons.mpr ⟨(List.mem_of_getElem? (i := 32) rfl), (List.forall_mem_cons.mpr ⟨(List.mem_of_getElem? (i := 33) rfl), (List.forall_mem_cons.mpr ⟨(List.mem_of_getElem? (i := 34) rfl), (fun _ h => nomatch h)⟩)⟩)⟩)⟩)⟩)⟩))), (fun _ h => nomatch h)⟩)⟩)⟩)⟩)⟩)⟩)⟩)) (fun _ _ _ _ _ _ us hl => match us, hl with | [_], _ => rfl)
theorem c_modes_of : CalleeG P w K mg base 1 "modes_of" 1 f_modes_of := by
  obtain ⟨fd, F⟩ := c.c.def_ 6 (d := d_modes_of) rfl
  exact calleeD (k := 0) (ib := ir_modes_of) (ps := ["axes"]) F (He.glo_ok X G (c.c.fact 24 (f := .glo "modes_of") rfl)) s_modes_of (free_all c.c X G) tb (c.l _ (List.mem_of_getElem? (i := 6) rfl)) k_modes_of (fun _ h => nomatch h) (fun _ _ _ _ _ _ us hl => match us, hl with | [_], _ => rfl) rfl
theorem c_is_integer : CalleeG P w K mg base 1 "is_integer" 3 f_is_integer := by
  obtain ⟨fd, F⟩ := c.c.def_ 7 (d := d_is_integer) rfl
  exact calleeD (k := 0) (ib := ir_is_integer) (ps := ["thing", "least", "most"]) F (He.glo_ok X G (c.c.fact 25 (f := .glo "is_integer") rfl)) s_is_integer (free_all c.c X G) tb (c.l _ (List.mem_of_getElem? (i := 7) rfl)) k_is_integer (fun _ h => nomatch h) (fun _ _ _ _ _ _ us hl => match us, hl with | [_, _, _], _ => rfl) rfl
theorem c_is_mode : CalleeG P w K mg base 2 "is_mode" 1 f_is_mode := by
  obtain ⟨fd, F⟩ := c.c.def_ 8 (d := d_is_mode) rfl
  exact calleeD (k := 1) (ib := ir_is_mode) (ps := ["thing"]) F (He.glo_ok X G (c.c.fact 26 (f := .glo "is_mode") rfl)) s_is_mode (free_all c.c X G) tb (c.l _ (List.mem_of_getElem? (i := 8) rfl)) k_is_mode (List.forall_mem_cons.mpr ⟨((c_is_integer X G tb c).mono (by decide)), (List.forall_mem_cons.mpr ⟨(He.int_ok X G (c.c.fact 71 (f := .int "MOST_SIZE" 10000000000000000000000000000000000000000) rfl)), (List.forall_mem_cons.mpr ⟨((c_is_integer X G tb c).mono (by decide)), (List.forall_mem_cons.mpr ⟨(He.int_ok X G (c.c.fact 72 (f := .int "MOST_STRIDE" 1000000000000000000000000000000000000000000000000000000000000) rfl)), (List.forall_mem_cons.mpr ⟨(He.int_ok X G (c.c.fact 72 (f := .int "MOST_STRIDE" 1000000000000000000000000000000000000000000000000000000000000) rfl)), (fun _ h => nomatch h)⟩)⟩)⟩)⟩)⟩) (fun _ _ _ _ _ _ us hl => match us, hl with | [_], _ => rfl) rfl
theorem c_raw_size : CalleeG P w K mg base 2 "raw_size" 1 f_raw_size := by
  obtain ⟨fd, F⟩ := c.c.def_ 9 (d := d_raw_size) rfl
  exact calleeD (k := 1) (ib := ir_raw_size) (ps := ["axes"]) F (He.glo_ok X G (c.c.fact 27 (f := .glo "raw_size") rfl)) s_raw_size (free_all c.c X G) tb (c.l _ (List.mem_of_getElem? (i := 9) rfl)) k_raw_size (List.forall_mem_cons.mpr ⟨((c_modes_of X G tb c).mono (by decide)), (fun _ h => nomatch h)⟩) (fun _ _ _ _ _ _ us hl => match us, hl with | [_], _ => rfl) rfl
theorem c_is_axes : CalleeG P w K mg base 3 "is_axes" 1 f_is_axes := by
  obtain ⟨fd, F⟩ := c.c.def_ 10 (d := d_is_axes) rfl
  exact calleeD (k := 2) (ib := ir_is_axes) (ps := ["thing"]) F (He.glo_ok X G (c.c.fact 28 (f := .glo "is_axes") rfl)) s_is_axes (free_all c.c X G) tb (c.l _ (List.mem_of_getElem? (i := 10) rfl)) k_is_axes (List.forall_mem_cons.mpr ⟨(He.int_ok X G (c.c.fact 73 (f := .int "MOST_AXES" 8) rfl)), (List.forall_mem_cons.mpr ⟨((c_modes_of X G tb c).mono (by decide)), (List.forall_mem_cons.mpr ⟨(He.int_ok X G (c.c.fact 74 (f := .int "MOST_MODES" 200) rfl)), (List.forall_mem_cons.mpr ⟨((c_is_mode X G tb c).mono (by decide)), (List.forall_mem_cons.mpr ⟨((c_raw_size X G tb c).mono (by decide)), (List.forall_mem_cons.mpr ⟨(He.int_ok X G (c.c.fact 71 (f := .int "MOST_SIZE" 10000000000000000000000000000000000000000) rfl)), (fun _ h => nomatch h)⟩)⟩)⟩)⟩)⟩)⟩) (fun _ _ _ _ _ _ us hl => match us, hl with | [_], _ => rfl) rfl
theorem c_need_axes : CalleeG P w K mg base 4 "need_axes" 1 f_need_axes := by
  obtain ⟨fd, F⟩ := c.c.def_ 11 (d := d_need_axes) rfl
  exact calleeD (k := 3) (ib := ir_need_axes) (ps := ["axes"]) F (He.glo_ok X G (c.c.fact 29 (f := .glo "need_axes") rfl)) s_need_axes (free_all c.c X G) tb (c.l _ (List.mem_of_getElem? (i := 11) rfl)) k_need_axes (List.forall_mem_cons.mpr ⟨((c_is_axes X G tb c).mono (by decide)), (List.forall_mem_cons.mpr ⟨(raise_ok X G c (c.c.fact 66 (f := .glo "NoAxes") rfl) (c.c.fact 75 (f := .exc "NoAxes") rfl)), (fun _ h => nomatch h)⟩)⟩) (fun _ _ _ _ _ _ us hl => match us, hl with | [_], _ => rfl) rfl
theorem c_raw_reach : CalleeG P w K mg base 2 "raw_reach" 1 f_raw_reach := by
  obtain ⟨fd, F⟩ := c.c.def_ 12 (d := d_raw_reach) rfl
  exact calleeD (k := 1) (ib := ir_raw_reach) (ps := ["axes"]) F (He.glo_ok X G (c.c.fact 30 (f := .glo "raw_reach") rfl)) s_raw_reach (free_all c.c X G) tb (c.l _ (List.mem_of_getElem? (i := 12) rfl)) k_raw_reach (List.forall_mem_cons.mpr ⟨((c_modes_of X G tb c).mono (by decide)), (fun _ h => nomatch h)⟩) (fun _ _ _ _ _ _ us hl => match us, hl with | [_], _ => rfl) rfl
theorem c_chain_of : CalleeG P w K mg base 2 "chain_of" 1 f_chain_of := by
  obtain ⟨fd, F⟩ := c.c.def_ 13 (d := d_chain_of) rfl
  exact calleeD (k := 1) (ib := ir_chain_of) (ps := ["axes"]) F (He.glo_ok X G (c.c.fact 31 (f := .glo "chain_of") rfl)) s_chain_of (free_all c.c X G) tb (c.l _ (List.mem_of_getElem? (i := 13) rfl)) k_chain_of (List.forall_mem_cons.mpr ⟨((c_modes_of X G tb c).mono (by decide)), (fun _ h => nomatch h)⟩) (fun _ _ _ _ _ _ us hl => match us, hl with | [_], _ => rfl) rfl
theorem c_holding_of : CalleeG P w K mg base 3 "holding_of" 1 f_holding_of := by
  obtain ⟨fd, F⟩ := c.c.def_ 14 (d := d_holding_of) rfl
  exact calleeD (k := 2) (ib := ir_holding_of) (ps := ["hands"]) F (He.glo_ok X G (c.c.fact 32 (f := .glo "holding_of") rfl)) s_holding_of (free_all c.c X G) tb (c.l _ (List.mem_of_getElem? (i := 14) rfl)) k_holding_of (List.forall_mem_cons.mpr ⟨((c_raw_reach X G tb c).mono (by decide)), (List.forall_mem_cons.mpr ⟨((c_chain_of X G tb c).mono (by decide)), (fun _ h => nomatch h)⟩)⟩) (fun _ _ _ _ _ _ us hl => match us, hl with | [_], _ => rfl) rfl
theorem c_does_hold_all : CalleeG P w K mg base 4 "does_hold_all" 1 f_does_hold_all := by
  obtain ⟨fd, F⟩ := c.c.def_ 15 (d := d_does_hold_all) rfl
  exact calleeD (k := 3) (ib := ir_does_hold_all) (ps := ["hands"]) F (He.glo_ok X G (c.c.fact 33 (f := .glo "does_hold_all") rfl)) s_does_hold_all (free_all c.c X G) tb (c.l _ (List.mem_of_getElem? (i := 15) rfl)) k_does_hold_all (List.forall_mem_cons.mpr ⟨((c_holding_of X G tb c).mono (by decide)), (fun _ h => nomatch h)⟩) (fun _ _ _ _ _ _ us hl => match us, hl with | [_], _ => rfl) rfl
theorem c_need_hands : CalleeG P w K mg base 5 "need_hands" 1 f_need_hands := by
  obtain ⟨fd, F⟩ := c.c.def_ 16 (d := d_need_hands) rfl
  exact calleeD (k := 4) (ib := ir_need_hands) (ps := ["hands"]) F (He.glo_ok X G (c.c.fact 34 (f := .glo "need_hands") rfl)) s_need_hands (free_all c.c X G) tb (c.l _ (List.mem_of_getElem? (i := 16) rfl)) k_need_hands (List.forall_mem_cons.mpr ⟨((c_need_axes X G tb c).mono (by decide)), (List.forall_mem_cons.mpr ⟨((c_does_hold_all X G tb c).mono (by decide)), (List.forall_mem_cons.mpr ⟨(raise_ok X G c (c.c.fact 67 (f := .glo "NoHands") rfl) (c.c.fact 76 (f := .exc "NoHands") rfl)), (fun _ h => nomatch h)⟩)⟩)⟩) (fun _ _ _ _ _ _ us hl => match us, hl with | [_], _ => rfl) rfl
theorem c_need_work : CalleeG P w K mg base 6 "need_work" 2 f_need_work := by
  obtain ⟨fd, F⟩ := c.c.def_ 17 (d := d_need_work) rfl
  exact calleeD (k := 5) (ib := ir_need_work) (ps := ["hands", "n"]) F (He.glo_ok X G (c.c.fact 35 (f := .glo "need_work") rfl)) s_need_work (free_all c.c X G) tb (c.l _ (List.mem_of_getElem? (i := 17) rfl)) k_need_work (List.forall_mem_cons.mpr ⟨((c_need_hands X G tb c).mono (by decide)), (List.forall_mem_cons.mpr ⟨((c_is_integer X G tb c).mono (by decide)), (List.forall_mem_cons.mpr ⟨(He.int_ok X G (c.c.fact 71 (f := .int "MOST_SIZE" 10000000000000000000000000000000000000000) rfl)), (List.forall_mem_cons.mpr ⟨(raise_ok X G c (c.c.fact 68 (f := .glo "NoCount") rfl) (c.c.fact 77 (f := .exc "NoCount") rfl)), (fun _ h => nomatch h)⟩)⟩)⟩)⟩) (fun _ _ _ _ _ _ us hl => match us, hl with | [_, _], _ => rfl) rfl
theorem c_need_below : CalleeG P w K mg base 2 "need_below" 2 f_need_below := by
  obtain ⟨fd, F⟩ := c.c.def_ 18 (d := d_need_below) rfl
  exact calleeD (k := 1) (ib := ir_need_below) (ps := ["thing", "end"]) F (He.glo_ok X G (c.c.fact 36 (f := .glo "need_below") rfl)) s_need_below (free_all c.c X G) tb (c.l _ (List.mem_of_getElem? (i := 18) rfl)) k_need_below (List.forall_mem_cons.mpr ⟨((c_is_integer X G tb c).mono (by decide)), (List.forall_mem_cons.mpr ⟨(raise_ok X G c (c.c.fact 69 (f := .glo "NoIndex") rfl) (c.c.fact 78 (f := .exc "NoIndex") rfl)), (fun _ h => nomatch h)⟩)⟩) (fun _ _ _ _ _ _ us hl => match us, hl with | [_, _], _ => rfl) rfl
theorem c_raw_rounds : CalleeG P w K mg base 3 "raw_rounds" 2 f_raw_rounds := by
  obtain ⟨fd, F⟩ := c.c.def_ 19 (d := d_raw_rounds) rfl
  exact calleeD (k := 2) (ib := ir_raw_rounds) (ps := ["hands", "n"]) F (He.glo_ok X G (c.c.fact 37 (f := .glo "raw_rounds") rfl)) s_raw_rounds (free_all c.c X G) tb (c.l _ (List.mem_of_getElem? (i := 19) rfl)) k_raw_rounds (List.forall_mem_cons.mpr ⟨((c_raw_size X G tb c).mono (by decide)), (fun _ h => nomatch h)⟩) (fun _ _ _ _ _ _ us hl => match us, hl with | [_, _], _ => rfl) rfl
theorem c_workers_of : CalleeG P w K mg base 3 "workers_of" 1 f_workers_of := by
  obtain ⟨fd, F⟩ := c.c.def_ 20 (d := d_workers_of) rfl
  exact calleeD (k := 2) (ib := ir_workers_of) (ps := ["hands"]) F (He.glo_ok X G (c.c.fact 38 (f := .glo "workers_of") rfl)) s_workers_of (free_all c.c X G) tb (c.l _ (List.mem_of_getElem? (i := 20) rfl)) k_workers_of (List.forall_mem_cons.mpr ⟨((c_raw_size X G tb c).mono (by decide)), (fun _ h => nomatch h)⟩) (fun _ _ _ _ _ _ us hl => match us, hl with | [_], _ => rfl) rfl
theorem c_raw_value : CalleeG P w K mg base 2 "raw_value" 2 f_raw_value := by
  obtain ⟨fd, F⟩ := c.c.def_ 21 (d := d_raw_value) rfl
  exact calleeD (k := 1) (ib := ir_raw_value) (ps := ["axes", "index"]) F (He.glo_ok X G (c.c.fact 39 (f := .glo "raw_value") rfl)) s_raw_value (free_all c.c X G) tb (c.l _ (List.mem_of_getElem? (i := 21) rfl)) k_raw_value (List.forall_mem_cons.mpr ⟨((c_modes_of X G tb c).mono (by decide)), (fun _ h => nomatch h)⟩) (fun _ _ _ _ _ _ us hl => match us, hl with | [_, _], _ => rfl) rfl
theorem c_element_of : CalleeG P w K mg base 7 "element_of" 5 f_element_of := by
  obtain ⟨fd, F⟩ := c.c.def_ 22 (d := d_element_of) rfl
  exact calleeD (k := 6) (ib := ir_element_of) (ps := ["hands", "n", "r", "w", "k"]) F (He.glo_ok X G (c.c.fact 40 (f := .glo "element_of") rfl)) s_element_of (free_all c.c X G) tb (c.l _ (List.mem_of_getElem? (i := 22) rfl)) k_element_of (List.forall_mem_cons.mpr ⟨((c_need_work X G tb c).mono (by decide)), (List.forall_mem_cons.mpr ⟨((c_need_below X G tb c).mono (by decide)), (List.forall_mem_cons.mpr ⟨((c_raw_rounds X G tb c).mono (by decide)), (List.forall_mem_cons.mpr ⟨((c_need_below X G tb c).mono (by decide)), (List.forall_mem_cons.mpr ⟨((c_workers_of X G tb c).mono (by decide)), (List.forall_mem_cons.mpr ⟨((c_need_below X G tb c).mono (by decide)), (List.forall_mem_cons.mpr ⟨((c_raw_size X G tb c).mono (by decide)), (List.forall_mem_cons.mpr ⟨((c_raw_size X G tb c).mono (by decide)), (List.forall_mem_cons.mpr ⟨((c_raw_value X G tb c).mono (by decide)), (List.forall_mem_cons.mpr ⟨((c_workers_of X G tb c).mono (by decide)), (fun _ h => nomatch h)⟩)⟩)⟩)⟩)⟩)⟩)⟩)⟩)⟩)⟩) (fun _ _ _ _ _ _ us hl => match us, hl with | [_, _, _, _, _], _ => rfl) rfl
theorem c_rows_for : CalleeG P w K mg base 1 "rows_for" 2 f_rows_for := by
  obtain ⟨fd, F⟩ := c.c.def_ 23 (d := d_rows_for) rfl
  exact calleeD (k := 0) (ib := ir_rows_for) (ps := ["hands", "w"]) F (He.glo_ok X G (c.c.fact 41 (f := .glo "rows_for") rfl)) s_rows_for (free_all c.c X G) tb (c.l _ (List.mem_of_getElem? (i := 23) rfl)) k_rows_for (fun _ h => nomatch h) (fun _ _ _ _ _ _ us hl => match us, hl with | [_, _], _ => rfl) rfl
theorem c_held_below : CalleeG P w K mg base 3 "held_below" 3 f_held_below := by
  obtain ⟨fd, F⟩ := c.c.def_ 24 (d := d_held_below) rfl
  exact calleeD (k := 2) (ib := ir_held_below) (ps := ["hands", "w", "place"]) F (He.glo_ok X G (c.c.fact 42 (f := .glo "held_below") rfl)) s_held_below (free_all c.c X G) tb (c.l _ (List.mem_of_getElem? (i := 24) rfl)) k_held_below (List.forall_mem_cons.mpr ⟨((c_rows_for X G tb c).mono (by decide)), (List.forall_mem_cons.mpr ⟨((c_raw_size X G tb c).mono (by decide)), (fun _ h => nomatch h)⟩)⟩) (fun _ _ _ _ _ _ us hl => match us, hl with | [_, _, _], _ => rfl) rfl
theorem c_share_of : CalleeG P w K mg base 7 "share_of" 3 f_share_of := by
  obtain ⟨fd, F⟩ := c.c.def_ 25 (d := d_share_of) rfl
  exact calleeD (k := 6) (ib := ir_share_of) (ps := ["hands", "n", "w"]) F (He.glo_ok X G (c.c.fact 43 (f := .glo "share_of") rfl)) s_share_of (free_all c.c X G) tb (c.l _ (List.mem_of_getElem? (i := 25) rfl)) k_share_of (List.forall_mem_cons.mpr ⟨((c_need_work X G tb c).mono (by decide)), (List.forall_mem_cons.mpr ⟨((c_need_below X G tb c).mono (by decide)), (List.forall_mem_cons.mpr ⟨((c_workers_of X G tb c).mono (by decide)), (List.forall_mem_cons.mpr ⟨((c_raw_size X G tb c).mono (by decide)), (List.forall_mem_cons.mpr ⟨((c_raw_size X G tb c).mono (by decide)), (List.forall_mem_cons.mpr ⟨((c_held_below X G tb c).mono (by decide)), (fun _ h => nomatch h)⟩)⟩)⟩)⟩)⟩)⟩) (fun _ _ _ _ _ _ us hl => match us, hl with | [_, _, _], _ => rfl) rfl
theorem c_rounds_of : CalleeG P w K mg base 7 "rounds_of" 2 f_rounds_of := by
  obtain ⟨fd, F⟩ := c.c.def_ 26 (d := d_rounds_of) rfl
  exact calleeD (k := 6) (ib := ir_rounds_of) (ps := ["hands", "n"]) F (He.glo_ok X G (c.c.fact 44 (f := .glo "rounds_of") rfl)) s_rounds_of (free_all c.c X G) tb (c.l _ (List.mem_of_getElem? (i := 26) rfl)) k_rounds_of (List.forall_mem_cons.mpr ⟨((c_need_work X G tb c).mono (by decide)), (List.forall_mem_cons.mpr ⟨((c_raw_rounds X G tb c).mono (by decide)), (fun _ h => nomatch h)⟩)⟩) (fun _ _ _ _ _ _ us hl => match us, hl with | [_, _], _ => rfl) rfl
theorem c__law_q_dealt_right : CalleeG P w K mg base 10 "_law_q_dealt_right" 3 f__law_q_dealt_right := by
  obtain ⟨fd, F⟩ := c.c.def_ 27 (d := d__law_q_dealt_right) rfl
  exact calleeD (k := 9) (ib := ir__law_q_dealt_right) (ps := ["_law_some", "_law_wrong", "_law_words"]) F (He.glo_ok X G (c.c.fact 45 (f := .glo "_law_q_dealt_right") rfl)) s__law_q_dealt_right (free_all c.c X G) tb (c.l _ (List.mem_of_getElem? (i := 27) rfl)) k__law_q_dealt_right (List.forall_mem_cons.mpr ⟨⟨7, rfl, c__law_q_word X G tb c 7 (by decide)⟩, (List.forall_mem_cons.mpr ⟨⟨7, rfl, ((c_element_of X G tb c).mono (by decide))⟩, (List.forall_mem_cons.mpr ⟨⟨7, rfl, c__law_q_word X G tb c 7 (by decide)⟩, (List.forall_mem_cons.mpr ⟨⟨7, rfl, ((c_share_of X G tb c).mono (by decide))⟩, (List.forall_mem_cons.mpr ⟨⟨7, rfl, c__law_q_word X G tb c 7 (by decide)⟩, (List.forall_mem_cons.mpr ⟨⟨7, rfl, ((c_rounds_of X G tb c).mono (by decide))⟩, (fun _ h => nomatch h)⟩)⟩)⟩)⟩)⟩)⟩) (fun _ _ _ _ _ _ us hl => match us, hl with | [_, _, _], _ => rfl) rfl
theorem c_last_end : CalleeG P w K mg base 1 "last_end" 2 f_last_end := by
  obtain ⟨fd, F⟩ := c.c.def_ 28 (d := d_last_end) rfl
  exact calleeD (k := 0) (ib := ir_last_end) (ps := ["chain", "many"]) F (He.glo_ok X G (c.c.fact 46 (f := .glo "last_end") rfl)) s_last_end (free_all c.c X G) tb (c.l _ (List.mem_of_getElem? (i := 28) rfl)) k_last_end (fun _ h => nomatch h) (fun _ _ _ _ _ _ us hl => match us, hl with | [_, _], _ => rfl) rfl
theorem c_split_of : CalleeG P w K mg base 2 "split_of" 2 f_split_of := by
  obtain ⟨fd, F⟩ := c.c.def_ 29 (d := d_split_of) rfl
  exact calleeD (k := 1) (ib := ir_split_of) (ps := ["chain", "number"]) F (He.glo_ok X G (c.c.fact 47 (f := .glo "split_of") rfl)) s_split_of (free_all c.c X G) tb (c.l _ (List.mem_of_getElem? (i := 29) rfl)) k_split_of (List.forall_mem_cons.mpr ⟨((c_last_end X G tb c).mono (by decide)), (fun _ h => nomatch h)⟩) (fun _ _ _ _ _ _ us hl => match us, hl with | [_, _], _ => rfl) rfl
theorem c_certificate_for : CalleeG P w K mg base 3 "certificate_for" 3 f_certificate_for := by
  obtain ⟨fd, F⟩ := c.c.def_ 30 (d := d_certificate_for) rfl
  exact calleeD (k := 2) (ib := ir_certificate_for) (ps := ["chain", "many", "goal"]) F (He.glo_ok X G (c.c.fact 48 (f := .glo "certificate_for") rfl)) s_certificate_for (free_all c.c X G) tb (c.l _ (List.mem_of_getElem? (i := 30) rfl)) k_certificate_for (List.forall_mem_cons.mpr ⟨((c_last_end X G tb c).mono (by decide)), (List.forall_mem_cons.mpr ⟨((c_split_of X G tb c).mono (by decide)), (fun _ h => nomatch h)⟩)⟩) (fun _ _ _ _ _ _ us hl => match us, hl with | [_, _, _], _ => rfl) rfl
theorem c_certificate_against : CalleeG P w K mg base 4 "certificate_against" 3 f_certificate_against := by
  obtain ⟨fd, F⟩ := c.c.def_ 31 (d := d_certificate_against) rfl
  exact calleeD (k := 3) (ib := ir_certificate_against) (ps := ["chain", "many", "m"]) F (He.glo_ok X G (c.c.fact 49 (f := .glo "certificate_against") rfl)) s_certificate_against (free_all c.c X G) tb (c.l _ (List.mem_of_getElem? (i := 31) rfl)) k_certificate_against (List.forall_mem_cons.mpr ⟨((c_certificate_for X G tb c).mono (by decide)), (List.forall_mem_cons.mpr ⟨((c_last_end X G tb c).mono (by decide)), (List.forall_mem_cons.mpr ⟨((c_certificate_for X G tb c).mono (by decide)), (fun _ h => nomatch h)⟩)⟩)⟩) (fun _ _ _ _ _ _ us hl => match us, hl with | [_, _, _], _ => rfl) rfl
theorem c_sound_rows : CalleeG P w K mg base 2 "sound_rows" 1 f_sound_rows := by
  obtain ⟨fd, F⟩ := c.c.def_ 32 (d := d_sound_rows) rfl
  exact calleeD (k := 1) (ib := ir_sound_rows) (ps := ["chain"]) F (He.glo_ok X G (c.c.fact 50 (f := .glo "sound_rows") rfl)) s_sound_rows (free_all c.c X G) tb (c.l _ (List.mem_of_getElem? (i := 32) rfl)) k_sound_rows (List.forall_mem_cons.mpr ⟨((c_last_end X G tb c).mono (by decide)), (fun _ h => nomatch h)⟩) (fun _ _ _ _ _ _ us hl => match us, hl with | [_], _ => rfl) rfl
theorem c_sound_chain : CalleeG P w K mg base 5 "sound_chain" 2 f_sound_chain := by
  obtain ⟨fd, F⟩ := c.c.def_ 33 (d := d_sound_chain) rfl
  exact calleeD (k := 4) (ib := ir_sound_chain) (ps := ["axes", "m"]) F (He.glo_ok X G (c.c.fact 51 (f := .glo "sound_chain") rfl)) s_sound_chain (free_all c.c X G) tb (c.l _ (List.mem_of_getElem? (i := 33) rfl)) k_sound_chain (List.forall_mem_cons.mpr ⟨((c_chain_of X G tb c).mono (by decide)), (List.forall_mem_cons.mpr ⟨((c_certificate_against X G tb c).mono (by decide)), (List.forall_mem_cons.mpr ⟨((c_sound_rows X G tb c).mono (by decide)), (fun _ h => nomatch h)⟩)⟩)⟩) (fun _ _ _ _ _ _ us hl => match us, hl with | [_, _], _ => rfl) rfl
theorem c_short_axis : CalleeG P w K mg base 1 "short_axis" 1 f_short_axis := by
  obtain ⟨fd, F⟩ := c.c.def_ 34 (d := d_short_axis) rfl
  exact calleeD (k := 0) (ib := ir_short_axis) (ps := ["modes"]) F (He.glo_ok X G (c.c.fact 52 (f := .glo "short_axis") rfl)) s_short_axis (free_all c.c X G) tb (c.l _ (List.mem_of_getElem? (i := 34) rfl)) k_short_axis (fun _ h => nomatch h) (fun _ _ _ _ _ _ us hl => match us, hl with | [_], _ => rfl) rfl
theorem c_raw_back : CalleeG P w K mg base 6 "raw_back" 2 f_raw_back := by
  obtain ⟨fd, F⟩ := c.c.def_ 35 (d := d_raw_back) rfl
  exact calleeD (k := 5) (ib := ir_raw_back) (ps := ["axes", "m"]) F (He.glo_ok X G (c.c.fact 53 (f := .glo "raw_back") rfl)) s_raw_back (free_all c.c X G) tb (c.l _ (List.mem_of_getElem? (i := 35) rfl)) k_raw_back (List.forall_mem_cons.mpr ⟨((c_sound_chain X G tb c).mono (by decide)), (List.forall_mem_cons.mpr ⟨((c_short_axis X G tb c).mono (by decide)), (fun _ h => nomatch h)⟩)⟩) (fun _ _ _ _ _ _ us hl => match us, hl with | [_, _], _ => rfl) rfl
theorem c_where_is : CalleeG P w K mg base 7 "where_is" 3 f_where_is := by
  obtain ⟨fd, F⟩ := c.c.def_ 36 (d := d_where_is) rfl
  exact calleeD (k := 6) (ib := ir_where_is) (ps := ["hands", "n", "e"]) F (He.glo_ok X G (c.c.fact 54 (f := .glo "where_is") rfl)) s_where_is (free_all c.c X G) tb (c.l _ (List.mem_of_getElem? (i := 36) rfl)) k_where_is (List.forall_mem_cons.mpr ⟨((c_need_work X G tb c).mono (by decide)), (List.forall_mem_cons.mpr ⟨((c_need_below X G tb c).mono (by decide)), (List.forall_mem_cons.mpr ⟨((c_raw_size X G tb c).mono (by decide)), (List.forall_mem_cons.mpr ⟨((c_raw_value X G tb c).mono (by decide)), (List.forall_mem_cons.mpr ⟨((c_raw_back X G tb c).mono (by decide)), (List.forall_mem_cons.mpr ⟨((c_workers_of X G tb c).mono (by decide)), (List.forall_mem_cons.mpr ⟨((c_workers_of X G tb c).mono (by decide)), (fun _ h => nomatch h)⟩)⟩)⟩)⟩)⟩)⟩)⟩) (fun _ _ _ _ _ _ us hl => match us, hl with | [_, _, _], _ => rfl) rfl
theorem c__law_q_sought_right : CalleeG P w K mg base 10 "_law_q_sought_right" 5 f__law_q_sought_right := by
  obtain ⟨fd, F⟩ := c.c.def_ 37 (d := d__law_q_sought_right) rfl
  exact calleeD (k := 9) (ib := ir__law_q_sought_right) (ps := ["_law_some", "_law_wrong", "_law_words", "_law_total", "_law_odd"]) F (He.glo_ok X G (c.c.fact 55 (f := .glo "_law_q_sought_right") rfl)) s__law_q_sought_right (free_all c.c X G) tb (c.l _ (List.mem_of_getElem? (i := 37) rfl)) k__law_q_sought_right (List.forall_mem_cons.mpr ⟨⟨7, rfl, c__law_q_word X G tb c 7 (by decide)⟩, (List.forall_mem_cons.mpr ⟨⟨7, rfl, ((c_where_is X G tb c).mono (by decide))⟩, (List.forall_mem_cons.mpr ⟨⟨7, rfl, c__law_q_word X G tb c 7 (by decide)⟩, (List.forall_mem_cons.mpr ⟨⟨7, rfl, ((c_where_is X G tb c).mono (by decide))⟩, (fun _ h => nomatch h)⟩)⟩)⟩)⟩) (fun _ _ _ _ _ _ us hl => match us, hl with | [_, _, _, _, _], _ => rfl) rfl
theorem c_need_pair : CalleeG P w K mg base 5 "need_pair" 1 f_need_pair := by
  obtain ⟨fd, F⟩ := c.c.def_ 38 (d := d_need_pair) rfl
  exact calleeD (k := 4) (ib := ir_need_pair) (ps := ["hands"]) F (He.glo_ok X G (c.c.fact 56 (f := .glo "need_pair") rfl)) s_need_pair (free_all c.c X G) tb (c.l _ (List.mem_of_getElem? (i := 38) rfl)) k_need_pair (List.forall_mem_cons.mpr ⟨((c_need_axes X G tb c).mono (by decide)), (List.forall_mem_cons.mpr ⟨(raise_ok X G c (c.c.fact 67 (f := .glo "NoHands") rfl) (c.c.fact 76 (f := .exc "NoHands") rfl)), (fun _ h => nomatch h)⟩)⟩) (fun _ _ _ _ _ _ us hl => match us, hl with | [_], _ => rfl) rfl
theorem c_holding : CalleeG P w K mg base 6 "holding" 1 f_holding := by
  obtain ⟨fd, F⟩ := c.c.def_ 39 (d := d_holding) rfl
  exact calleeD (k := 5) (ib := ir_holding) (ps := ["hands"]) F (He.glo_ok X G (c.c.fact 57 (f := .glo "holding") rfl)) s_holding (free_all c.c X G) tb (c.l _ (List.mem_of_getElem? (i := 39) rfl)) k_holding (List.forall_mem_cons.mpr ⟨((c_need_pair X G tb c).mono (by decide)), (List.forall_mem_cons.mpr ⟨((c_holding_of X G tb c).mono (by decide)), (fun _ h => nomatch h)⟩)⟩) (fun _ _ _ _ _ _ us hl => match us, hl with | [_], _ => rfl) rfl
theorem c_law : CalleeG P w K mg base 11 "law" 1 f_law := by
  obtain ⟨fd, F⟩ := c.c.def_ 40 (d := d_law) rfl
  exact calleeD (k := 10) (ib := ir_law) (ps := ["_law_script"]) F (He.glo_ok X G (c.c.fact 58 (f := .glo "law") rfl)) s_law (free_all c.c X G) tb (c.l _ (List.mem_of_getElem? (i := 40) rfl)) k_law (List.forall_mem_cons.mpr ⟨((c__law_open X G tb c).mono (by decide)), (List.forall_mem_cons.mpr ⟨((c__law_take X G tb c).mono (by decide)), (List.forall_mem_cons.mpr ⟨((c__law_take X G tb c).mono (by decide)), (List.forall_mem_cons.mpr ⟨((c__law_take X G tb c).mono (by decide)), (List.forall_mem_cons.mpr ⟨((c__law_take X G tb c).mono (by decide)), (List.forall_mem_cons.mpr ⟨((c__law_q_pick X G tb c).mono (by decide)), (List.forall_mem_cons.mpr ⟨((c__law_q_bad_hands X G tb c).mono (by decide)), (List.forall_mem_cons.mpr ⟨((c__law_q_pick X G tb c).mono (by decide)), (List.forall_mem_cons.mpr ⟨((c__law_q_pick X G tb c).mono (by decide)), (List.forall_mem_cons.mpr ⟨((c__law_q_dealt_right X G tb c).mono (by decide)), (List.forall_mem_cons.mpr ⟨((c__law_q_sought_right X G tb c).mono (by decide)), (List.forall_mem_cons.mpr ⟨((c__law_q_pick X G tb c).mono (by decide)), (List.forall_mem_cons.mpr ⟨⟨8, rfl, c__law_q_word X G tb c 8 (by decide)⟩, (List.forall_mem_cons.mpr ⟨⟨8, rfl, ((c_holding X G tb c).mono (by decide))⟩, (List.forall_mem_cons.mpr ⟨⟨8, rfl, c__law_q_word X G tb c 8 (by decide)⟩, (List.forall_mem_cons.mpr ⟨⟨8, rfl, ((c_element_of X G tb c).mono (by decide))⟩, (List.forall_mem_cons.mpr ⟨((c_rounds_of X G tb c).mono (by decide)), (List.forall_mem_cons.mpr ⟨⟨8, rfl, c__law_q_word X G tb c 8 (by decide)⟩, (List.forall_mem_cons.mpr ⟨⟨8, rfl, ((c_where_is X G tb c).mono (by decide))⟩, (List.forall_mem_cons.mpr ⟨((c_share_of X G tb c).mono (by decide)), (fun _ h => nomatch h)⟩)⟩)⟩)⟩)⟩)⟩)⟩)⟩)⟩)⟩)⟩)⟩)⟩)⟩)⟩)⟩)⟩)⟩)⟩)⟩) (fun _ _ _ _ _ _ us hl => match us, hl with | [_], _ => rfl) rfl
end
def loose0 : List Str := ["__name__", "FoldError", "NoAxes", "NoIndex", "NoCount", "NoHands", "NoRest", "MOST_SIZE", "MOST_STRIDE", "MOST_AXES", "MOST_MODES", "is_integer", "is_mode", "modes_of", "raw_size", "is_axes"]
def loose1 : List Str := ["need_axes", "raw_value", "raw_reach", "short_axis", "chain_of", "last_end", "sound_rows", "split_of", "certificate_for", "certificate_against", "sound_chain", "raw_back", "workers_of", "need_pair", "holding_of", "does_hold_all"]
def loose2 : List Str := ["need_hands", "need_work", "need_below", "raw_rounds", "rows_for", "held_below", "holding", "rounds_of", "element_of", "where_is", "share_of", "_law_spread", "_law_open", "_law_take", "_law_q_pick", "_law_q_word"]
def loose3 : List Str := ["_law_q_bad_hands", "_law_q_dealt_right", "_law_q_sought_right"]
def loose : List Str := loose0 ++ loose1 ++ loose2 ++ loose3
abbrev RowL : PySem.W.OpenRow := PySem.W.OpenLaw.row PySem.Challenge.rw_pacefold_k84_work_refused
abbrev hk : PySem.W.Hook := hookT 4 fa fn xf
def ob (s : PySem.W.SharedT) : He.AlD := obsTG 4 fa fn xf (HandSHeadRun.getT s)
theorem ob_eq (s : PySem.W.SharedT) : ob s = hk.obs s.abs := obsTG_eq (HandSHeadRun.getT_eq s)
set_option maxHeartbeats 0 in
theorem run (w : World) : HandSHeadRun.RunEq RowL (PySem.W.view RowL.prog [56]) hk ob 4000 loose w := by
  intro os
  kernel_rfl
theorem law_fact {P : Program} {w : World} {K : PySem.W.Frag} {mg : Str → Option Value} {h : Heap} {f : Addr} (X : K.In h) (G : h.Ns mainGlobals mg) (hm : mg ("law" : Str) = some (.ref f)) (c : Says fa fn xf K) :
    ∃ fd : FuncData, (∀ (s : Shared) (u : Value), BindsTo s fd ⟨[u], []⟩ [("_law_script", u)]) ∧ ∀ base : Heap, K.In base → base.Ns mainGlobals mg → TabsB K base mg → FnG P w K mg base 11 f fd ["_law_script"] (spF K mg 1 f_law) := by
  obtain ⟨fd, F⟩ := c.c.def_ 40 (d := d_law) rfl
  have e := hm.symm.trans (He.glo_ok X G (c.c.fact 58 (f := .glo "law") rfl))
  cases e
  refine ⟨fd, fun s u => FunD.bindsA (ps := ["_law_script"]) F (fun _ _ _ _ _ _ us hl => match us, hl with | [_], _ => rfl) s [u] rfl, fun base _ _ tb => ?_⟩
  exact fnG_sem (k := 10) (ib := ir_law) (ps := ["_law_script"]) F s_law (free_all c.c X G) tb (lamD_ok (c.l d_law (List.mem_of_getElem? (i := 40) rfl))) k_law (List.forall_mem_cons.mpr ⟨((c__law_open X G tb c).mono (by decide)), (List.forall_mem_cons.mpr ⟨((c__law_take X G tb c).mono (by decide)), (List.forall_mem_cons.mpr ⟨((c__law_take X G tb c).mono (by decide)), (List.forall_mem_cons.mpr ⟨((c__law_take X G tb c).mono (by decide)), (List.forall_mem_cons.mpr ⟨((c__law_take X G tb c).mono (by decide)), (List.forall_mem_cons.mpr ⟨((c__law_q_pick X G tb c).mono (by decide)), (List.forall_mem_cons.mpr ⟨((c__law_q_bad_hands X G tb c).mono (by decide)), (List.forall_mem_cons.mpr ⟨((c__law_q_pick X G tb c).mono (by decide)), (List.forall_mem_cons.mpr ⟨((c__law_q_pick X G tb c).mono (by decide)), (List.forall_mem_cons.mpr ⟨((c__law_q_dealt_right X G tb c).mono (by decide)), (List.forall_mem_cons.mpr ⟨((c__law_q_sought_right X G tb c).mono (by decide)), (List.forall_mem_cons.mpr ⟨((c__law_q_pick X G tb c).mono (by decide)), (List.forall_mem_cons.mpr ⟨⟨8, rfl, c__law_q_word X G tb c 8 (by decide)⟩, (List.forall_mem_cons.mpr ⟨⟨8, rfl, ((c_holding X G tb c).mono (by decide))⟩, (List.forall_mem_cons.mpr ⟨⟨8, rfl, c__law_q_word X G tb c 8 (by decide)⟩, (List.forall_mem_cons.mpr ⟨⟨8, rfl, ((c_element_of X G tb c).mono (by decide))⟩, (List.forall_mem_cons.mpr ⟨((c_rounds_of X G tb c).mono (by decide)), (List.forall_mem_cons.mpr ⟨⟨8, rfl, c__law_q_word X G tb c 8 (by decide)⟩, (List.forall_mem_cons.mpr ⟨⟨8, rfl, ((c_where_is X G tb c).mono (by decide))⟩, (List.forall_mem_cons.mpr ⟨((c_share_of X G tb c).mono (by decide)), (fun _ h => nomatch h)⟩)⟩)⟩)⟩)⟩)⟩)⟩)⟩)⟩)⟩)⟩)⟩)⟩)⟩)⟩)⟩)⟩)⟩)⟩)⟩) fun sto ds _ => exit_dropJ sto _
end K84

open PySem PySem.W PySem.Calls PyProof.Rows in
set_option maxHeartbeats 0 in
/-- the law, from what its evaluator tells of each script -/
theorem K84.holds_of (hg : ∀ ns : List Int, ns.length ≤ 63 → K84.f_law [] [.scr ns] = .ok (.bl true) []) : PySem.Challenge.rw_pacefold_k84_work_refused.Holds := by
  w_on; o_law
  refine HandSHeadRun.head_any (r := K84.RowL) (q := view K84.RowL.prog [56]) (H := K84.hk) (ob := K84.ob) (M := 4000) (loose := K84.loose) (d := HandSHeadRun.topDef K84.RowL.prog 56) (kwd := []) K84.ob_eq
    (by kernel_rfl) (fun s => by kernel_rfl) K84.run (by kernel_rfl) (by kernel_rfl) (by kernel_rfl) (by rfl) (by first | assumption | decide +kernel) (by decide +kernel) ⟨rfl, rfl, rfl, rfl, rfl, by decide +kernel⟩ ?hw ?hc
  case hw => w_witness2
  case hc =>
    refine DV.walkG (l := PySem.Challenge.rw_pacefold_k84_work_refused) (n := 63) (k := 11) (x := "_law_script") (g := K84.f_law) rfl (by decide) (by kernel_rfl) ⟨rfl, by decide, by decide⟩ ?F hg
    intro w mg fa h Y G hm0
    obtain ⟨K, KX, c, ht, uq⟩ := Y
    have hm : mg ("law" : PySem.Str) = some (.ref fa) := by
      have e : (HandSHeadRun.topDef K84.RowL.prog 56).name = ("law" : PySem.Str) := by kernel_rfl
      rw [← e]
      exact hm0
    obtain ⟨fd, hb, hF⟩ := K84.law_fact (P := (PySem.Challenge.rw_pacefold_k84_work_refused).prog) (w := w) KX G hm c
    exact ⟨K, fd, KX, ht, uq, hb, hF⟩

namespace K84
open PySem PySem.Spec L2 DV PF Mix
theorem holding_ok (s : Sto) {h : List (List Mode)} (g : Hnd h) : f_holding s [eH h] = .ok .non s := by
  have e1 := is_axes_ok s h (by have := g.two; omega) (by have := g.few; omega) g.ok g.many
  have e2 := holding_of_ok s h (by have := g.few; omega) g.ok
  rw [g.full] at e2
  have h2 := g.two
  have e3 : f_need_axes s [eH h] = .ok .non s := by
    refine fnD_of ?_ (by rw [bnd])
    simp -implicitDefEqProofs [b_nil, b_cons, b_ifs, b_for, b_while, semS, e_lc, e_lc2, e_var, e_int, e_bl, e_non, e_str, e_glob, e_bin, e_neg, e_tst, e_ife, e_tup, e_lst, e_ix, e_slc, e_rev, e_call, e_callK, permL, e_bi, e_isi, e_meth, e_fz, e_fzl, e_sortK, e_isx, e_isb, e_fld, e_callT, e_emp, b_try, isxSem, fldSem, actSem, actOut, catchO, onlyT_at, semEs, semT, semAnd, semOr, semO, semC, semI, R.bind_ok, R.bind_ex, R.bind_bad, R.out_ok, R.out_ex, R.out_bad, thn_nx, thn_ret, thn_brk, thn_ct, thn_ex, thn_bad, val_nx, val_ret, val_ex, tgSem, tgsSem, binSem, addSem, augSem, ixSem, seqOf, lstOf, lstT, newL, cmpSem, cmpInts, cmpI, eqD_int, DV.isNon, biSem, biLen, biInt, biList, biTuple, biTwo, isi_ii, isi_ib, isi_il, isi_it, isi_ll, isi_li, isi_lt, isi_tt, isi_tl, isi_ti, itemsOf, litOf, at0, at1, at2, ix30, ix31, ix32, sl0, sl1, sl2, sl3, sl4, sl5, sl6, sl7, sl8, sl9, sl10, sl11, sl12, sl13, sl14, fnSem, startE, wipeE, N_need_axes, ir_need_axes, e1]
  have e4 : f_need_pair s [eH h] = .ok .non s := by
    refine fnD_of ?_ (by rw [bnd])
    unfold eH at *
    simp -implicitDefEqProofs [b_nil, b_cons, b_ifs, b_for, b_while, semS, e_lc, e_lc2, e_var, e_int, e_bl, e_non, e_str, e_glob, e_bin, e_neg, e_tst, e_ife, e_tup, e_lst, e_ix, e_slc, e_rev, e_call, e_callK, permL, e_bi, e_isi, e_meth, e_fz, e_fzl, e_sortK, e_isx, e_isb, e_fld, e_callT, e_emp, b_try, isxSem, fldSem, actSem, actOut, catchO, onlyT_at, semEs, semT, semAnd, semOr, semO, semC, semI, R.bind_ok, R.bind_ex, R.bind_bad, R.out_ok, R.out_ex, R.out_bad, thn_nx, thn_ret, thn_brk, thn_ct, thn_ex, thn_bad, val_nx, val_ret, val_ex, tgSem, tgsSem, binSem, addSem, augSem, ixSem, seqOf, lstOf, lstT, newL, cmpSem, cmpInts, cmpI, eqD_int, DV.isNon, biSem, biLen, biInt, biList, biTuple, biTwo, isi_ii, isi_ib, isi_il, isi_it, isi_ll, isi_li, isi_lt, isi_tt, isi_tl, isi_ti, itemsOf, litOf, at0, at1, at2, ix30, ix31, ix32, sl0, sl1, sl2, sl3, sl4, sl5, sl6, sl7, sl8, sl9, sl10, sl11, sl12, sl13, sl14, fnSem, startE, wipeE, N_need_pair, ir_need_pair, e3, h2]
  refine fnD_of ?_ (by rw [bnd])
  simp -implicitDefEqProofs [b_nil, b_cons, b_ifs, b_for, b_while, semS, e_lc, e_lc2, e_var, e_int, e_bl, e_non, e_str, e_glob, e_bin, e_neg, e_tst, e_ife, e_tup, e_lst, e_ix, e_slc, e_rev, e_call, e_callK, permL, e_bi, e_isi, e_meth, e_fz, e_fzl, e_sortK, e_isx, e_isb, e_fld, e_callT, e_emp, b_try, isxSem, fldSem, actSem, actOut, catchO, onlyT_at, semEs, semT, semAnd, semOr, semO, semC, semI, R.bind_ok, R.bind_ex, R.bind_bad, R.out_ok, R.out_ex, R.out_bad, thn_nx, thn_ret, thn_brk, thn_ct, thn_ex, thn_bad, val_nx, val_ret, val_ex, tgSem, tgsSem, binSem, addSem, augSem, ixSem, seqOf, lstOf, lstT, newL, cmpSem, cmpInts, cmpI, eqD_int, DV.isNon, biSem, biLen, biInt, biList, biTuple, biTwo, isi_ii, isi_ib, isi_il, isi_it, isi_ll, isi_li, isi_lt, isi_tt, isi_tl, isi_ti, itemsOf, litOf, at0, at1, at2, ix30, ix31, ix32, sl0, sl1, sl2, sl3, sl4, sl5, sl6, sl7, sl8, sl9, sl10, sl11, sl12, sl13, sl14, fnSem, startE, wipeE, N_holding, ir_holding, e4, e2, eAns]
theorem set_pen (junk : Sto) (a b : Cell) : (Cell.dead :: a :: junk).set 1 b = Cell.dead :: b :: junk := rfl
theorem lc_wrong (st0 st1 st2 st3 st4 st5 : Sto) (t0 t1 t2 t3 t4 : Int) (f0 : f__law_take st0 [.obj 1, .int 4] = .ok (.int t0) st1) (f1 : f__law_take st1 [.obj 1, .int 4] = .ok (.int t1) st2) (f2 : f__law_take st2 [.obj 1, .int 4] = .ok (.int t2) st3) (f3 : f__law_take st3 [.obj 1, .int 4] = .ok (.int t3) st4) (f4 : f__law_take st4 [.obj 1, .int 4] = .ok (.int t4) st5)
    (d0 d2 d3 d4 d5 d6 d7 d8 d9 d10 d11 d12 d13 d14 d15 d16 d17 d18 d19 d20 : Option D) :
    lcGo (lcBd [("_law_k", 20)] (.name 20) .none (.tst (.cmp .Eq (.call "_law_take" 2 f__law_take (.cons (.var 1) (.cons (.int 4) .nil))) (.int 0))) [d0, some (.obj 1), d2, d3, d4, d5, d6, d7, d8, d9, d10, d11, d12, d13, d14, d15, d16, d17, d18, d19, d20]) [.int 0, .int 1, .int 2, .int 3, .int 4] st0 [] = .ok [.bl (decide (t0 = 0)), .bl (decide (t1 = 0)), .bl (decide (t2 = 0)), .bl (decide (t3 = 0)), .bl (decide (t4 = 0))] st5 := by
  simp [lcGo, lcBd, b_nil, b_cons, b_ifs, b_for, b_while, semS, e_lc, e_lc2, e_var, e_int, e_bl, e_non, e_str, e_glob, e_bin, e_neg, e_tst, e_ife, e_tup, e_lst, e_ix, e_slc, e_rev, e_call, e_callK, permL, e_bi, e_isi, e_meth, e_fz, e_fzl, e_sortK, e_isx, e_isb, e_fld, e_callT, e_emp, b_try, isxSem, fldSem, actSem, actOut, catchO, onlyT_at, semEs, semT, semAnd, semOr, semO, semC, semI, R.bind_ok, R.bind_ex, R.bind_bad, R.out_ok, R.out_ex, R.out_bad, thn_nx, thn_ret, thn_brk, thn_ct, thn_ex, thn_bad, val_nx, val_ret, val_ex, tgSem, tgsSem, binSem, addSem, augSem, ixSem, seqOf, lstOf, lstT, newL, cmpSem, cmpInts, cmpI, eqD_int, DV.isNon, biSem, biLen, biInt, biList, biTuple, biTwo, isi_ii, isi_ib, isi_il, isi_it, isi_ll, isi_li, isi_lt, isi_tt, isi_tl, isi_ti, itemsOf, litOf, at0, at1, at2, ix30, ix31, ix32, sl0, sl1, sl2, sl3, sl4, sl5, sl6, sl7, sl8, sl9, sl10, sl11, sl12, sl13, sl14, fnSem, startE, wipeE, f0, f1, f2, f3, f4]
theorem lc_some (s : Sto) (p : Nat) (w0 w1 w2 w3 w4 : Bool) (a0 a1 a2 a3 a4 b0 b1 b2 b3 b4 : D) (hp : s[p]? = some (.lst [a0, a1, a2, a3, a4])) (d0 d1 d2 d3 d5 d6 d7 d8 d9 d10 d11 d12 d13 d16 d17 d18 d19 d20 : Option D) :
    lcGo (lcBd [("_law_k", 20)] (.name 20) .none (.ife (.val (.ix (.var 15) (.var 20))) (.ix (.var 4) (.var 20)) (.ix (.var 14) (.var 20))) [d0, d1, d2, d3, some (.obj p), d5, d6, d7, d8, d9, d10, d11, d12, d13, some (.lst [b0, b1, b2, b3, b4]), some (.lst [.bl w0, .bl w1, .bl w2, .bl w3, .bl w4]), d16, d17, d18, d19, d20]) [.int 0, .int 1, .int 2, .int 3, .int 4] s [] = .ok [if w0 = true then a0 else b0, if w1 = true then a1 else b1, if w2 = true then a2 else b2, if w3 = true then a3 else b3, if w4 = true then a4 else b4] s := by
  obtain ⟨p0, p1, p2, p3, p4⟩ := at5 a0 a1 a2 a3 a4
  obtain ⟨q0, q1, q2, q3, q4⟩ := at5 b0 b1 b2 b3 b4
  obtain ⟨r0, r1, r2, r3, r4⟩ := at5 (.bl w0) (.bl w1) (.bl w2) (.bl w3) (.bl w4)
  have key := lcGo_enc (el := lcBd [("_law_k", 20)] (.name 20) .none (.ife (.val (.ix (.var 15) (.var 20))) (.ix (.var 4) (.var 20)) (.ix (.var 14) (.var 20))) [d0, d1, d2, d3, some (.obj p), d5, d6, d7, d8, d9, d10, d11, d12, d13, some (.lst [b0, b1, b2, b3, b4]), some (.lst [.bl w0, .bl w1, .bl w2, .bl w3, .bl w4]), d16, d17, d18, d19, d20]) (e := fun k : Nat => D.int k) (s := s) (f := fun k : Nat => [if w0 = true then a0 else b0, if w1 = true then a1 else b1, if w2 = true then a2 else b2, if w3 = true then a3 else b3, if w4 = true then a4 else b4].getD k .non) [0, 1, 2, 3, 4] [] (by
    intro k hk
    simp only [List.mem_cons, List.not_mem_nil, or_false] at hk
    rcases hk with rfl | rfl | rfl | rfl | rfl
    · cases w0 <;> simp [lcBd, b_nil, b_cons, b_ifs, b_for, b_while, semS, e_lc, e_lc2, e_var, e_int, e_bl, e_non, e_str, e_glob, e_bin, e_neg, e_tst, e_ife, e_tup, e_lst, e_ix, e_slc, e_rev, e_call, e_callK, permL, e_bi, e_isi, e_meth, e_fz, e_fzl, e_sortK, e_isx, e_isb, e_fld, e_callT, e_emp, b_try, isxSem, fldSem, actSem, actOut, catchO, onlyT_at, semEs, semT, semAnd, semOr, semO, semC, semI, R.bind_ok, R.bind_ex, R.bind_bad, R.out_ok, R.out_ex, R.out_bad, thn_nx, thn_ret, thn_brk, thn_ct, thn_ex, thn_bad, val_nx, val_ret, val_ex, tgSem, tgsSem, binSem, addSem, augSem, ixSem, seqOf, lstOf, lstT, newL, cmpSem, cmpInts, cmpI, eqD_int, DV.isNon, biSem, biLen, biInt, biList, biTuple, biTwo, isi_ii, isi_ib, isi_il, isi_it, isi_ll, isi_li, isi_lt, isi_tt, isi_tl, isi_ti, itemsOf, litOf, at0, at1, at2, ix30, ix31, ix32, sl0, sl1, sl2, sl3, sl4, sl5, sl6, sl7, sl8, sl9, sl10, sl11, sl12, sl13, sl14, fnSem, startE, wipeE, hp, p0, q0, r0]
    · cases w1 <;> simp [lcBd, b_nil, b_cons, b_ifs, b_for, b_while, semS, e_lc, e_lc2, e_var, e_int, e_bl, e_non, e_str, e_glob, e_bin, e_neg, e_tst, e_ife, e_tup, e_lst, e_ix, e_slc, e_rev, e_call, e_callK, permL, e_bi, e_isi, e_meth, e_fz, e_fzl, e_sortK, e_isx, e_isb, e_fld, e_callT, e_emp, b_try, isxSem, fldSem, actSem, actOut, catchO, onlyT_at, semEs, semT, semAnd, semOr, semO, semC, semI, R.bind_ok, R.bind_ex, R.bind_bad, R.out_ok, R.out_ex, R.out_bad, thn_nx, thn_ret, thn_brk, thn_ct, thn_ex, thn_bad, val_nx, val_ret, val_ex, tgSem, tgsSem, binSem, addSem, augSem, ixSem, seqOf, lstOf, lstT, newL, cmpSem, cmpInts, cmpI, eqD_int, DV.isNon, biSem, biLen, biInt, biList, biTuple, biTwo, isi_ii, isi_ib, isi_il, isi_it, isi_ll, isi_li, isi_lt, isi_tt, isi_tl, isi_ti, itemsOf, litOf, at0, at1, at2, ix30, ix31, ix32, sl0, sl1, sl2, sl3, sl4, sl5, sl6, sl7, sl8, sl9, sl10, sl11, sl12, sl13, sl14, fnSem, startE, wipeE, hp, p1, q1, r1]
    · cases w2 <;> simp [lcBd, b_nil, b_cons, b_ifs, b_for, b_while, semS, e_lc, e_lc2, e_var, e_int, e_bl, e_non, e_str, e_glob, e_bin, e_neg, e_tst, e_ife, e_tup, e_lst, e_ix, e_slc, e_rev, e_call, e_callK, permL, e_bi, e_isi, e_meth, e_fz, e_fzl, e_sortK, e_isx, e_isb, e_fld, e_callT, e_emp, b_try, isxSem, fldSem, actSem, actOut, catchO, onlyT_at, semEs, semT, semAnd, semOr, semO, semC, semI, R.bind_ok, R.bind_ex, R.bind_bad, R.out_ok, R.out_ex, R.out_bad, thn_nx, thn_ret, thn_brk, thn_ct, thn_ex, thn_bad, val_nx, val_ret, val_ex, tgSem, tgsSem, binSem, addSem, augSem, ixSem, seqOf, lstOf, lstT, newL, cmpSem, cmpInts, cmpI, eqD_int, DV.isNon, biSem, biLen, biInt, biList, biTuple, biTwo, isi_ii, isi_ib, isi_il, isi_it, isi_ll, isi_li, isi_lt, isi_tt, isi_tl, isi_ti, itemsOf, litOf, at0, at1, at2, ix30, ix31, ix32, sl0, sl1, sl2, sl3, sl4, sl5, sl6, sl7, sl8, sl9, sl10, sl11, sl12, sl13, sl14, fnSem, startE, wipeE, hp, p2, q2, r2]
    · cases w3 <;> simp [lcBd, b_nil, b_cons, b_ifs, b_for, b_while, semS, e_lc, e_lc2, e_var, e_int, e_bl, e_non, e_str, e_glob, e_bin, e_neg, e_tst, e_ife, e_tup, e_lst, e_ix, e_slc, e_rev, e_call, e_callK, permL, e_bi, e_isi, e_meth, e_fz, e_fzl, e_sortK, e_isx, e_isb, e_fld, e_callT, e_emp, b_try, isxSem, fldSem, actSem, actOut, catchO, onlyT_at, semEs, semT, semAnd, semOr, semO, semC, semI, R.bind_ok, R.bind_ex, R.bind_bad, R.out_ok, R.out_ex, R.out_bad, thn_nx, thn_ret, thn_brk, thn_ct, thn_ex, thn_bad, val_nx, val_ret, val_ex, tgSem, tgsSem, binSem, addSem, augSem, ixSem, seqOf, lstOf, lstT, newL, cmpSem, cmpInts, cmpI, eqD_int, DV.isNon, biSem, biLen, biInt, biList, biTuple, biTwo, isi_ii, isi_ib, isi_il, isi_it, isi_ll, isi_li, isi_lt, isi_tt, isi_tl, isi_ti, itemsOf, litOf, at0, at1, at2, ix30, ix31, ix32, sl0, sl1, sl2, sl3, sl4, sl5, sl6, sl7, sl8, sl9, sl10, sl11, sl12, sl13, sl14, fnSem, startE, wipeE, hp, p3, q3, r3]
    · cases w4 <;> simp [lcBd, b_nil, b_cons, b_ifs, b_for, b_while, semS, e_lc, e_lc2, e_var, e_int, e_bl, e_non, e_str, e_glob, e_bin, e_neg, e_tst, e_ife, e_tup, e_lst, e_ix, e_slc, e_rev, e_call, e_callK, permL, e_bi, e_isi, e_meth, e_fz, e_fzl, e_sortK, e_isx, e_isb, e_fld, e_callT, e_emp, b_try, isxSem, fldSem, actSem, actOut, catchO, onlyT_at, semEs, semT, semAnd, semOr, semO, semC, semI, R.bind_ok, R.bind_ex, R.bind_bad, R.out_ok, R.out_ex, R.out_bad, thn_nx, thn_ret, thn_brk, thn_ct, thn_ex, thn_bad, val_nx, val_ret, val_ex, tgSem, tgsSem, binSem, addSem, augSem, ixSem, seqOf, lstOf, lstT, newL, cmpSem, cmpInts, cmpI, eqD_int, DV.isNon, biSem, biLen, biInt, biList, biTuple, biTwo, isi_ii, isi_ib, isi_il, isi_it, isi_ll, isi_li, isi_lt, isi_tt, isi_tl, isi_ti, itemsOf, litOf, at0, at1, at2, ix30, ix31, ix32, sl0, sl1, sl2, sl3, sl4, sl5, sl6, sl7, sl8, sl9, sl10, sl11, sl12, sl13, sl14, fnSem, startE, wipeE, hp, p4, q4, r4])
  exact key
theorem law_ok (ns : List Int) : f_law [] [.scr ns] = .ok (.bl true) [] := by
  suffices hs : ∃ junk, fnSem N_law ir_law [] [.scr ns] = .ok (.bl true) junk by
    obtain ⟨junk, hj⟩ := hs
    exact fnD_app (junk := junk) (s := []) (by simpa using hj) (by rw [bnd])
  obtain ⟨cells, e0⟩ := open_ok ns
  have r6 : rOk 6 := ⟨by decide, by decide⟩
  have r5 : rOk 5 := ⟨by decide, by decide⟩
  have hr6 : rangeD 0 6 = (List.range 6).map fun i : Nat => D.int i := rangeD0 6
  have hr5 : rangeD 0 5 = [.int 0, .int 1, .int 2, .int 3, .int 4] := rfl
  simp only [N_law, ir_law, ir_law_1, ir_law_2]
  simp -implicitDefEqProofs [b_nil, b_cons, b_ifs, b_for, b_while, semS, e_lc, e_lc2, e_var, e_int, e_bl, e_non, e_str, e_glob, e_bin, e_neg, e_tst, e_ife, e_tup, e_lst, e_ix, e_slc, e_rev, e_call, e_callK, permL, e_bi, e_isi, e_meth, e_fz, e_fzl, e_sortK, e_isx, e_isb, e_fld, e_callT, e_emp, b_try, isxSem, fldSem, actSem, actOut, catchO, onlyT_at, semEs, semT, semAnd, semOr, semO, semC, semI, R.bind_ok, R.bind_ex, R.bind_bad, R.out_ok, R.out_ex, R.out_bad, thn_nx, thn_ret, thn_brk, thn_ct, thn_ex, thn_bad, val_nx, val_ret, val_ex, tgSem, tgsSem, binSem, addSem, augSem, ixSem, seqOf, lstOf, lstT, newL, cmpSem, cmpInts, cmpI, eqD_int, DV.isNon, biSem, biLen, biInt, biList, biTuple, biTwo, isi_ii, isi_ib, isi_il, isi_it, isi_ll, isi_li, isi_lt, isi_tt, isi_tl, isi_ti, itemsOf, litOf, at0, at1, at2, ix30, ix31, ix32, sl0, sl1, sl2, sl3, sl4, sl5, sl6, sl7, sl8, sl9, sl10, sl11, sl12, sl13, sl14, fnSem, startE, wipeE, e0, r6]
  rw [hr6]
  generalize hr : List.range 6 = rs
  have hrl : rs.length = 6 := by rw [← hr]; rfl
  refine pre_k (fun o => ∃ junk, (o.thn _).val = .ok (.bl true) junk) (fun pre ρ s' => ∃ (a c : Int) (junk : Sto) (x2 x3 x4 x5 x6 x7 x8 x9 x10 x11 x12 x13 x14 x15 x16 x17 x18 x19 x20 : Option D), s' = .dead :: pen cells a c :: junk ∧ ρ = [some (.scr ns), some (.obj 1), x2, x3, x4, x5, x6, x7, x8, x9, x10, x11, x12, x13, x14, x15, x16, x17, x18, x19, x20] ∧ 0 ≤ a ∧ a ≤ 1000 * pre.length)
    ⟨0, 0, [], _, _, _, _, _, _, _, _, _, _, _, _, _, _, _, _, _, _, _, rfl, rfl, by decide, by simp⟩ ?_ ?_
  · rintro pre i post rfl ρ s' ⟨a, c, junk, x2, x3, x4, x5, x6, x7, x8, x9, x10, x11, x12, x13, x14, x15, x16, x17, x18, x19, x20, rfl, rfl, a0, a1⟩
    simp at hrl
    obtain ⟨v1, b1, c1, f1, p0, p1, l1, l2⟩ := take_ok (.dead :: pen cells a c :: junk) 1 cells a c 5 rfl a0 (by omega) (by decide) (by decide +kernel)
    rw [set_pen] at f1
    obtain ⟨v2, b2, c2, f2, p2, p3, l3, l4⟩ := take_ok (.dead :: pen cells b1 c1 :: junk) 1 cells b1 c1 5 rfl (by omega) (by omega) (by decide) (by decide +kernel)
    rw [set_pen] at f2
    obtain ⟨v3, b3, c3, f3, p4, p5, l5, l6⟩ := take_ok (.dead :: pen cells b2 c2 :: junk) 1 cells b2 c2 60 rfl (by omega) (by omega) (by decide) (by decide +kernel)
    rw [set_pen] at f3
    obtain ⟨t0, b4, c4, f4, _, _, l7, l8⟩ := take_ok (.dead :: pen cells b3 c3 :: junk) 1 cells b3 c3 4 rfl (by omega) (by omega) (by decide) (by decide +kernel)
    rw [set_pen] at f4
    obtain ⟨t1, b5, c5, f5, _, _, l9, la⟩ := take_ok (.dead :: pen cells b4 c4 :: junk) 1 cells b4 c4 4 rfl (by omega) (by omega) (by decide) (by decide +kernel)
    rw [set_pen] at f5
    obtain ⟨t2, b6, c6, f6, _, _, lb, lc⟩ := take_ok (.dead :: pen cells b5 c5 :: junk) 1 cells b5 c5 4 rfl (by omega) (by omega) (by decide) (by decide +kernel)
    rw [set_pen] at f6
    obtain ⟨t3, b7, c7, f7, _, _, ld, le⟩ := take_ok (.dead :: pen cells b6 c6 :: junk) 1 cells b6 c6 4 rfl (by omega) (by omega) (by decide) (by decide +kernel)
    rw [set_pen] at f7
    obtain ⟨t4, b8, c8, f8, _, _, lf, lg⟩ := take_ok (.dead :: pen cells b7 c7 :: junk) 1 cells b7 c7 4 rfl (by omega) (by omega) (by decide) (by decide +kernel)
    rw [set_pen] at f8
    obtain ⟨odd, b9, c9, f9, ho, lh, li⟩ := pick_ok (.dead :: pen cells b8 c8 :: junk) 1 cells b8 c8 oddL rfl (by omega) (by omega) (by decide) (by decide) odd_bnd
    rw [set_pen] at f9
    obtain ⟨bad, word, d0, e0', g0, hb, lj, lk⟩ := bad_hands_ok (.dead :: pen cells b9 c9 :: junk) 1 cells b9 c9 rfl (by omega) (by omega)
    rw [set_pen] at g0
    obtain ⟨num, d1, e1', g1, hnum, ll, lm⟩ := pick_ok (.dead :: pen cells d0 e0' :: junk) 1 cells d0 e0' numL rfl (by omega) (by omega) (by decide) (by decide) num_bnd
    rw [set_pen] at g1
    have pb : ∀ i : Int, ∀ x ∈ [D.int i, odd], ∀ m, bnd m x = true := fun i x hx m => by
      simp at hx
      rcases hx with rfl | rfl
      · rw [bnd]
      · exact odd_bnd _ ho m
    generalize hS : 1 + v1 = s at *
    generalize hM : 1 + v2 = m at *
    generalize hN : 1 + v3 = n at *
    have g := hnd_row (s := s) (m := m) (by omega) (by omega) (by omega) (by omega)
    have sm1 : s * m ≤ 5 * 5 := Int.mul_le_mul (by omega) (by omega) (by omega) (by decide)
    have sm0 : 1 * 1 ≤ s * m := Int.mul_le_mul (by omega) (by omega) (by decide) (by omega)
    generalize hL : (n - 1) / (s * m) = last at *
    obtain ⟨y1, d2, e2', g2, hy1, ln, lo⟩ := pick_ok (.dead :: pen cells d1 e1' :: (junk ++ [.lst [bad, num]])) 1 cells d1 e1' [.int (last + 1), odd] rfl (by omega) (by omega) (by simp) (by simp) (pb _)
    rw [set_pen] at g2
    obtain ⟨y2, d3, e3', g3, hy2, lp, lq⟩ := pick_ok (.dead :: pen cells d2 e2' :: (junk ++ [.lst [bad, num, y1]])) 1 cells d2 e2' [.int s, odd] rfl (by omega) (by omega) (by simp) (by simp) (pb _)
    rw [set_pen] at g3
    obtain ⟨y3, d4, e4', g4, hy3, lr, ls⟩ := pick_ok (.dead :: pen cells d3 e3' :: (junk ++ [.lst [bad, num, y1, y2]])) 1 cells d3 e3' [.int m, odd] rfl (by omega) (by omega) (by simp) (by simp) (pb _)
    rw [set_pen] at g4
    have p20 : CPow 10 40 := by decide
    have p50 : CPow 10 50 := by decide
    have cm1 : CMulW s m := mulW_of (a := 64) (b := 64) (by omega) (by omega) (by decide)
    have m40 : (25 : Nat) < 2 ^ 8000 := by decide +kernel
    have dv : CDivW (n - 1) (s * m) := divW_of (by omega) (by omega)
    have smp : 0 < s * m := by omega
    have eR : D.lst [D.lst [.tup [.int s, .int m]], .lst [.tup [.int m, .int 1]]] = eH [xR s m, yR m] := rfl
    have hz : sizeLine = 16777216 := rfl
    have z : ∀ k : Nat, k ≤ 10 → k ≤ sizeLine := fun k h => by omega
    have z2 : ∀ k : Nat, k < 10 → k < sizeLine := fun k h => by omega
    obtain ⟨first, due, kf, kd, hbad, hhold, hf7, hf8⟩ := bad_facts hb
    unfold ife7 at hf7
    unfold ife8 at hf8
    have fb := bad_few hb
    have hE := row_few g
    have wrong := fun d0 d2 d3 d4 d5 d6 d7 d8 d9 d10 d11 d12 d13 d14 d15 d16 d17 d18 d19 d20 => lc_wrong (.dead :: pen cells b3 c3 :: junk) _ _ _ _ (.dead :: pen cells b8 c8 :: junk) t0 t1 t2 t3 t4 f4 f5 f6 f7 f8 d0 d2 d3 d4 d5 d6 d7 d8 d9 d10 d11 d12 d13 d14 d15 d16 d17 d18 d19 d20
    generalize decide (t0 = 0) = w0 at *
    generalize decide (t1 = 0) = w1 at *
    generalize decide (t2 = 0) = w2 at *
    generalize decide (t3 = 0) = w3 at *
    generalize decide (t4 = 0) = w4 at *
    obtain ⟨y4, d5, e5', g5, hy4, lt, lu⟩ := pick_ok (.dead :: pen cells d4 e4' :: (junk ++ [.lst [bad, num, y1, y2, y3]])) 1 cells d4 e4' [.int n, odd] rfl (by omega) (by omega) (by simp) (by simp) (pb _)
    rw [set_pen] at g5
    have hlast : 0 ≤ last ∧ last ≤ 60 ∧ last + 1 = -(-n / (s * m)) := by
      have q0 : 0 ≤ last := by rw [← hL]; exact Int.ediv_nonneg (by omega) (by omega)
      have q1 : last ≤ n - 1 := by rw [← hL]; exact Int.ediv_le_self _ (by omega)
      refine ⟨q0, by omega, ?_⟩
      obtain ⟨u1, u2⟩ := ceil_at (n := n) (N := s * m) smp
      have u3 := below_ceil (n := n) (e := n - 1) smp (by omega)
      rw [hL] at u3
      have u4 : -(-n / (s * m)) - 1 ≤ last := by rw [← hL]; exact Int.le_ediv_of_mul_le smp (by omega)
      omega
    have od : ∀ {hi : Int}, hi < 100000 → badI odd 0 hi := fun h => odd_bad ho h
    have two : ∀ {z : D} {i hi : Int}, z ∈ [D.int i, odd] → hi < i → hi < 100000 → badI z 0 hi := fun {z i hi} h h1 h2 => by
      simp at h
      rcases h with rfl | rfl
      · exact bad_int (.inr h1)
      · exact od h2
    have S : Sit (xR s m) (yR m) n (if w0 = true then bad else eH [xR s m, yR m]) (if w1 = true then num else .int n) (if w2 = true then y1 else .int last) (if w3 = true then y2 else .int (s - 1)) (if w4 = true then y3 else .int (m - 1)) w0 w1 w2 w3 w4 first := by
      refine ⟨g, by omega, by omega, fun h => by rw [h]; rfl, fun h => by rw [h]; exact hbad, fun h => by rw [h]; rfl, fun h => by rw [h]; exact num_bad hnum, fun h => ⟨last, by rw [h]; rfl, by omega, by rw [prod_row]; omega⟩, fun h => ?_, fun h => ⟨s - 1, by rw [h]; rfl, by omega, by rw [prod_xR]; omega⟩, fun h => ?_, fun h => ⟨m - 1, by rw [h]; rfl, by omega, by rw [prod_yR]; omega⟩, fun h => ?_⟩
      · rw [h, prod_row, ← hlast.2.2]; exact two hy1 (by omega) (by omega)
      · rw [h, prod_xR]; exact two hy2 (by omega) (by omega)
      · rw [h, prod_yR]; exact two hy3 (by omega) (by omega)
    have four : ∀ {z : D} {i : Int}, z ∈ [D.int i, odd] → i.natAbs < 1000 → few z := fun {z i} h h1 => by
      simp at h
      rcases h with rfl | rfl
      · exact int_few h1
      · exact odd_few ho
    have iff : ∀ (w : Bool) {a b : D}, few a → few b → few (if w = true then a else b) := fun w a b ha hb => by cases w <;> assumption
    obtain ⟨tt, rp, oe⟩ := some_told (iff w0 fb hE) (iff w1 (num_few hnum) (int_few (i := n) (by omega))) (iff w2 (four hy1 (by omega)) (int_few (i := last) (by omega))) (iff w3 (four hy2 (by omega)) (int_few (i := s - 1) (by omega))) (iff w4 (four hy3 (by omega)) (int_few (i := m - 1) (by omega)))
    have k1 := dealt_ok S kf (.dead :: pen cells d4 e4' :: (junk ++ [.lst [bad, num, y1, y2, y3]]))
    have k2 := sought_ok S kf (.dead :: pen cells d5 e5' :: (junk ++ [.lst [bad, num, y1, y2, y3]])) n rfl (i := y4) (two hy4 (by omega) (by omega))
    have k3 : ∀ st, f__law_q_word (fun s1 => f_holding s1 [if w0 = true then bad else eH [xR s m, yR m]]) st = .ok (.str (if w0 = true then due else "fine")) st := fun st => by
      cases w0
      · exact word_fine (holding_ok st g)
      · exact hhold st
    have k4 : ∀ st, f__law_q_word (fun s1 => f_element_of s1 [eH [xR s m, yR m], .int 0, .int 0, .int 0, .int 0]) st = .ok (.str "index") st := fun st => word_index (elem_i st g 0 (by decide) (by decide) (.inl (bad_int (.inr (by simp)))))
    have k5 : ∀ st, f__law_q_word (fun s1 => f_where_is s1 [eH [xR s m, yR m], .int 0, .int 0]) st = .ok (.str "index") st := fun st => word_index (where_i st g 0 (by decide) (by decide) (bad_int (.inr (by decide))))
    have k6 : ∀ st, f_rounds_of st [eH [xR s m, yR m], .int 0] = .ok (.int 0) st := fun st => by
      have := rounds_of_ok st g (by simp only [List.flatten_cons, List.flatten_nil, List.append_nil]; rw [prod_row]; omega) 0 (by decide) (by decide)
      simpa using this
    have k7 : ∀ st, f_share_of st [eH [xR s m, yR m], .int 0, .int 0] = .ok (.int 0) st := fun st => by
      have := share_of_ok st g 0 0 (by decide) (by decide) (by decide) (by rw [prod_xR]; omega)
      have e := share_zero g 0 (by decide) (by rw [prod_xR]; omega)
      unfold shareM at e
      rwa [e] at this
    have z3 := fun st => eq_str st k_index
    have z5 : ∀ st, eqD st (.str (if w0 = true then due else "fine")) (.str (if w0 = true then due else "fine")) = some true := fun st => by
      cases w0
      · exact eq_str st (ks "fine")
      · exact eq_str st kd
    unfold oddL at f9
    unfold numL at g1
    have some' := fun d0 d1 d2 d3 d5 d6 d7 d8 d9 d10 d11 d12 d13 d16 d17 d18 d19 d20 => lc_some (.dead :: pen cells d4 e4' :: (junk ++ [.lst [bad, num, y1, y2, y3]])) (junk.length + 1 + 1) w0 w1 w2 w3 w4 bad num y1 y2 y3 (eH [xR s m, yR m]) (.int n) (.int last) (.int (s - 1)) (.int (m - 1)) (by simp) d0 d1 d2 d3 d5 d6 d7 d8 d9 d10 d11 d12 d13 d16 d17 d18 d19 d20
    obtain ⟨q0, _, _, _, _⟩ := at5 (if w0 = true then bad else eH [xR s m, yR m]) (if w1 = true then num else .int n) (if w2 = true then y1 else .int last) (if w3 = true then y2 else .int (s - 1)) (if w4 = true then y3 else .int (m - 1))
    clear S g hbad hE
    generalize eH [xR s m, yR m] = E at *
    generalize hI0 : (if w0 = true then bad else E) = I0 at *
    generalize hI1 : (if w1 = true then num else D.int n) = I1 at *
    generalize hI2 : (if w2 = true then y1 else D.int last) = I2 at *
    generalize hI3 : (if w3 = true then y2 else D.int (s - 1)) = I3 at *
    generalize hI4 : (if w4 = true then y3 else D.int (m - 1)) = I4 at *
    generalize hD8 : (if w0 = true then due else ("fine" : Str)) = D8 at *
    refine ⟨_, _, .inl ?_, d5, e5', junk ++ [.lst [bad, num, y1, y2, y3]], some (.int i), some odd, some (.obj (junk.length + 1 + 1)), some (.int m), some (.lst [I0, I1, I2, I3, I4]), some (.str first), some (.str D8), some (.int s), some (.int m), some (.int n), some E, some (.int last), some (.lst [E, .int n, .int last, .int (s - 1), .int (m - 1)]), some (.lst [.bl w0, .bl w1, .bl w2, .bl w3, .bl w4]), some bad, some (.str word), some (.lst [.str first, .str "count", .str "index", .str "index", .str "index"]), some (.str tt), x20, rfl, rfl, by omega, by simp; omega⟩
    have ss : ∀ (l : Sto) (c c' : Cell), (l ++ [c]).set l.length c' = l ++ [c'] := fun l c c' => set_last l c c'
    rw [forBd_at]
    simp -implicitDefEqProofs [b_nil, b_cons, b_ifs, b_for, b_while, semS, e_lc, e_lc2, e_var, e_int, e_bl, e_non, e_str, e_glob, e_bin, e_neg, e_tst, e_ife, e_tup, e_lst, e_ix, e_slc, e_rev, e_call, e_callK, permL, e_bi, e_isi, e_meth, e_fz, e_fzl, e_sortK, e_isx, e_isb, e_fld, e_callT, e_emp, b_try, isxSem, fldSem, actSem, actOut, catchO, onlyT_at, semEs, semT, semAnd, semOr, semO, semC, semI, R.bind_ok, R.bind_ex, R.bind_bad, R.out_ok, R.out_ex, R.out_bad, thn_nx, thn_ret, thn_brk, thn_ct, thn_ex, thn_bad, val_nx, val_ret, val_ex, tgSem, tgsSem, binSem, addSem, augSem, ixSem, seqOf, lstOf, lstT, newL, cmpSem, cmpInts, cmpI, eqD_int, DV.isNon, biSem, biLen, biInt, biList, biTuple, biTwo, isi_ii, isi_ib, isi_il, isi_it, isi_ll, isi_li, isi_lt, isi_tt, isi_tl, isi_ti, itemsOf, litOf, at0, at1, at2, ix30, ix31, ix32, sl0, sl1, sl2, sl3, sl4, sl5, sl6, sl7, sl8, sl9, sl10, sl11, sl12, sl13, sl14, fnSem, startE, wipeE, -e_ife, ir_law_3, ir_law_4, ir_law_5, f1, f2, f3, hS, hM, hN, eR, cm1, dv, smp, hL, r5, hr5, z, z2]
    rw [wrong]
    simp -implicitDefEqProofs [b_nil, b_cons, b_ifs, b_for, b_while, semS, e_lc, e_lc2, e_var, e_int, e_bl, e_non, e_str, e_glob, e_bin, e_neg, e_tst, e_ife, e_tup, e_lst, e_ix, e_slc, e_rev, e_call, e_callK, permL, e_bi, e_isi, e_meth, e_fz, e_fzl, e_sortK, e_isx, e_isb, e_fld, e_callT, e_emp, b_try, isxSem, fldSem, actSem, actOut, catchO, onlyT_at, semEs, semT, semAnd, semOr, semO, semC, semI, R.bind_ok, R.bind_ex, R.bind_bad, R.out_ok, R.out_ex, R.out_bad, thn_nx, thn_ret, thn_brk, thn_ct, thn_ex, thn_bad, val_nx, val_ret, val_ex, tgSem, tgsSem, binSem, addSem, augSem, ixSem, seqOf, lstOf, lstT, newL, cmpSem, cmpInts, cmpI, eqD_int, DV.isNon, biSem, biLen, biInt, biList, biTuple, biTwo, isi_ii, isi_ib, isi_il, isi_it, isi_ll, isi_li, isi_lt, isi_tt, isi_tl, isi_ti, itemsOf, litOf, at0, at1, at2, ix30, ix31, ix32, sl0, sl1, sl2, sl3, sl4, sl5, sl6, sl7, sl8, sl9, sl10, sl11, sl12, sl13, sl14, fnSem, startE, wipeE, -e_ife, ir_law_6, ir_law_7, ir_law_8, ir_law_9, ir_law_10, ir_law_11, f9, g0, g1, p20, p50, forGo, forBd_at, meSem, meAppend, g2, g3, g4, ss, z, z2, r5, hr5]
    rw [some']
    simp -implicitDefEqProofs [b_nil, b_cons, b_ifs, b_for, b_while, semS, e_lc, e_lc2, e_var, e_int, e_bl, e_non, e_str, e_glob, e_bin, e_neg, e_tst, e_ife, e_tup, e_lst, e_ix, e_slc, e_rev, e_call, e_callK, permL, e_bi, e_isi, e_meth, e_fz, e_fzl, e_sortK, e_isx, e_isb, e_fld, e_callT, e_emp, b_try, isxSem, fldSem, actSem, actOut, catchO, onlyT_at, semEs, semT, semAnd, semOr, semO, semC, semI, R.bind_ok, R.bind_ex, R.bind_bad, R.out_ok, R.out_ex, R.out_bad, thn_nx, thn_ret, thn_brk, thn_ct, thn_ex, thn_bad, val_nx, val_ret, val_ex, tgSem, tgsSem, binSem, addSem, augSem, ixSem, seqOf, lstOf, lstT, newL, cmpSem, cmpInts, cmpI, eqD_int, DV.isNon, biSem, biLen, biInt, biList, biTuple, biTwo, isi_ii, isi_ib, isi_il, isi_it, isi_ll, isi_li, isi_lt, isi_tt, isi_tl, isi_ti, itemsOf, litOf, at0, at1, at2, ix30, ix31, ix32, sl0, sl1, sl2, sl3, sl4, sl5, sl6, sl7, sl8, sl9, sl10, sl11, sl12, sl13, sl14, fnSem, startE, wipeE, -e_ife, ir_law_12, ir_law_13, ir_law_14, ir_law_15, ir_law_16, ir_law_17, ir_law_18, hf7, z, rp, oe, k1, g5, k2, k3, q0, z5, k4, k5, k6, k7, z3]
    rw [hf8 _ _ w0 (.bl w1) (.bl w2) (.bl w3) (.bl w4) rfl rfl rfl, hD8]
    simp -implicitDefEqProofs [b_nil, b_cons, b_ifs, b_for, b_while, semS, e_lc, e_lc2, e_var, e_int, e_bl, e_non, e_str, e_glob, e_bin, e_neg, e_tst, e_ife, e_tup, e_lst, e_ix, e_slc, e_rev, e_call, e_callK, permL, e_bi, e_isi, e_meth, e_fz, e_fzl, e_sortK, e_isx, e_isb, e_fld, e_callT, e_emp, b_try, isxSem, fldSem, actSem, actOut, catchO, onlyT_at, semEs, semT, semAnd, semOr, semO, semC, semI, R.bind_ok, R.bind_ex, R.bind_bad, R.out_ok, R.out_ex, R.out_bad, thn_nx, thn_ret, thn_brk, thn_ct, thn_ex, thn_bad, val_nx, val_ret, val_ex, tgSem, tgsSem, binSem, addSem, augSem, ixSem, seqOf, lstOf, lstT, newL, cmpSem, cmpInts, cmpI, eqD_int, DV.isNon, biSem, biLen, biInt, biList, biTuple, biTwo, isi_ii, isi_ib, isi_il, isi_it, isi_ll, isi_li, isi_lt, isi_tt, isi_tl, isi_ti, itemsOf, litOf, at0, at1, at2, ix30, ix31, ix32, sl0, sl1, sl2, sl3, sl4, sl5, sl6, sl7, sl8, sl9, sl10, sl11, sl12, sl13, sl14, fnSem, startE, wipeE, -e_ife, ir_law_19, ir_law_20, ir_law_21, ir_law_22, ir_law_23, ir_law_24, z, rp, oe, k3, q0, z5, k4, k5, k6, k7, z3]
  · rintro ρ' s' ⟨a, c, junk, x2, x3, x4, x5, x6, x7, x8, x9, x10, x11, x12, x13, x14, x15, x16, x17, x18, x19, x20, rfl, rfl, a0, a1⟩
    exact ⟨.dead :: pen cells a c :: junk, by simp -implicitDefEqProofs [b_nil, b_cons, b_ifs, b_for, b_while, semS, e_lc, e_lc2, e_var, e_int, e_bl, e_non, e_str, e_glob, e_bin, e_neg, e_tst, e_ife, e_tup, e_lst, e_ix, e_slc, e_rev, e_call, e_callK, permL, e_bi, e_isi, e_meth, e_fz, e_fzl, e_sortK, e_isx, e_isb, e_fld, e_callT, e_emp, b_try, isxSem, fldSem, actSem, actOut, catchO, onlyT_at, semEs, semT, semAnd, semOr, semO, semC, semI, R.bind_ok, R.bind_ex, R.bind_bad, R.out_ok, R.out_ex, R.out_bad, thn_nx, thn_ret, thn_brk, thn_ct, thn_ex, thn_bad, val_nx, val_ret, val_ex, tgSem, tgsSem, binSem, addSem, augSem, ixSem, seqOf, lstOf, lstT, newL, cmpSem, cmpInts, cmpI, eqD_int, DV.isNon, biSem, biLen, biInt, biList, biTuple, biTwo, isi_ii, isi_ib, isi_il, isi_it, isi_ll, isi_li, isi_lt, isi_tt, isi_tl, isi_ti, itemsOf, litOf, at0, at1, at2, ix30, ix31, ix32, sl0, sl1, sl2, sl3, sl4, sl5, sl6, sl7, sl8, sl9, sl10, sl11, sl12, sl13, sl14, fnSem, startE, wipeE, ir_law_25]⟩
end K84
theorem PySem.Challenge.cw_pacefold_k84_work_refused_holds : PySem.Challenge.rw_pacefold_k84_work_refused.Holds :=
  K84.holds_of fun ns _ => K84.law_ok ns

