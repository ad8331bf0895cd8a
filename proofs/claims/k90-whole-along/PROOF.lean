import PyProof.Rows.All
import Wide.All
import OpenK.AllK
import Wide.FinOn
import HandS.ForMost
import PyProof.CollectIter
import PyProof.WalksMore
import HandS.DictTup
import HandS.Walk
import KE.GoesEnum
import HandS.SortKw
import KE.KDictCopyH
import KE.KDictOf
import HandS.IsInst
import HandS.More
import HandS.Conv
import HandS.Zip
import HandS.TupAny
import HandS.Wide
import HandS.MakeKw
import HandS.SortRule
import HandS.Flow
import HandS.NoneIn
import HandS.MakeKwOnly
import HandS.HeadHook2
import PySem.Challenge.RW_linesofreturn_k90_whole_along_loses_no_m
section
set_option linter.all false
/-! what the program computes, over plain lists -/
namespace Lor
/-- a deed of a history -/
inductive Deed where
  | own (h x : Nat)
  | send (h to : Nat)
  | take (h f k : Nat)
  | keep (h : Nat)
  deriving DecidableEq
def Deed.hand : Deed → Nat
  | .own h _ => h
  | .send h _ => h
  | .take h _ _ => h
  | .keep h => h
/-- a deed and the number of the step that it goes with -/
abbrev Row := Deed × Nat
abbrev Nm := Nat × Nat

/-! ### dicts by pairs of numbers -/
section
variable {α : Type}
def aget : List (Nm × α) → Nm → Option α
  | [], _ => none
  | q :: r, k => if q.1 = k then some q.2 else aget r k
def ahas (l : List (Nm × α)) (k : Nm) : Bool := (aget l k).isSome
def arep : List (Nm × α) → Nm → α → List (Nm × α)
  | [], _, _ => []
  | q :: r, k, a => (if q.1 = k then (q.1, a) else q) :: arep r k a
def aput (l : List (Nm × α)) (k : Nm) (a : α) : List (Nm × α) := if ahas l k = true then arep l k a else l ++ [(k, a)]
end
/-- sets of pairs in the order of their coming -/
def kadd (ks : List Nm) (q : Nm) : List Nm := if q ∈ ks then ks else ks ++ [q]
def kupd (ks more : List Nm) : List Nm := more.foldl kadd ks

/-! ### hands as they go -/
structure Ltr where
  to : Nat
  wo : Nat
  tk : Bool
structure Gs where
  wo : List Nat
  se : List Nat
  ls : List (Nm × Ltr)
def gstart (m : Nat) : Gs := ⟨List.replicate m 0, List.replicate m 0, []⟩
def gstep (g : Gs) : Deed → Gs
  | .own h x => { g with wo := g.wo.set h x }
  | .send h to => { g with ls := aput g.ls (h, g.se.getD h 0) ⟨to, g.wo.getD h 0, false⟩, se := g.se.set h (g.se.getD h 0 + 1) }
  | .take h f k => match aget g.ls (f, k) with
    | some l => { g with ls := aput g.ls (f, k) ⟨l.to, l.wo, true⟩, wo := g.wo.set h ((3 * g.wo.getD h 0 + l.wo + 1) % 1000) }
    | none => g
  | .keep _ => g
def going (m : Nat) (rows : List Row) : Gs := rows.foldl (fun g r => gstep g r.1) (gstart m)

/-! ### what is known -/
structure Bs where
  kn : List (List Nm)
  bo : List (Nm × List Nm)
  so : List (Nm × Nm)
  ta : List (Nm × Nm)
  se : List Nat
def bstart (m : Nat) : Bs := ⟨List.replicate m [], [], [], [], List.replicate m 0⟩
def bown (many : Nat) (kn : List (List Nm)) (h s : Nat) : List (List Nm) := if h < many ∧ 0 < s then kn.set h (kadd (kn.getD h []) (h, s)) else kn
def bstep (many : Nat) (b : Bs) (r : Row) : Bs :=
  match r.1 with
  | .take h f k => { b with kn := (bown many b.kn h r.2).set h (kupd ((bown many b.kn h r.2).getD h []) ((aget b.bo (f, k)).getD [])), ta := aput b.ta (f, k) (h, r.2) }
  | .send h _ => { b with kn := bown many b.kn h r.2, bo := aput b.bo (h, b.se.getD h 0) ((bown many b.kn h r.2).getD h []), so := aput b.so (h, b.se.getD h 0) (h, r.2), se := b.se.set h (b.se.getD h 0 + 1) }
  | d => { b with kn := bown many b.kn d.hand r.2 }
def bearing (many : Nat) (rows : List Row) : Bs := rows.foldl (bstep many) (bstart (many + 1))

/-! ### a town -/
def isTake (h : Nat) (r : Row) : Bool := match r.1 with
  | .take h' _ _ => h' == h
  | _ => false
/-- how many steps a hand has -/
def count (rows : List Row) (h : Nat) : Nat := (rows.filter (isTake h)).length
abbrev Tabs := List (List (List Nat))
structure TS where
  rows : List Row
  wr : List Nat
  told : List (Nat × Nat × Nat)
  falls : List (List Nat)
def tstart (many : Nat) : TS := ⟨[], List.replicate many 0, [], []⟩
/-- the targets of a hand's last step -/
def targets (tabs : Tabs) (rows : List Row) (h : Nat) : List Nat :=
  (tabs.getD h []).getD ((going (tabs.length + 1) rows).wo.getD h 0 % (tabs.getD h []).length) []
def sendAll (tabs : Tabs) (rows : List Row) (h : Nat) : List Row := rows ++ (targets tabs rows h).map fun to => (.send h to, count rows h)
def allWritten (wr : List Nat) (ks : List Nm) : Bool := ks.all fun q => decide (q.2 ≤ wr.getD q.1 0)
/-- may this letter, of the step own, be told now -/
def mayTell (many : Nat) (b : Bs) (ta : List (Nm × Nm)) (ls : List (Nm × Ltr)) (wr : List Nat) (own : Nm) (q : Nm × Nm) : Bool :=
  decide (q.2 = own) && (match aget ls q.1 with | some l => l.to == many | none => false) && !(ahas ta q.1) && allWritten wr ((aget b.bo q.1).getD [])
def firstUntold (many : Nat) (b : Bs) (ta : List (Nm × Nm)) (ls : List (Nm × Ltr)) (wr : List Nat) (own : Nm) : Option Nm := (b.so.find? (mayTell many b ta ls wr own)).map (·.1)
structure Tl where
  rows : List Row
  told : List (Nat × Nat × Nat)
  ta : List (Nm × Nm)
/-- one turn of tell -/
def tellStep (many : Nat) (b : Bs) (ls : List (Nm × Ltr)) (wr : List Nat) (t : Tl) (r : Row) : Tl :=
  match r.1 with
  | .send h to => if to = many then
      match firstUntold many b t.ta ls wr (h, r.2) with
      | some l => ⟨t.rows ++ [(.take many l.1 l.2, 0)], t.told ++ [(l.1, l.2, match aget ls l with | some x => x.wo | none => 0)], aput t.ta l (many, 0)⟩
      | none => t
    else t
  | _ => t
def tellGo (many : Nat) (rows : List Row) (wr : List Nat) (told : List (Nat × Nat × Nat)) : Tl :=
  rows.foldl (tellStep many (bearing many rows) (going (many + 1) rows).ls wr) ⟨rows, told, (bearing many rows).ta⟩
def tellS (many : Nat) (st : TS) : TS := { st with rows := (tellGo many st.rows st.wr st.told).rows, told := (tellGo many st.rows st.wr st.told).told }

/-! ### falls -/
/-- a cut in whole steps -/
def IsCutS (many : Nat) (ta so : List (Nm × Nm)) (c : List Nat) : Prop :=
  ∀ l h s o n, (l, (h, s)) ∈ ta → aget so l = some (o, n) → h < many → s ≤ c.getD h 0 → o < many → n ≤ c.getD o 0
/-- the greatest cut under so many -/
structure Great (many : Nat) (ta so : List (Nm × Nm)) (most c : List Nat) : Prop where
  len : c.length = many
  under : ∀ h, h < many → c.getD h 0 ≤ most.getD h 0
  cut : IsCutS many ta so c
  top : ∀ d : List Nat, (∀ h, h < many → d.getD h 0 ≤ most.getD h 0) → IsCutS many ta so d → ∀ h, h < many → d.getD h 0 ≤ c.getD h 0
/-- the steps of a hand that are neither written nor known -/
def unknown (known : List Nm) (h first many : Nat) : List Nat := ((List.range (many + 1 - first)).map (· + first)).filter fun s => decide ((h, s) ∉ known)
/-- m is the least of them, d where there are none -/
def IsMinD (ns : List Nat) (d m : Nat) : Prop := (ns = [] → m = d) ∧ (ns ≠ [] → m ∈ ns ∧ ∀ y ∈ ns, m ≤ y)
/-- what is known to those that did not fall -/
def knownBy (b : Bs) (many : Nat) (fallen : List Nat) (knowing : Bool) : List Nm :=
  (List.range many).foldl (fun ks h => if knowing = true ∧ h ∉ fallen then kupd ks (b.kn.getD h []) else ks) []
/-- how many steps each hand has ahead of the cut -/
structure Most (b : Bs) (rows : List Row) (wr : List Nat) (many : Nat) (fallen : List Nat) (knowing : Bool) (most : List Nat) : Prop where
  len : most.length = many
  up : ∀ h, h < many → h ∉ fallen → most.getD h 0 = count rows h
  down : ∀ h, h < many → h ∈ fallen → IsMinD (unknown (knownBy b many fallen knowing) h (wr.getD h 0 + 1) (count rows h)) (count rows h + 1) (most.getD h 0 + 1)
/-- how many steps each hand keeps -/
def Kept (many : Nat) (st : TS) (fallen : List Nat) (knowing : Bool) (c : List Nat) : Prop :=
  ∃ most, Most (bearing many st.rows) st.rows st.wr many fallen knowing most ∧ Great many (bearing many st.rows).ta (bearing many st.rows).so most c
def keepRow (many : Nat) (c : List Nat) (r : Row) : Bool := decide (r.1.hand = many) || decide (r.2 ≤ c.getD r.1.hand 0)
def fallS (many : Nat) (st : TS) (c : List Nat) : TS :=
  { rows := st.rows.filter (keepRow many c), wr := (List.range many).map fun h => min (st.wr.getD h 0) (c.getD h 0), told := st.told,
    falls := st.falls ++ [(List.range many).map fun h => count st.rows h - c.getD h 0] }

/-! ### deeds of a town -/
inductive TD where
  | put (h x : Nat)
  | step (h f k : Nat)
  | write (h : Nat)
  | keep (h : Nat)
  | fall (l : List Nat)
/-- what a deed leaves ahead of telling (way not wait) -/
inductive Does (tabs : Tabs) (knowing : Bool) (st : TS) : TD → TS → Prop where
  | put (h x : Nat) : Does tabs knowing st (.put h x) { st with rows := st.rows ++ [(.own tabs.length x, 0), (.send tabs.length h, 0)] }
  | step (h f k : Nat) : Does tabs knowing st (.step h f k) { st with rows := sendAll tabs (st.rows ++ [(.take h f k, count st.rows h + 1)]) h }
  | write (h : Nat) : Does tabs knowing st (.write h) { st with wr := st.wr.set h (st.wr.getD h 0 + 1) }
  | keep (h : Nat) : Does tabs knowing st (.keep h) { st with rows := st.rows ++ [(.keep h, count st.rows h)], wr := st.wr.set h (count st.rows h) }
  | fall (l : List Nat) (c : List Nat) : Kept tabs.length st l knowing c → Does tabs knowing st (.fall l) (fallS tabs.length st c)
/-- tables as Town takes them -/
structure TabsOk (tabs : Tabs) : Prop where
  two : 2 ≤ tabs.length
  four : tabs.length ≤ 4
  own : ∀ h own, tabs[h]? = some own → 1 ≤ own.length ∧ own.length ≤ 4 ∧ ∀ ts ∈ own, ts.length ≤ 3 ∧ ∀ t ∈ ts, t ≤ tabs.length ∧ t ≠ h
/-- a letter that may be taken -/
structure MayTake (tabs : Tabs) (st : TS) (h f k : Nat) : Prop where
  hand : h < tabs.length
  from_ : f ≤ tabs.length
  ne : f ≠ h
  few : k ≤ 400
  there : ∃ w, aget (going (tabs.length + 1) st.rows).ls (f, k) = some ⟨h, w, false⟩
/-- a lot of hands that falls -/
structure LotOk (many : Nat) (l : List Nat) : Prop where
  some : l ≠ []
  low : ∀ h ∈ l, h < many
  up : l.Pairwise (· < ·)
def Legal (tabs : Tabs) (st : TS) : TD → Prop
  | .put h x => h < tabs.length ∧ x ≤ 999
  | .step h f k => MayTake tabs st h f k
  | .write h => h < tabs.length ∧ st.wr.getD h 0 < count st.rows h
  | .keep h => h < tabs.length
  | .fall l => LotOk tabs.length l
/-- a row as it may stand behind others -/
structure RowOk (many : Nat) (g : Gs) (r : Row) : Prop where
  hand : r.1.hand ≤ many
  step : r.2 ≤ 33
  own : ∀ h x, r.1 = .own h x → h = many
  send : ∀ h to, r.1 = .send h to → to ≤ many
  take : ∀ h f k, r.1 = .take h f k → f ≤ many ∧ (h < many → 1 ≤ r.2) ∧ ∃ l, aget g.ls (f, k) = some l
def Valid (many : Nat) (rows : List Row) : Prop := ∀ i r, rows[i]? = some r → RowOk many (going (many + 1) (rows.take i)) r
/-- what a town's state keeps, for its methods to go through -/
structure Sound (tabs : Tabs) (st : TS) : Prop where
  valid : Valid tabs.length st.rows
  few : st.rows.length ≤ 400
  wlen : st.wr.length = tabs.length
  wr : ∀ h, h < tabs.length → st.wr.getD h 0 ≤ count st.rows h
  steps : ∀ h, h < tabs.length → count st.rows h ≤ 33
  told : st.told.length ≤ 400
  falls : st.falls.length ≤ 10
end Lor
end

section
set_option Elab.async false
set_option linter.all false
set_option maxRecDepth 100000
set_option maxHeartbeats 4000000
/-! a, b, *r = t: a star as the last target -/
namespace L2
open PySem PySem.Spec PyProof.Rows
section
variable {prog : Program} {w : World} {A : Around} {E : Value → Shared → Prop} {s : Shared}
/-- a tuple's iterator from its k-th item on -/
theorem walks_tupFrom (hh : A.handled = none) (I ax : Addr) (hne : ax ≠ I) (items : Array Value) (k : Nat) :
    Walks prog w A I [I, ax] [I] (items.size - k) (fun i v => items[k + i]? = some v) (fun i h => h.IsTupleIter I ax (k + i) ∧ h.IsTuple ax items) where
  sub := fun b hb => by simp at hb; simp [hb]
  frame := fun _ _ _ st hk => ⟨st.1.at fun o e => hk I (by simp) o e, st.2.at fun o e => hk ax (by simp) o e⟩
  item := fun i s Q E hi st hQ => by
    have hlt : k + i < items.size := by omega
    refine wpAny_pyNext_tuple_item st.1 st.2 (x := items[k + i]) (by simp [hlt]) fun h' hit' hs' => ?_
    exact hQ _ h' s.toks (by simp [hlt]) ⟨hit', st.2.extBut hs'.extBut hne⟩ fun b o hb e => hs'.extBut b o (fun h => hb (by simp [h])) e
  done := fun s Q E st hQ => wpAny_pyNext_tuple_end hh st.1 st.2 (by simp; omega) fun h' he' => hQ h' s.toks fun b o hb e => he' b o (fun h => hb (by simp [h])) e
  self := fun _ _ _ _ st hQ => wpAny_pyIter_tupleiter st.1 hQ

theorem unpack_starK {t : Addr} {items : Array Value} {k : Nat} {Q : List Value → Shared → Prop} (hh : A.handled = none) (ht : IsTup s.heap t items) (hk : k ≤ items.size) (hz : items.size ≤ sizeLine)
    (hQ : ∀ (h2 : Heap) (tk : Nat), (∀ b o, s.heap.get? b = some o → h2.get? b = some o) →
      Q (items.toList.take k ++ [.ref h2.objs.size]) { s with heap := h2.push { cls := .type "list", data := .seq (items.toList.drop k).toArray }, toks := tk }) : wpAny (model prog w) A (unpackItems (.ref t) (k + 1) (some k)) Q E s := by
  have hlt : t ≠ s.heap.objs.size := by obtain ⟨o, ho, _⟩ := ht; exact Nat.ne_of_lt (Heap.lt_size ho)
  unfold unpackItems
  refine wpAny_bind ?_
  unfold notIterableAtAll
  refine wpAny_bind (wpAny_specialOf ht.typeIs slot_tuple_iter.lookup ?_)
  refine wpAny_pure ?_
  simp only [Bool.false_eq_true, if_false]
  refine wpAny_bind (wpAny_holding (iter_tuple ht ?_))
  refine wpAny_bind (wpAny_holding (draw_tuple hlt k 0 _ _ ⟨_, Heap.get?_push_size _ rfl, rfl, rfl⟩ (ht.push _) (by omega) fun h1 hit1 hs1 => ?_))
  have hall : List.take k (List.drop 0 items.toList) = items.toList.take k := by rw [List.drop_zero]
  rw [hall]
  have hlen : (items.toList.take k).length = k := by rw [List.length_take]; simp; omega
  rw [if_neg (by rw [hlen]; exact Nat.lt_irrefl _)]
  have ht1 : IsTup h1 t items := (ht.push _).extBut hs1.extBut hlt
  have kp1 : ∀ b o, s.heap.get? b = some o → h1.get? b = some o := fun b o e => hs1.extBut b o (Nat.ne_of_lt (Heap.lt_size e)) (Heap.get?_push_of_some _ e)
  refine wpAny_bind (wpAny_holding ?_)
  have W : Walks prog w A.in1 s.heap.objs.size [s.heap.objs.size, t] [s.heap.objs.size] (items.size - k) (fun i v => items[k + i]? = some v) (fun i h => h.IsTupleIter s.heap.objs.size t (k + i) ∧ h.IsTuple t items) :=
    walks_tupFrom (A := A.in1) (by first | exact hh | (show A.in1.handled = none; exact hh)) _ _ hlt items k
  have hin : h1.IsTupleIter s.heap.objs.size t k := by
    have : (0 + k) = k := by omega
    rw [this] at hit1
    exact hit1
  refine wpAny_collect_iter (T := "tuple_iterator") (.inr (.inr (.inr rfl))) W.toS (fun i s st => ?_) ⟨by show h1.IsTupleIter _ _ (k + 0); exact hin, ht1⟩ (fun b hb => ?_) (by simp) (fun s2 acc mv it => ?_) (by omega)
  · obtain ⟨⟨o, e, c, _⟩, _⟩ := st
    exact ⟨o, e, c⟩
  · have hb' : b = s.heap.objs.size ∨ b = t := by simpa using hb
    rcases hb' with z | z
    · rw [z]; obtain ⟨o, e, _⟩ := hin; exact Heap.lt_size e
    · rw [z]; obtain ⟨o, e, _⟩ := ht1; exact Heap.lt_size e
  · have eacc : acc.toList = items.toList.drop k := by
      obtain ⟨h1, h2⟩ := it
      refine List.ext_getElem? fun i => ?_
      by_cases hi : i < acc.size
      · have q := h2 i acc[i] (by simp [hi])
        have q2 : acc.toList[i]? = some acc[i] := by simp [hi]
        rw [q2, List.getElem?_drop]
        simpa using q.symm
      · rw [List.getElem?_eq_none (by simpa using hi), List.getElem?_eq_none (by simp; omega)]
    have l2 : acc.toList.length = items.size - k := by rw [eacc]; simp
    rw [if_neg (by omega)]
    refine wpAny_bind ?_
    have mid : acc.toList.length - (k + 1 - 1 - k) = acc.toList.length := by omega
    rw [mid, List.take_length]
    refine wpAny_newObj_type ?_ (by show (acc.toList.toArray).size ≤ sizeLine; simp; rw [it.1]; omega)
    refine wpAny_pure ?_
    rw [List.drop_length, List.append_nil]
    obtain ⟨hp2, g2, d2, tk2, os2⟩ := s2
    obtain ⟨m1, m2, m3, m4, m5⟩ := mv
    dsimp only at m1 m2 m3 m4 m5
    subst m2 m3 m4
    rw [eacc]
    exact hQ hp2 tk2 (fun b o e => m1 b o (by simp; exact Nat.ne_of_lt (Heap.lt_size e)) (kp1 b o e))
end
section
variable {X : Cx} {pos : Pos}
/-- (a, .., *r) = a tuple: k names ahead of the star, the rest a new list -/
def gStar (K : PySem.W.Frag) (k : Nat) (t : TGs) : TG := fun v σ H Q => ∃ a xs, v = .ref a ∧ SqT K H a xs ∧ k ≤ xs.length ∧ ∀ p, H p = none → t (xs.take k ++ [.ref p]) σ (upd H p (.lst (xs.drop k))) Q
theorem pg_star {es es' : List Expr} {kk : Nat} {t : TGs} {k : Nat} (hc : X.calm = true) (h : PGs X es' t)
    (hn : (assignEach es X.env).length = k + 1 := by rfl) (hst : (assignEach es X.env).findIdx? (·.1) = some k := by rfl) (hm : (assignEach es X.env).map (·.2) = (assignEach es' X.env).map (·.2) := by rfl) : PG X (.Tuple es kk pos) (gStar X.K k t) := by
  refine ⟨fun pins s σ H v u Q I r hw => ?_⟩
  obtain ⟨a, xs, e1, hq, hl, hw⟩ := hw
  subst e1
  cases r
  obtain ⟨its, rv, ht, hz⟩ := I.tuple hq
  have el := rv.length
  rw [assign_Tuple]
  refine wpAny_bind (wpAny_standAt ?_)
  unfold unpack
  rw [hn, hst]
  refine wpAny_bind (wpAny_holding (unpack_starK (I.ok.hd hc) ht (by simp; omega) (by simp; omega) fun h2 tk hk => ?_))
  rw [hm]
  have I1 : Inv X pins σ H { s with heap := h2, toks := tk } := I.kept (t' := tk) hk
  have hf : H h2.objs.size = none := I1.hok.fresh (Nat.le_refl _)
  have hz2 : (xs.drop k).length ≤ sizeLine := by
    rw [List.length_drop]; omega
  have I2 : Inv X pins σ (upd H h2.objs.size (.lst (xs.drop k))) { s with heap := h2.push { cls := .type "list", data := .seq (its.drop k).toArray }, toks := tk } :=
    I1.laid (t' := tk) (fun b u e => Heap.get?_push_of_some _ e) (Nat.le_refl _) ⟨hz2, its.drop k, 0, rv.drop k, Heap.get?_push_size _ rfl⟩
  exact h.run pins _ σ _ _ _ Q I2 ((rv.take k).append (.cons (show RelV (V.ref h2.objs.size) (Value.ref h2.objs.size) from rfl) .nil)) (hw _ hf)
end
end L2
end

section
set_option Elab.async false
set_option linter.all false
set_option maxRecDepth 100000
set_option maxHeartbeats 4000000
/-! rules that the layer lacks: an attribute as a target among several; xs[i] by values; items() of a dict with tuple keys; enumerate of a tuple; an expression never reached -/
namespace L2
open PySem PySem.Spec PyProof.Rows

/-- an expression that is never reached -/
def tNo : TE := fun _ _ _ => False
theorem pe_no {X : Cx} {e : Expr} : PE X e tNo := ⟨fun _ _ _ _ _ _ h => h.elim⟩
theorem pt_no {X : Cx} {e : Expr} : PT X e (fun _ _ _ => False) := ⟨fun _ _ _ _ _ _ h => h.elim⟩

/-- o.f = .. as one of several targets -/
def gFld (K : PySem.W.Frag) (ta : TE) (f : Str) : TG := fun y σ H Q => ta σ H fun x H2 => ∃ a C dx fs, x = .ref a ∧ H2 a = some (.ins C dx fs) ∧ Cls K C ∧ NoAttr K C f ∧ fs.length < 1000 ∧ Q σ (upd H2 a (.ins C dx (putF f y fs)))
theorem pg_fld {X : Cx} {o : Expr} {f : Str} {pos : Pos} {ta : TE} (ha : PE X o ta) : PG X (.Attribute o f pos) (gFld X.K ta f) := by
  refine ⟨fun pins s σ H v u Q I r hw => ?_⟩
  rw [assign_Attribute]
  refine wpAny_bind (wpAny_holding (thn (ha.run pins s σ H _ I hw) fun ov s2 ⟨x, H2, I2, rx, a, C, dx, fs, ex, ea, c, n, l, q2⟩ => ?_))
  subst ex
  obtain rfl : ov = Value.ref a := rx
  refine wpAny_bind (wpAny_standAt (wpAny_bind (wpAny_holding (setattr_ok I2 ea c n l r fun s3 I3 => ?_))))
  exact wpAny_release ⟨σ, _, I3, q2⟩

/-- xs[i] of a list, by values -/
theorem get_list {X : Cx} : PGet X (rIxL X.K) := by
  intro pins s σ H x y v u Q I rx ry h
  obtain ⟨p, xs, i, z, rfl, rfl, hq, he, q⟩ := h
  cases rx
  obtain ⟨t, rfl⟩ := ry
  obtain ⟨its, r, pl, hz⟩ := I.list hq
  obtain ⟨j, h1, h2, h3, h4, h5⟩ := atI_get he
  obtain ⟨w, ew, rw'⟩ := r.get h2
  have hl := r.length
  have hn := line63
  have fin : EP X pins σ Q w s := ⟨z, H, I, rw', q⟩
  by_cases h0 : 0 ≤ i
  · have hj : i.toNat = j := by
      rw [seqIndex_of h0 h5] at h1
      exact Option.some.inj h1
    exact wpAny_getItem_list pl.isList h0 (by omega) (by rw [hj]; simpa using ew) fin
  · have hj : (i + (its.toArray.size : Int)).toNat = j := by
      rw [seqIndex_neg (by omega) h4] at h1
      rw [List.size_toArray, ← hl]
      exact Option.some.inj h1
    exact wpAny_getItem_list_neg pl.isList (by omega) (by rw [List.size_toArray] <;> omega) (by omega) (by rw [hj]; simpa using ew) fin

/-! ### items() of a dict with tuple keys -/
section
variable {X : Cx} {pins : List (Addr × Obj)} {σ : St} {H : Hp} {s : Shared} {d : Addr} {o : Obj}
theorem Inv.frzTV {kvs : List (List Key × V)} (I : Inv X pins σ H s) (h : H d = some (.frz o (.dT kvs))) :
    (d == sysModules) = false ∧ s.heap.get? d = some o ∧ o.ExactDict ∧ ∃ (es : Array DictEntry) (ep : Nat), o.data = .dict es ep ∧ es.size = kvs.length ∧
      ∀ (i : Nat) (k : List Key) (v : V), kvs[i]? = some (k, v) → ∃ (en : DictEntry) (q : Addr), es[i]? = some en ∧ en.key = .ref q ∧ H q = some (.tup (k.map kV)) ∧ RelV v en.val := by
  obtain ⟨hd, z, hs, xs, pr, o', es, ep, ho, hx, hdt, he, _⟩ := I.hok d _ h
  rw [hd] at ho
  cases ho
  refine ⟨hs, hd, hx, es, ep, hdt, ?_, fun i k v e => ?_⟩
  · have l1 : es.size = xs.length := size_of_entries he
    have l2 : kvs.length = xs.length := Paired.length pr
    omega
  · obtain ⟨b, hb, e1, e2, e3⟩ := paired_get pr e
    have q := entry_at he i
    rw [hb] at q
    exact ⟨_, b.2.1, q, rfl, e2, e3⟩
end
/-- the pairs of a locked dict with tuple keys, each a new tuple -/
def ItiT (d : Addr) (o : Obj) (kvs : List (List Key × V)) : It :=
  ⟨fun i H => H d = some (.frz o (.dT kvs)) ∧ i < kvs.length, fun i H x H' => ∃ T k v q, kvs[i]? = some (k, v) ∧ x = .ref T ∧ H T = none ∧ H q = some (.tup (k.map kV)) ∧ H' = upd H T (.tup [.ref q, v]), fun i H => H d = some (.frz o (.dT kvs)) ∧ kvs.length ≤ i⟩
section
variable {P : Program} {w : World} {K : PySem.W.Frag} {tg : Expr} {d : Addr} {o : Obj} {es : Array DictEntry} {ep : Nat}
theorem turn_itemsT {kvs : List (List Key × V)} {elts : List Expr} {kk : Nat} {tpos : Pos} (it : Addr) (hod : o.data = .dict es ep) :
    Turn P w K (.Tuple elts kk tpos) (ItiT d o kvs) [it] it (fun i h => ∃ ok ov, IsItemIter h it d i kvs.length ep ok ov) where
  mem := by simp
  obj := fun i h st b hb => by
    have e : b = it := by simpa using hb
    subst e
    obtain ⟨ok, ov, e⟩ := st
    exact ⟨_, e, fun v z => nomatch z⟩
  keep := fun i h h' st k => let ⟨ok, ov, e⟩ := st; ⟨ok, ov, k it (by simp) _ e⟩
  item := by
    intro X hP hw hK hc i pins s σ H E I hf st hg
    subst hP hw hK
    obtain ⟨hd, hi⟩ := hg
    obtain ⟨hs, hgd, hx, es', ep', hdt, hsz, ent⟩ := I.frzTV hd
    obtain ⟨rfl, rfl⟩ := dict_ep hod hdt
    obtain ⟨⟨k, v⟩, hkv⟩ : ∃ p, kvs[i]? = some p := ⟨kvs[i], List.getElem?_eq_getElem hi⟩
    obtain ⟨en, q, hen, hkey, hq, hv⟩ := ent i k v hkv
    obtain ⟨ok, ov, he⟩ := st
    rw [← hsz] at he
    have hlt : it < s.heap.objs.size := Heap.lt_size he
    have hi' : i < es'.size := by omega
    have hen' : es'[i] = en := by
      have := Array.getElem?_eq_getElem hi'
      rw [hen] at this
      exact (Option.some.inj this).symm
    refine DT.nextI he ⟨o, hgd, hx, hdt⟩ hi' fun h' ho hT hz hk => ?_
    rw [hen', hkey] at ho hT
    refine ⟨_, rfl, wpAny_letOwnedTupleGo_items (s := { s with heap := h' }) ho fun h'' he' sb => ?_⟩
    have hT2 : h''.get? s.heap.objs.size = some { cls := .type "tuple", data := .seq #[.ref q, en.val] } := (sb.2 _ (Nat.ne_of_gt hlt)).trans hT
    have new : ObjOk X.prog X.w (upd H s.heap.objs.size (.tup [.ref q, v])) h'' s.heap.objs.size (.tup [.ref q, v]) :=
      ⟨by show 2 ≤ sizeLine; decide, [.ref q, en.val], .cons (show RelV (V.ref q) (Value.ref q) from rfl) (.cons hv .nil), ⟨_, hT2, rfl, _, rfl⟩⟩
    have I1 : Inv X pins σ (upd H s.heap.objs.size (.tup [.ref q, v])) { s with heap := h'' } :=
      I.turnedNew (t' := s.toks) (ch := [it]) (fun b ob hb e => (sb.2 b (by simpa using hb)).trans (hk b ob (by simpa using hb) e)) hf (Nat.le_refl _) new
    refine ⟨.ref s.heap.objs.size, _, I1, rfl, ⟨_, k, v, q, hkv, rfl, I.hok.fresh (Nat.le_refl _), hq, rfl⟩, ⟨.ref q, en.val, ?_⟩, fun b hb => ?_⟩
    · rw [← hsz]; exact he'
    · have e : b = it := by simpa using hb
      rw [e, upd_ne (Nat.ne_of_lt hlt)]
      exact (hf it (by simp)).1
  done := by
    intro X hP hw hK hc i pins s σ H E I hf st hg
    subst hP hw hK
    obtain ⟨hd, hi⟩ := hg
    obtain ⟨f0, f1, f2, f3, f4, f5⟩ := hf it (by simp)
    obtain ⟨hs, hgd, hx, es', ep', hdt, hsz, ent⟩ := I.frzTV hd
    obtain ⟨rfl, rfl⟩ := dict_ep hod hdt
    obtain ⟨ok, ov, he⟩ := st
    rw [← hsz] at he
    exact DT.endI (I.ok.hd hc) he ⟨o, hgd, hx, hdt⟩ (by omega) fun h' eb => ⟨rfl, I.turned (t' := s.toks) (fun b ob hb e => eb b ob hb e) f0 f1 f3 f4 f5⟩
  self := fun A i s Q E st h => let ⟨_, _, e⟩ := st; PySem.W.kcp_self e h
end
def iItemsT (td : TE) : TI := fun σ H R => td σ H fun x H1 => ∃ d o kvs, x = .ref d ∧ H1 d = some (.frz o (.dT kvs)) ∧ R (ItiT d o kvs) H1
theorem pi_itemsT {X : Cx} {e : Expr} {td : TE} {apos cpos : Pos} {elts : List Expr} {kk : Nat} {tpos : Pos} (he : PE X e td) (hbase : attributeBase e "items" X.env (eval e X.env) = eval e X.env := by rfl) (hline : (apos.endLine == cpos.line) = true := by rfl) :
    PI X (.Tuple elts kk tpos) (.Call (.Attribute e "items" apos) [] [] cpos) (iItemsT td) := by
  refine ⟨fun pins s σ H R I h => ?_⟩
  refine wpAny_Call_method (T := "dict") (id := "dict.items") hbase rfl hline F.plainAttrs_dict F.slot_dict_items F.type_dict_items (thn (he.run pins s σ H _ I h) fun u s1 ⟨x, H1, I1, rx, d, o, kvs, ex, hd, q⟩ => ?_)
  subst ex
  obtain rfl : u = Value.ref d := rx
  obtain ⟨hs, hgd, hx, es, ep, hdt, hsz, ent⟩ := I1.frzTV hd
  refine ⟨⟨o, hgd, hx.1⟩, fun a e => by cases e; exact ⟨o, hgd, hx.2.1⟩, ?_⟩
  have I2 : Inv X pins σ H1 { s1 with heap := s1.heap.push { cls := .type "dict_items", data := .fields #[.ref d] } } := I1.kept (t' := s1.toks) fun b ob q => Heap.get?_push_of_some _ q
  have raw : DT.Raw s1.heap d es ep := ⟨o, hgd, hx, hdt⟩
  have fin : wpAny (model X.prog X.w) X.A (pyIter (.ref s1.heap.objs.size)) (PIE X pins σ (.Tuple elts kk tpos) R) X.xe { s1 with heap := s1.heap.push { cls := .type "dict_items", data := .fields #[.ref d] } } := by
    refine DT.iterI (d := d) (es := es) (ep := ep) ⟨_, Heap.get?_push_size _ rfl, rfl, rfl⟩ (raw.push _) (pi_one (tk := s1.toks) I2 _ (turn_itemsT _ hdt) ⟨.none, .none, ?_⟩ q)
    rw [← hsz]
    exact Heap.get?_push_size _ rfl
  show wpAny _ _ (callWith cpos (.builtin "dict.items") [.ref d] [] []) _ X.xe s1
  exact method_meetsIn F.slot_dict_items F.entry_dict_items rfl (PySem.evalArgs_none ⟨rfl, raw.typeIs, F.args_dict_items_1 _, _, DT.meetsItems (es := es) (ep := ep) hs, raw, fin⟩)
/-- as walks go (with for_it, lc_it) -/
theorem walk_itemsT {kvs : List (List Key × V)} {d : Addr} {o : Obj} : Walk (ItiT d o kvs) kvs.length (fun H => H d = some (.frz o (.dT kvs)))
    (fun i H x H' => ∃ T k v q, kvs[i]? = some (k, v) ∧ x = .ref T ∧ H T = none ∧ H q = some (.tup (k.map kV)) ∧ H' = upd H T (.tup [.ref q, v])) where
  goes := fun i H hi h => ⟨h, hi⟩
  stops := fun H h => ⟨h, Nat.le_refl _⟩
  yields := fun i H x H' _ _ y => y

/-! ### enumerate of a tuple -/
set_option maxHeartbeats 4000000 in
theorem meets_enumerate_newT {v : Value} {o : Obj} {H : Heap → Prop} (B : Begins v o H) :
    Meets (Builtin.«enumerate.__new__» ⟨[.type "enumerate", v], []⟩) (fun _ R s => H s.heap ∧
      R (.ok (.ret (.ref (s.heap.push o).objs.size))) { s with heap := (s.heap.push o).push { cls := .type "enumerate", data := .fields #[.none, .bool false, .ref s.heap.objs.size, rawInt 0, .none, .none] } }) :=
  .of_wp fun prog w A R s h => by
    obtain ⟨hp, g, d, tk, os⟩ := s; obtain ⟨h1, h⟩ := h
    have hsub := sub_enumerate
    have q1 : ∀ {A' : Around} {E : Value → Shared → Prop} {Q : Value → Shared → Prop}, Q (.ref hp.objs.size) ⟨hp.push o, g, d, tk, os⟩ → wpAny (model prog w) A' (pyIter v) Q E ⟨hp, g, d, tk, os⟩ :=
      fun q => B.iter prog w _ _ ⟨hp, g, d, tk, os⟩ _ h1 q
    wp_walk using q1
    refine wpAny_stack_any fun st => wpAny_pure ?_
    split
    · rename_i c _ _ _ _ _
      cases (c == Value.type "enumerate")
      · wp_walk using q1
        exact ⟨_, rfl, h⟩
      · wp_walk using q1
        exact ⟨_, rfl, h⟩
    · wp_walk using q1
      exact ⟨_, rfl, h⟩
section
variable {prog : Program} {w : World} {A : Around} {E : Value → Shared → Prop} {s : Shared}
theorem call_enumerate_tup {t : Addr} {items : Array Value} {Q : Value → Shared → Prop} (hL : s.heap.IsTuple t items)
    (h : ∀ h', IsEnum h' (s.heap.objs.size + 1) s.heap.objs.size 0 .none → h'.IsTupleIter s.heap.objs.size t 0 → h'.objs.size = s.heap.objs.size + 2 →
      (∀ b o, s.heap.get? b = some o → h'.get? b = some o) → Q (.ref (s.heap.objs.size + 1)) { s with heap := h' }) :
    wpAny (model prog w) A (call (.type "enumerate") [.ref t]) Q E s := by
  have B := begins_tuple t items
  refine callType_new F.called_enumerate (by decide) (F.typeCall_enumerate_1 _) (F.newCall_enumerate_1 _) (fun obj => F.args_object_init_2 obj _) F.entry_enumerate_new
    (meets_enumerate_newT B) ⟨hL, ?_⟩
  have hz : (s.heap.push { cls := .type "tuple_iterator", data := .fields #[.ref t, .int 0 0] }).objs.size = s.heap.objs.size + 1 := Heap.size_push ..
  show _ ∧ _
  rw [hz]
  have he : IsEnum ((s.heap.push { cls := .type "tuple_iterator", data := .fields #[.ref t, .int 0 0] }).push
      { cls := .type "enumerate", data := .fields #[.none, .bool false, .ref s.heap.objs.size, rawInt 0, .none, .none] }) (s.heap.objs.size + 1) s.heap.objs.size 0 .none := by
    have := Heap.get?_push_size (s.heap.push { cls := .type "tuple_iterator", data := .fields #[.ref t, .int 0 0] })
      (o := { cls := .type "enumerate", data := .fields #[.none, .bool false, .ref s.heap.objs.size, rawInt 0, .none, .none] }) rfl
    rw [hz] at this; exact this
  refine ⟨⟨_, he, rfl⟩, h _ he ⟨_, Heap.get?_push_of_some _ (Heap.get?_push_size _ rfl), rfl, rfl⟩ (by rw [Heap.size_push, hz]) fun b o x => Heap.get?_push_of_some _ (Heap.get?_push_of_some _ x)⟩
end
section
variable {prog : Program} {w : World} {A : Around} {E : Value → Shared → Prop} {s : Shared}
theorem wpAny_pyNext_enum_endTup {e it t : Addr} {k : Nat} {items : Array Value} {i : Int} {old : Value} {Q : Option Value → Shared → Prop} (hh : A.handled = none)
    (he : IsEnum s.heap e it i old) (hit : s.heap.IsTupleIter it t k) (ht : s.heap.IsTuple t items) (hx : items[k]? = none)
    (hQ : ∀ h', Heap.ExtBut it s.heap h' → Q none { s with heap := h' }) : wpAny (model prog w) A (pyNext (.ref e)) Q E s := by
  have hT : s.TypeIs (.ref e) "enumerate" := ⟨_, he, rfl⟩
  unfold pyNext
  refine wpAny_bind (wpAny_attempt (wpAny_callSpecial?_slot (name := Str.ofString "__next__") hT F.slot_enumerate_next
    (wpAny_call_entry F.slot_enumerate_next hT F.entry_enumerate_next ?_ (F.args_enumerate_next_1 _))))
  show wpAny _ _ (field (.ref e) 2 >>= _) _ _ _
  refine wpAny_bind (wpAny_field he rfl (x := .ref it) rfl ?_)
  refine wpAny_bind (wpAny_nextOf_tuple_end (by exact hh) hit ht hx fun h' x he' hx' => ?_)
  obtain ⟨o, ho, hc⟩ := hx'
  refine wpAny_bind (wpAny_isInstance (T := "StopIteration") (b := true) ⟨o, ho, hc⟩ isSubtype_stop ?_)
  exact wpAny_pure (hQ _ he')
end
/-- the tuple at a as it stands at each turn, each item in a new pair -/
def IteT (K : PySem.W.Frag) (a : Addr) : It :=
  ⟨fun i H => ∃ (xs : List V) (x : V), SqT K H a xs ∧ xs[i]? = some x, fun i H v H' => ∃ T x, v = .ref T ∧ H T = none ∧ H' = upd H T (.tup [.int (i : Nat), x]) ∧ ∀ xs, SqT K H a xs → xs[i]? = some x, fun i H => ∃ xs : List V, SqT K H a xs ∧ xs.length ≤ i⟩
theorem turn_enumT {P : Program} {w : World} {K : PySem.W.Frag} {elts : List Expr} {kk : Nat} {tpos : Pos} (a e it : Addr) :
    Turn P w K (.Tuple elts kk tpos) (IteT K a) [e, it] e (fun i h => (∃ old, IsEnum h e it ((i : Nat) : Int) old) ∧ h.IsTupleIter it a i ∧ e ≠ it ∧ e ≠ a ∧ a ≠ it) where
  mem := by simp
  obj := fun i h st b hb => by
    obtain ⟨⟨old, he⟩, ⟨o, ho, hc, hd⟩, _⟩ := st
    have e' : b = e ∨ b = it := by simpa using hb
    rcases e' with z | z
    · rw [z]; exact ⟨_, he, fun v q => nomatch q⟩
    · rw [z]; exact ⟨o, ho, fun v q => by rw [hd] at q; cases q⟩
  keep := fun i h h' st k => let ⟨⟨old, he⟩, hi, hne⟩ := st; ⟨⟨old, k e (by simp) _ he⟩, hi.at fun o q => k it (by simp) o q, hne⟩
  item := by
    intro X hP hw hK hc i pins s σ H E I hf st hg
    subst hP hw hK
    obtain ⟨⟨old, he⟩, hit, hne, hea, hai⟩ := st
    obtain ⟨xs, x, hq, hx⟩ := hg
    obtain ⟨its, rv, p, hz⟩ := I.tuple hq
    obtain ⟨u, hu, ru⟩ := rv.get hx
    have hel : e < s.heap.objs.size := Heap.lt_size he
    have hil : it < s.heap.objs.size := by obtain ⟨_, q, _⟩ := hit; exact Heap.lt_size q
    have hlt : i < its.toArray.size := by
      have := (List.getElem?_eq_some_iff.mp hu).1
      simpa using this
    refine wpAny_pyNext_enum_itemC (Draws.tuple (A := X.A.in1) (by exact I.ok.hd hc) it a hai its.toArray) he ⟨hit, p⟩ hlt hne (by simp only [List.mem_cons, List.not_mem_nil, or_false, not_or]; exact ⟨hne, hea⟩) fun x' h' tk hP ho hit' hT hsz hk => ?_
    have ex : x' = u := by
      have hP : its.toArray[i]? = some x' := hP
      rw [List.getElem?_toArray, hu] at hP
      exact (Option.some.inj hP).symm
    subst ex
    refine ⟨_, rfl, wpAny_letOwnedTupleGo_enum (s := { s with heap := h', toks := tk + 1 }) ho fun h'' he' sb => ?_⟩
    have hT2 : h''.get? s.heap.objs.size = some { cls := .type "tuple", data := .seq #[.int i tk, x'] } := (sb.2 _ (Nat.ne_of_gt hel)).trans hT
    have new : ObjOk X.prog X.w (upd H s.heap.objs.size (.tup [.int (i : Nat), x])) h'' s.heap.objs.size (.tup [.int (i : Nat), x]) :=
      ⟨by show 2 ≤ sizeLine; decide, [.int i tk, x'], .cons ⟨_, rfl⟩ (.cons ru .nil), ⟨_, hT2, rfl, _, rfl⟩⟩
    have I1 : Inv X pins σ (upd H s.heap.objs.size (.tup [.int (i : Nat), x])) { s with heap := h'', toks := tk + 1 } :=
      I.turnedNew (ch := [e, it]) (fun b ob hb q => (sb.2 b (fun z => hb (by simp [z]))).trans (hk b ob (fun z => hb (by simp [z])) (fun z => hb (by simp [z])) q)) hf (Nat.le_refl _) new
    refine ⟨.ref s.heap.objs.size, _, I1, rfl, ⟨_, x, rfl, I.hok.fresh (Nat.le_refl _), rfl, fun ys hy => by rw [I.tuple_inj hy hq]; exact hx⟩, ⟨⟨x', ?_⟩, hit'.1.at fun o q => (sb.2 it (Ne.symm hne)).trans q, hne, hea, hai⟩, fun b hb => ?_⟩
    · have e1 : ((i + 1 : Nat) : Int) = (i : Int) + 1 := by omega
      rw [e1]; exact he'
    · have hb' : b < s.heap.objs.size := by
        have e' : b = e ∨ b = it := by simpa using hb
        rcases e' with z | z
        · rw [z]; exact hel
        · rw [z]; exact hil
      rw [upd_ne (Nat.ne_of_lt hb')]
      exact (hf b hb).1
  done := by
    intro X hP hw hK hc i pins s σ H E I hf st hg
    subst hP hw hK
    obtain ⟨⟨old, he⟩, hit, hne, hea, hai⟩ := st
    obtain ⟨xs, hq, hx⟩ := hg
    obtain ⟨its, rv, p, hz⟩ := I.tuple hq
    obtain ⟨f0, f1, f2, f3, f4, f5⟩ := hf it (by simp)
    have hl := rv.length
    exact wpAny_pyNext_enum_endTup (I.ok.hd hc) he hit p (by simp; omega) fun h' eb => ⟨rfl, I.turned (t' := s.toks) (fun b o hb q => eb b o hb q) f0 f1 f3 f4 f5⟩
  self := fun A i s Q E st h => let ⟨⟨_, he⟩, _⟩ := st; wpAny_pyIter_enum he h
def iEnumT (K : PySem.W.Frag) (ta : TA) : TI := fun σ H R => ta σ H fun vs H1 => ∃ a xs, vs = [.ref a] ∧ SqT K H1 a xs ∧ R (IteT K a) H1
theorem pi_enumT {X : Cx} {e : Expr} {ta : TA} {p pos tpos : Pos} {elts : List Expr} {kk : Nat} (hg : Gl X "enumerate") (hm : X.mg "enumerate" = none) (ha : PA X [e] ta) (hs : starEach [e] X.env = [(false, eval e X.env)] := by rfl) :
    PI X (.Tuple elts kk tpos) (.Call (.Name "enumerate" p) [e] [] pos) (iEnumT X.K ta) := by
  refine ⟨fun pins s σ H R I h => ?_⟩
  refine Call_ (ld_blt I hg hm boot_enumerate (PyProof.Rows.callWith_type1 (thn (ha.run pos pins s σ H _ I h) fun us s1 ⟨vs, H1, I1, r1, q1⟩ => ?_) hs rfl))
  obtain ⟨a, xs, ex, hq, q⟩ := q1
  subst ex
  cases r1 with
  | cons r rr =>
    cases rr
    cases r
    obtain ⟨its, rv, p', hz⟩ := I1.tuple hq
    refine call_enumerate_tup (show s1.heap.IsTuple a its.toArray from p') fun h' he hit hsz hk => wpAny_pyIter_enum he ?_
    have I2 : Inv X pins σ H1 { s1 with heap := h' } := I1.kept (t' := s1.toks) hk
    have hlt : a < s1.heap.objs.size := by obtain ⟨o, q', _⟩ := p'; exact Heap.lt_size q'
    refine ⟨s1.heap.objs.size + 1, [s1.heap.objs.size + 1, s1.heap.objs.size], _, _, H1, rfl, I2, turn_enumT a (s1.heap.objs.size + 1) s1.heap.objs.size, ⟨⟨.none, he⟩, hit, Nat.succ_ne_self _, Nat.ne_of_gt (Nat.lt_succ_of_lt hlt), Nat.ne_of_lt hlt⟩, fun b hb => ?_, q⟩
    have e' : b = s1.heap.objs.size + 1 ∨ b = s1.heap.objs.size := by simpa using hb
    have hle : s1.heap.objs.size ≤ b := by
      rcases e' with z | z
      · rw [z]; exact Nat.le_add_right _ _
      · rw [z]; exact Nat.le_refl _
    exact I1.fpOk hle (I1.hok.fresh hle)
theorem walk_enumT {K : PySem.W.Frag} {a : Addr} {xs : List V} : Walk (IteT K a) xs.length (fun H => SqT K H a xs) (YPair (fun i => some (.int (i : Nat))) (fun i => xs[i]?)) where
  goes := fun i H hi h => ⟨xs, xs[i], h, List.getElem?_eq_getElem hi⟩
  stops := fun H h => ⟨xs, h, Nat.le_refl _⟩
  yields := fun i H x H' _ h y => by
    obtain ⟨T, z, e1, e2, e3, e4⟩ := y
    exact ⟨T, _, z, e1, e2, e3, rfl, e4 xs h⟩
end L2
end

section
set_option Elab.async false
set_option linter.all false
set_option maxRecDepth 100000
set_option maxHeartbeats 4000000
/-! min(xs, default=d) of a list of whole numbers; d.update(e), dict(d) where the keys are tuples -/
namespace PySem
section
variable {prog : Program} {w : World} {A : Around} {R : Result → Shared → Prop} {I : Addr} {fp wr : List Addr} {G : Array GenState → Array GenState → Prop} {n : Nat} {P : Nat → Value → Prop} {St : Nat → Shared → Prop}
/-- the loop of min, whatever keywords it bears: j items are behind -/
theorem lor_min_loop (W : WalksS prog w A.in1 I fp wr G n P St) (bt : Nat → Nat → Bool) (hcmp : CmpOf prog w A.in1 .Lt P bt) (S : Addr) (hSf : S ∉ fp) (kw : List (Str × Value)) :
    ∀ (k j : Nat) (s : Shared) (vb : Value) (c : Nat), n - (j + 1) = k → j + 1 ≤ n → St (j + 1) s → P (argBest bt j) vb →
    s.heap.get? S = some { cls := .type "list", dict := none, data := .seq #[vb, vb] c, slots := #[] } →
    (∀ v s', P (argBest bt (n - 1)) v → Moved (S :: wr) G s s' → R (.ok (.ret v)) s') → codeAny (model prog w) A (.builtin "min.loop" ⟨[.ref I, .none, .ref S], kw⟩) R s := by
  have hSw : S ∉ wr := fun h => hSf (W.sub _ h)
  have sub : ∀ b ∈ wr, b ∈ S :: wr := fun b hb => List.mem_cons_of_mem _ hb
  have nm : (toString "min" ++ toString ".loop" : String) = "min.loop" := by decide
  have nS : ∀ {b : Addr}, b ∉ S :: wr → S ≠ b := fun hb h => hb (by rw [h]; exact List.mem_cons_self)
  intro k
  induction k with
  | zero =>
    intro j s vb c hk hj hst hPb hS hR
    have hin : j + 1 = n := by omega
    refine codeAny_builtin F.entry_min_loop ?_
    rw [Around.under_plainId F.plain_min_loop _]
    show wpAny _ A.in1 (seqItems? (.ref S) >>= _) _ _ s
    refine wpAny_bind (wpAny_seqItems hS rfl ?_)
    show wpAny _ A.in1 (tryCatch (pyNext (.ref I)) _ >>= _) _ _ s
    refine wpAny_bind (wpAny_tryCatch (W.done s _ _ (hin ▸ hst) fun s' hm => ?_))
    have hS' := hm.heap S _ hSw hS
    show wpAny _ A.in1 (updateSeq S (fun _ => #[]) >>= _) _ _ _
    refine wpAny_bind (wpAny_updateSeq hS' rfl (wpAny_bind (wpAny_letGo (wpAny_pure ?_))))
    exact hR vb _ (by rw [← hin]; exact hPb) ((hm.mono sub).then_heap (tk := s'.toks) (Nat.le_refl _) fun b o hb e => (Heap.get?_update_other _ _ (nS hb)).trans e)
  | succ k ih =>
    intro j s vb c hk hj hst hPb hS hR
    have hlt : j + 1 < n := by omega
    refine codeAny_builtin F.entry_min_loop ?_
    rw [Around.under_plainId F.plain_min_loop _]
    show wpAny _ A.in1 (seqItems? (.ref S) >>= _) _ _ s
    refine wpAny_bind (wpAny_seqItems hS rfl ?_)
    show wpAny _ A.in1 (tryCatch (pyNext (.ref I)) _ >>= _) _ _ s
    refine wpAny_bind (wpAny_tryCatch (W.item (j + 1) s _ _ hlt hst fun v s' hP hst' hm => ?_))
    have hS' := hm.heap S _ hSw hS
    show wpAny _ A.in1 (tryCatch (holding [v, v] (richCompare .Lt v vb >>= _)) _ >>= _) _ _ _
    refine wpAny_bind (wpAny_tryCatch (wpAny_holding (wpAny_bind (hcmp (j + 1) (argBest bt j) v vb _ _ _ hP hPb ?_))))
    refine wpAny_bind (wpAny_holding (wpAny_truthy_bool ?_))
    refine wpAny_bind (wpAny_letGo (wpAny_pure ?_))
    cases hb : bt (j + 1) (argBest bt j) with
    | true =>
      simp only [if_true]
      refine wpAny_bind (wpAny_updateSeq hS' rfl (wpAny_bind (wpAny_letGo ?_)))
      rw [nm]
      refine wpAny_pure ⟨plainId_quiet F.plain_min_loop _, ih (j + 1) _ v _ (by omega) hlt (W.frame _ s' _ s'.toks hst' (Nat.le_refl _) fun b hbf o e => ?_) (by simp only [argBest, hb, if_true]; exact hP) (Heap.get?_update_self _ hS' rfl) fun v' s'' hP' hm'' => ?_⟩
      · exact (Heap.get?_update_other _ _ (fun h : S = b => hSf (by rw [h]; exact hbf))).trans e
      · exact hR v' s'' hP' (Moved.trans W.gtrans ((hm.mono sub).then_heap (Nat.le_refl _) fun b o hb e => (Heap.get?_update_other _ _ (nS hb)).trans e) hm'')
    | false =>
      simp only [Bool.false_eq_true, if_false]
      refine wpAny_bind (wpAny_letGo ?_)
      rw [nm]
      refine wpAny_pure ⟨plainId_quiet F.plain_min_loop _, ih (j + 1) _ vb c (by omega) hlt hst' (by simp only [argBest, hb, Bool.false_eq_true, if_false]; exact hPb) hS' fun v' s'' hP' hm'' => ?_⟩
      exact hR v' s'' hP' (Moved.trans W.gtrans (hm.mono sub) hm'')
/-- .. its first turn -/
theorem lor_min_first (W : WalksS prog w A.in1 I fp wr G n P St) (bt : Nat → Nat → Bool) (hcmp : CmpOf prog w A.in1 .Lt P bt) (S : Addr) (hSf : S ∉ fp) (kw : List (Str × Value)) (hn : 0 < n) {s : Shared} {c : Nat} (hst : St 0 s)
    (hS : s.heap.get? S = some { cls := .type "list", dict := none, data := .seq #[] c, slots := #[] })
    (hR : ∀ v s', P (argBest bt (n - 1)) v → Moved (S :: wr) G s s' → R (.ok (.ret v)) s') : codeAny (model prog w) A (.builtin "min.loop" ⟨[.ref I, .none, .ref S], kw⟩) R s := by
  have hSw : S ∉ wr := fun h => hSf (W.sub _ h)
  have sub : ∀ b ∈ wr, b ∈ S :: wr := fun b hb => List.mem_cons_of_mem _ hb
  have nm : (toString "min" ++ toString ".loop" : String) = "min.loop" := by decide
  have nS : ∀ {b : Addr}, b ∉ S :: wr → S ≠ b := fun hb h => hb (by rw [h]; exact List.mem_cons_self)
  refine codeAny_builtin F.entry_min_loop ?_
  rw [Around.under_plainId F.plain_min_loop _]
  show wpAny _ A.in1 (seqItems? (.ref S) >>= _) _ _ s
  refine wpAny_bind (wpAny_seqItems hS rfl ?_)
  show wpAny _ A.in1 (tryCatch (pyNext (.ref I)) _ >>= _) _ _ s
  refine wpAny_bind (wpAny_tryCatch (W.item 0 s _ _ hn hst fun v s' hP hst' hm => ?_))
  have hS' := hm.heap S _ hSw hS
  show wpAny _ A.in1 (updateSeq S (fun _ => #[v, v]) >>= _) _ _ _
  refine wpAny_bind (wpAny_updateSeq hS' rfl ?_)
  rw [nm]
  refine wpAny_pure ⟨plainId_quiet F.plain_min_loop _, lor_min_loop W bt hcmp S hSf kw _ 0 _ v _ rfl hn (W.frame _ s' _ s'.toks hst' (Nat.le_refl _) fun b hbf o e => ?_) hP (Heap.get?_update_self _ hS' rfl) fun v' s'' hP' hm'' => ?_⟩
  · exact (Heap.get?_update_other _ _ (fun h : S = b => hSf (by rw [h]; exact hbf))).trans e
  · exact hR v' s'' hP' (Moved.trans W.gtrans ((hm.mono sub).then_heap (Nat.le_refl _) fun b o hb e => (Heap.get?_update_other _ _ (nS hb)).trans e) hm'')
/-- nothing to go through: the default -/
theorem lor_min_none (W : WalksS prog w A.in1 I fp wr G 0 P St) (S : Addr) (hSf : S ∉ fp) (x : Str) (d : Value) (kw : List (Str × Value)) {s : Shared} {c : Nat} (hst : St 0 s)
    (hS : s.heap.get? S = some { cls := .type "list", dict := none, data := .seq #[] c, slots := #[] })
    (hR : ∀ s', Moved wr G s s' → R (.ok (.ret d)) s') : codeAny (model prog w) A (.builtin "min.loop" ⟨[.ref I, .none, .ref S], (x, d) :: kw⟩) R s := by
  refine codeAny_builtin F.entry_min_loop ?_
  rw [Around.under_plainId F.plain_min_loop _]
  show wpAny _ A.in1 (seqItems? (.ref S) >>= _) _ _ s
  refine wpAny_bind (wpAny_seqItems hS rfl ?_)
  show wpAny _ A.in1 (tryCatch (pyNext (.ref I)) _ >>= _) _ _ s
  refine wpAny_bind (wpAny_tryCatch (W.done s _ _ hst fun s' hm => ?_))
  exact wpAny_bind (wpAny_rule (wpAny_pure (hR s' hm)))
end
theorem lor_args_min (a d : Value) : argsOk "min" ⟨[a], [(Str.ofString "default", d)]⟩ := by unfold argsOk; kernel_rfl
section
variable {prog : Program} {w : World} {A : Around} {E : Value → Shared → Prop} {s : Shared} {l : Addr} {xs : Array (Int × Tok)}
theorem lor_min_dflt {d : Value} {Q : Value → Shared → Prop} (hh : A.handled = none) (hl : s.heap.IsList l (intItems xs))
    (h : ∀ v h' tk, (0 < xs.size → (intItems xs)[argBest (fun i j => decide (numAt xs i < numAt xs j)) (xs.size - 1)]? = some v) → (xs.size = 0 → v = d) → (∀ b o, s.heap.get? b = some o → h'.get? b = some o) → Q v { s with heap := h', toks := tk }) :
    wpAny (model prog w) A (call (.builtin "min") [.ref l] [(Str.ofString "default", d)]) Q E s := by
  have nm : (toString "min" ++ toString ".loop" : String) = "min.loop" := by decide
  have hlt : l < s.heap.objs.size := by obtain ⟨_, e, _⟩ := hl; exact Heap.lt_size e
  have hsize : (intItems xs).size = xs.size := by simp [intItems]
  refine wpAny_call (codeAny_call_builtin F.plain_min F.entry_min ?_)
  simp only [checkBuiltinCall, F.kind_min]
  have body : wpAny (model prog w) A.in1 (Builtin.«min» ⟨[.ref l], [(Str.ofString "default", d)]⟩) (fun fin s' => match fin with
      | .done f => (match (Except.ok f : Result) with | .ok (.ret v) => Q v s' | .ok _ => False | .error e => E e s')
      | .again c' => c'.quiet = true ∧ codeAny (model prog w) A c' (fun r s' => match r with | .ok (.ret v) => Q v s' | .ok _ => False | .error e => E e s') s') E s := by
    show wpAny _ A.in1 (Builtin.Builtins.bindParams "min" ["key", "default"] 0 ⟨[], [(Str.ofString "default", d)]⟩ >>= _) _ _ s
    refine wpAny_bind (wpAny_of_eq (show Builtin.Builtins.bindParams "min" ["key", "default"] 0 ⟨[], [(Str.ofString "default", d)]⟩ = pure [none, some d] from rfl) ?_)
    refine wpAny_bind (wpAny_pure ?_)
    refine wpAny_bind (iter_intList hl fun s2 e st hfp hlI => ?_)
    subst e
    refine wpAny_bind (wpAny_newObj_type ?_)
    have W := (Walks.list (prog := prog) (w := w) (A := A.in1) hh s.heap.objs.size l hlI (intItems xs)).toS
    rw [nm]
    have hsz1 : (s.heap.push { cls := .type "list_iterator", data := .fields #[.ref l, .int 0 0] }).objs.size = s.heap.objs.size + 1 := Heap.size_push ..
    have hSf : (s.heap.push { cls := .type "list_iterator", data := .fields #[.ref l, .int 0 0] }).objs.size ∉ [s.heap.objs.size, l] := fun hm => Nat.lt_irrefl _ (hfp _ hm)
    have fr := W.frame 0 { s with heap := s.heap.push { cls := .type "list_iterator", data := .fields #[.ref l, .int 0 0] } } ((s.heap.push { cls := .type "list_iterator", data := .fields #[.ref l, .int 0 0] }).push { cls := .type "list", data := .seq #[] }) s.toks st (Nat.le_refl _) fun b _ o e => Heap.get?_push_of_some _ e
    have old : ∀ {s' : Shared} {wr : List Addr} {hh : Heap}, (∀ b ∈ wr, s.heap.objs.size ≤ b) → (∀ b o, b ∉ wr → ((s.heap.push { cls := .type "list_iterator", data := .fields #[.ref l, .int 0 0] }).push { cls := .type "list", data := .seq #[] }).get? b = some o → hh.get? b = some o) →
        ∀ b o, s.heap.get? b = some o → hh.get? b = some o := fun {s' wr hh} hw k b o e => k b o (fun hm => absurd (Nat.lt_of_lt_of_le (Heap.lt_size e) (hw b hm)) (Nat.lt_irrefl _)) (Heap.get?_push_of_some _ (Heap.get?_push_of_some _ e))
    by_cases hx : 0 < xs.size
    · refine wpAny_pure ⟨plainId_quiet F.plain_min_loop _, lor_min_first W _ (CmpOf.ints_lt (numAt xs) (fun _ _ => intItems_at)) _ hSf _ (by rw [hsize]; exact hx) fr (Heap.get?_push_size _ rfl) fun v s' hP hm => ?_⟩
      obtain ⟨hp, g, dr, tk, os⟩ := s'
      obtain ⟨m1, m2, m3, m4, m5⟩ := hm
      dsimp only at m1 m2 m3 m4 m5
      subst m2 m3 m4
      rw [hsize] at hP
      refine h v hp tk (fun _ => hP) (fun z => absurd hx (by omega)) (old (s' := s) (wr := [(s.heap.push { cls := .type "list_iterator", data := .fields #[.ref l, .int 0 0] }).objs.size, s.heap.objs.size]) (fun b hb => ?_) m1)
      have e' : b = (s.heap.push { cls := .type "list_iterator", data := .fields #[.ref l, .int 0 0] }).objs.size ∨ b = s.heap.objs.size := by simpa using hb
      rcases e' with z | z
      · rw [z, hsz1]; exact Nat.le_succ _
      · rw [z]; exact Nat.le_refl _
    · have hx0 : xs.size = 0 := by omega
      rw [hsize, hx0] at W
      refine wpAny_pure ⟨plainId_quiet F.plain_min_loop _, lor_min_none W _ hSf _ d [] fr (Heap.get?_push_size _ rfl) fun s' hm => ?_⟩
      obtain ⟨hp, g, dr, tk, os⟩ := s'
      obtain ⟨m1, m2, m3, m4, m5⟩ := hm
      dsimp only at m1 m2 m3 m4 m5
      subst m2 m3 m4
      refine h d hp tk (fun z => absurd z hx) (fun _ => rfl) (old (s' := s) (wr := [s.heap.objs.size]) (fun b hb => ?_) m1)
      have e' : b = s.heap.objs.size := by simpa using hb
      rw [e']; exact Nat.le_refl _
  have ha := lor_args_min (.ref l) d
  cases hsig : Manifest.signature? "min" with
  | none => exact wpAny_pure body
  | some sig =>
    simp only [argsOk, hsig] at ha
    have h2 : Bind.checkArgs "min" sig ⟨[.ref l], [(Str.ofString "default", d)]⟩ = pure () := ha
    show wpAny _ A.in1 (Bind.checkArgs "min" sig ⟨[.ref l], [(Str.ofString "default", d)]⟩) _ _ s
    rw [h2]; exact wpAny_pure body
end
end PySem
end

section
set_option Elab.async false
set_option linter.all false
set_option maxRecDepth 100000
set_option maxHeartbeats 4000000
namespace PySem
section
variable {prog : Program} {w : World} {K : Type} [DecidableEq K] {knd : HeapKind prog w K} {A : Around} {E : Value → Shared → Prop} {s : Shared}
/-- dict(o): the keys are objects -/
theorem lor_dict_copy {o : Addr} {more : List (K × Addr × Value)} {Q : Value → Shared → Prop} (hu : ∀ B : Around, B.units ≤ A.units + 8 → knd.room B) (hoS : (o == sysModules) = false) (ho : s.heap.DictOfH knd o more) (hsz : more.length ≤ sizeLine)
    (hty : ∀ x ∈ more, s.TypeIs (.ref x.2.1) "tuple") (hap : (more.map fun x => knd.hash x.1).Nodup)
    (hst : ∀ h', (∀ b q, s.heap.get? b = some q → h'.get? b = some q) → ∀ x ∈ more, knd.is h' x.1 x.2.1)
    (h : ∀ h', h'.DictOfH knd s.heap.objs.size more → (∀ b q, s.heap.get? b = some q → h'.get? b = some q) → Q (.ref s.heap.objs.size) { s with heap := h' }) :
    wpAny (model prog w) A (call (.type "dict") [.ref o]) Q E s := by
  refine callType_codes (Q₁ := fun obj s₁ => obj = .ref s.heap.objs.size ∧ s₁ = { s with heap := s.heap.push { cls := .type "dict", data := .dict #[] } }) F.kt_called_dict (F.kt_typeCall_dict_1 _) F.entry_dict_init (kt_code_dict_new _ ⟨rfl, rfl⟩) ?_
  rintro obj s1 ⟨rfl, rfl⟩
  have kp : ∀ b q, s.heap.get? b = some q → (s.heap.push { cls := .type "dict", data := .dict #[] }).get? b = some q := fun b q e => Heap.get?_push_of_some _ e
  have hnew : (s.heap.push { cls := .type "dict", data := .dict #[] }).DictOfH knd s.heap.objs.size [] := ⟨_, #[], 0, Heap.get?_push_size _ rfl, ⟨rfl, rfl, rfl⟩, rfl, rfl, (fun x hx => nomatch hx), List.nodup_nil⟩
  have ho' : (s.heap.push { cls := .type "dict", data := .dict #[] }).DictOfH knd o more := by
    obtain ⟨oo, es, ep, h1, h2, h3, h4, h5, h6⟩ := ho
    exact ⟨oo, es, ep, kp _ _ h1, h2, h3, h4, hst _ kp, h6⟩
  have hdo : s.heap.objs.size ≠ o := by
    obtain ⟨_, _, _, hg, _⟩ := ho
    exact fun e => absurd (Heap.lt_size hg) (by rw [e]; exact Nat.lt_irrefl _)
  have tyN : ({ s with heap := s.heap.push { cls := .type "dict", data := .dict #[] } } : Shared).TypeIs (.ref s.heap.objs.size) "dict" := hnew.typeIs
  refine ⟨tyN, F.args_dict_init_2 _ _, ?_⟩
  unfold Builtin.«dict.__init__»
  refine wpAny_bind ?_
  unfold Builtin.Dict.selfAndRest
  refine wpAny_bind (wpAny_notOrdered_dict tyN ?_)
  show wpAny _ _ (pure (s.heap.objs.size, [Value.ref o])) _ _ _
  refine wpAny_pure ?_
  show wpAny _ _ (Builtin.Dict.updateFrom "dict.__init__" s.heap.objs.size (.ref o) [] .none) _ _ _
  unfold Builtin.Dict.updateFrom
  have tyO : ({ s with heap := s.heap.push { cls := .type "dict", data := .dict #[] } } : Shared).TypeIs (.ref o) "dict" := ho'.typeIs
  refine wpAny_bind (wpAny_typeOf tyO ?_)
  rw [if_neg (by decide)]
  refine wpAny_bind ?_
  unfold Builtin.Dict.merge
  refine wpAny_bind ?_
  unfold Builtin.Dict.readDirectly
  refine wpAny_bind (wpAny_isInstance tyO isSubtype_dict_dict ?_)
  simp only [Bool.not_true, Bool.false_eq_true, if_false]
  refine wpAny_bind (wpAny_specialOf tyO F.slot_dict_iter.lookup (wpAny_pure ?_))
  simp only [beq_self_eq_true, if_true]
  refine wpAny_bind (wpAny_pure ?_)
  refine wpAny_mergeDict_heap (hsz := by simpa using hsz) (hu _ ?_) hdo hoS hnew ho' (.inr ⟨fun x hx => ?_, hap⟩) fun h' hd' _ hs' => ?_
  · first | exact Nat.le_refl _ | (show _ ≤ _; simp only [Around.in1, Around.units]; omega) | decide
  · obtain ⟨oo, e1, e2⟩ := hty x hx
    exact ⟨oo, kp _ _ e1, e2⟩
  show wpAny _ _ (Builtin.Dict.addKeywords s.heap.objs.size [] >>= _) _ _ _
  rw [storedAllH_nil_of_nodup more ho.nodup] at hd'
  refine wpAny_bind (wpAny_pure (wpAny_pure ⟨rfl, h h' hd' fun b q e => ?_⟩))
  exact (hs'.2 b (Nat.ne_of_lt (Heap.lt_size e))).trans (kp b q e)
end
end PySem
namespace L2
open PySem PySem.Spec PyProof.Rows
/-- the keys hash apart -/
def Apart (ks : List (List Key)) : Prop := ∀ (P : Program) (w : World), (ks.map (tupleKind (mixKind P w)).hash).Nodup
/-- a pair of small whole numbers as a key -/
def nk (q : Nat × Nat) : List Key := [.inl (q.1 : Int), .inl (q.2 : Int)]
def boxHash (q : Nat × Nat) : Int := reduceHash (Builtin.Tuple.tupleHashOf [hashInt (q.1 : Int), hashInt (q.2 : Int)])
theorem hash_nk (P : Program) (w : World) (q : Nat × Nat) : (tupleKind (mixKind P w)).hash (nk q) = boxHash q := rfl
def boxAll : List (Nat × Nat) := (List.range 5).flatMap fun h => (List.range 34).map fun s => (h, s)
theorem box_nodup : (boxAll.map boxHash).Nodup := by decide +kernel
theorem nodup_map_inj {α β : Type} (f : α → β) : ∀ {l : List α}, (l.map f).Nodup → ∀ {x y : α}, x ∈ l → y ∈ l → f x = f y → x = y
  | [], _, _, _, hx, _, _ => nomatch hx
  | a :: l, h, x, y, hx, hy, e => by
    rw [List.map_cons, List.nodup_cons] at h
    rcases List.mem_cons.mp hx with rfl | hx'
    · rcases List.mem_cons.mp hy with rfl | hy'
      · rfl
      · exact absurd (List.mem_map.mpr ⟨y, hy', e.symm⟩) h.1
    · rcases List.mem_cons.mp hy with rfl | hy'
      · exact absurd (List.mem_map.mpr ⟨x, hx', e⟩) h.1
      · exact nodup_map_inj f h.2 hx' hy' e
theorem nodup_map_of_inj {α β : Type} (f : α → β) : ∀ {l : List α}, l.Nodup → (∀ x ∈ l, ∀ y ∈ l, f x = f y → x = y) → (l.map f).Nodup
  | [], _, _ => List.nodup_nil
  | a :: l, h, inj => by
    rw [List.map_cons, List.nodup_cons]
    rw [List.nodup_cons] at h
    refine ⟨fun hm => ?_, nodup_map_of_inj f h.2 fun x hx y hy => inj x (List.mem_cons_of_mem _ hx) y (List.mem_cons_of_mem _ hy)⟩
    obtain ⟨b, hb, e⟩ := List.mem_map.mp hm
    have := inj b (List.mem_cons_of_mem _ hb) a List.mem_cons_self e
    exact h.1 (this ▸ hb)
theorem mem_box {q : Nat × Nat} (h1 : q.1 < 5) (h2 : q.2 < 34) : q ∈ boxAll :=
  List.mem_flatMap.mpr ⟨q.1, List.mem_range.mpr h1, List.mem_map.mpr ⟨q.2, List.mem_range.mpr h2, rfl⟩⟩
/-- keys within the box hash apart -/
theorem apart_of {ks : List (Nat × Nat)} (hn : ks.Nodup) (hb : ∀ q ∈ ks, q.1 < 5 ∧ q.2 < 34) : Apart (ks.map nk) := fun P w => by
  have e : (ks.map nk).map (tupleKind (mixKind P w)).hash = ks.map boxHash := by rw [List.map_map]; rfl
  rw [e]
  exact nodup_map_of_inj boxHash hn fun x hx y hy e => nodup_map_inj boxHash box_nodup (mem_box (hb x hx).1 (hb x hx).2) (mem_box (hb y hy).1 (hb y hy).2) e
theorem nk_inj {a b : Nat × Nat} (h : nk a = nk b) : a = b := by
  obtain ⟨a1, a2⟩ := a
  obtain ⟨b1, b2⟩ := b
  simp only [nk, List.cons.injEq, Sum.inl.injEq, and_true] at h
  obtain ⟨h1, h2⟩ := h
  have e1 : a1 = b1 := by omega
  have e2 : a2 = b2 := by omega
  rw [e1, e2]
/-- what a dict holds behind an update by more -/
def mergeT (kvs more : List (List Key × V)) : List (List Key × V) := more.foldl (fun acc q => putK acc q.1 q.2) kvs
theorem KT.merge {H : Hp} : ∀ {more : List (List Key × V)} {ys : List (List Key × Addr × Value)} {kvs : List (List Key × V)} {xs : List (List Key × Addr × Value)}, KT H more ys → KT H kvs xs → KT H (mergeT kvs more) (storedAllH xs ys)
  | _, _, _, _, .nil, r => r
  | _, _, kvs, xs, .cons (a := p) (b := q) h t, r => by
    have r1 := r.put p.1 (b := q.2.1) h.2.1 h.2.2
    rw [h.1] at r1
    have := KT.merge t r1
    rw [← h.1] at this
    show KT H (mergeT (putK kvs p.1 p.2) _) (storedAllH (storedH xs q.1 q.2.1 q.2.2) _)
    rw [← h.1]
    exact this
theorem KT.keys {H : Hp} {kvs : List (List Key × V)} {xs : List (List Key × Addr × Value)} (r : KT H kvs xs) : kvs.map (·.1) = xs.map (·.1) := by
  induction r with
  | nil => rfl
  | cons h t ih => rw [List.map_cons, List.map_cons, ih, h.1]
theorem mergeT_length : ∀ (more kvs : List (List Key × V)), (mergeT kvs more).length ≤ kvs.length + more.length
  | [], _ => Nat.le_refl _
  | q :: r, kvs => by
    have h1 := mergeT_length r (putK kvs q.1 q.2)
    have h2 := length_putK kvs q.1 q.2
    have e : mergeT kvs (q :: r) = mergeT (putK kvs q.1 q.2) r := rfl
    rw [e, List.length_cons]
    omega
section
variable {X : Cx}
/-- d.update(e), both with tuple keys -/
def rUpdT : V → List V → Hp → VK → Prop := fun x xs H Q => ∃ (a b : Addr) (kvs more : List (List Key × V)), x = .ref a ∧ xs = [.ref b] ∧ a ≠ b ∧ H a = some (.dT kvs) ∧ H b = some (.dT more) ∧ (kvs ≠ [] ∨ Apart (more.map (·.1))) ∧ kvs.length + more.length ≤ sizeLine ∧
  Q .non (upd H a (.dT (mergeT kvs more)))
theorem mt_updT (hu : X.A.units + 1 < cLine) : MtR X "dict.update" rUpdT := by
  intro pins s σ H x xs v us Q I rx rxs h
  obtain ⟨a, b, kvs, more, rfl, rfl, hab, ha, hb, hap, hl, q⟩ := h
  cases rx
  cases rxs with
  | cons r rr =>
    cases rr
    cases r
    obtain ⟨z1, hd1, xs1, rel1, dd1⟩ := dt_of I.hok ha
    obtain ⟨z2, hd2, xs2, rel2, dd2⟩ := dt_of I.hok hb
    have l1 := Paired.length rel1
    have l2 := Paired.length rel2
    refine call_update_dictH (knd := tupleKind (mixKind X.prog X.w)) (tupleKind_room_in1 hu) hab hd2 dd1 dd2 ?_ (by omega) fun h' dd' _ hs => ?_
    · rcases hap with e | e
      · refine .inl fun z => e ?_
        rw [z] at l1
        exact List.length_eq_zero_iff.mp l1
      · refine .inr ⟨fun y hy => ?_, ?_⟩
        · obtain ⟨_, _, _, _, _, _, _, his, _⟩ := dd2
          obtain ⟨o, its, n, h1, h2, _⟩ := his y hy
          exact ⟨o, h1, h2⟩
        · have e1 := e X.prog X.w
          rw [rel2.keys, List.map_map] at e1
          exact e1
    · have hlen := mergeT_length more kvs
      obtain ⟨o, es, ep, hq, h2, h3, h4, _, h5⟩ := dd'
      have tups : ∀ c ys, H c = some (.tup ys) → upd H a (.dT (mergeT kvs more)) c = some (.tup ys) := fun c ys ec => by
        rw [upd_ne (ne_of ec ha (fun z => nomatch z))]
        exact ec
      have ok : ObjOk X.prog X.w (upd H a (.dT (mergeT kvs more))) h' a (.dT (mergeT kvs more)) := ⟨by omega, hd1, _, (KT.merge rel2 rel1).keeps tups, o, es, ep, hq, h2, h3, h4, h5⟩
      exact ⟨.non, _, d_write (t' := s.toks) I (by rw [ha]; exact True.intro) hs ⟨o, hq⟩ ok, rfl, q⟩
/-- dict(d), tuple keys -/
def rDictT : List V → Hp → VK → Prop := fun xs H Q => ∃ (a : Addr) (kvs : List (List Key × V)), xs = [.ref a] ∧ H a = some (.dT kvs) ∧ Apart (kvs.map (·.1)) ∧ ∀ p, H p = none → Q (.ref p) (upd H p (.dT kvs))
theorem call_dictT (hu : X.A.units + 20 < cLine) : CallR X (.type "dict") rDictT := by
  intro pins s σ H xs us Q I rxs h
  obtain ⟨a, kvs, rfl, ha, hap, q⟩ := h
  cases rxs with
  | cons r rr =>
    cases rr
    cases r
    obtain ⟨z1, hd1, xs1, rel1, dd1⟩ := dt_of I.hok ha
    have l1 := Paired.length rel1
    have his := dd1
    refine lor_dict_copy (knd := tupleKind (mixKind X.prog X.w)) (fun B hB => by show B.units < cLine; omega) hd1 dd1 (by omega) (fun y hy => ?_) ?_ (fun h' kp y hy => ?_) fun h' dd' kp => ?_
    · obtain ⟨_, _, _, _, _, _, _, his, _⟩ := his
      obtain ⟨o, its, n, h1, h2, _⟩ := his y hy
      exact ⟨o, h1, h2⟩
    · have e1 := hap X.prog X.w
      rw [rel1.keys, List.map_map] at e1
      exact e1
    · obtain ⟨_, _, _, _, _, _, _, his, _⟩ := his
      obtain ⟨o, its, n, h1, r⟩ := his y hy
      exact ⟨o, its, n, kp _ _ h1, r⟩
    · have hf : H s.heap.objs.size = none := I.hok.fresh (Nat.le_refl _)
      obtain ⟨o, es, ep, hq, h2, h3, h4, _, h5⟩ := dd'
      have tups : ∀ c ys, H c = some (.tup ys) → upd H s.heap.objs.size (.dT kvs) c = some (.tup ys) := fun c ys ec => by
        rw [upd_ne (ne_of_none ec hf)]
        exact ec
      have ok : ObjOk X.prog X.w (upd H s.heap.objs.size (.dT kvs)) h' s.heap.objs.size (.dT kvs) := ⟨z1, beq_eq_false_iff_ne.mpr (Ne.symm (Nat.ne_of_lt I.big)), xs1, rel1.keeps tups, o, es, ep, hq, h2, h3, h4, h5⟩
      exact ⟨.ref s.heap.objs.size, _, I.laid (t' := s.toks) kp (Nat.le_refl _) ok, rfl, q _ hf⟩
/-- min(xs, default=d) -/
def rMinD (K : PySem.W.Frag) : List V → List V → Hp → VK → Prop := fun vs zs H Q => ∃ (a : Addr) (ns : List Int) (d : Int), vs = [V.ref a] ∧ zs = [.int d] ∧ SqL K H a (ns.map V.int) ∧ ∀ m, (ns = [] → m = d) → (ns ≠ [] → m ∈ ns ∧ ∀ y ∈ ns, m ≤ y) → Q (.int m) H
theorem cr_minD (hc : X.calm = true) : CallRK X (.builtin "min") [Str.ofString "default"] (rMinD X.K) := by
  intro pins s σ H vs zs us ws Q I r rz h
  obtain ⟨a, ns, d, rfl, rfl, hs, q⟩ := h
  obtain rfl := Vals.ref1 r
  cases rz with
  | cons rd rr =>
    cases rr
    obtain ⟨td, rfl⟩ := rd
    obtain ⟨its, rv, hl, _⟩ := I.list hs
    have hi := rv.ints
    obtain ⟨xs, e⟩ := hi.allInts.items
    have hn : numsOf (intItems xs).toList = ns := by rw [← e]; exact hi.numsOf
    rw [nums_intItems] at hn
    subst hn
    have hl' := hl.isList
    rw [e] at hl'
    show wpAny _ _ (call (.builtin "min") [.ref a] [(Str.ofString "default", .int d td)]) _ _ _
    refine lor_min_dflt (I.ok.hd hc) hl' fun v h' tk h1 h2 kp => ?_
    have I1 : Inv X pins σ H { s with heap := h', toks := tk } := I.kept (t' := tk) kp
    by_cases hx : 0 < xs.size
    · obtain ⟨t, rfl⟩ := intItems_at (h1 hx)
      obtain ⟨k1, k2⟩ := argBest_lt (numAt xs) (xs.size - 1)
      refine ⟨.int _, H, I1, ⟨t, rfl⟩, q _ (fun z => ?_) fun _ => ⟨?_, fun y hy => ?_⟩⟩
      · have := congrArg List.length z
        rw [List.length_map, Array.length_toList, List.length_nil] at this
        omega
      · rw [numAt_eq]; exact PySem.getD_mem (by rw [List.length_map, Array.length_toList]; omega)
      · obtain ⟨j, hj, rfl⟩ := mem_getD hy
        have hj2 : j < xs.size := by simpa using hj
        have hj3 : j ≤ xs.size - 1 := by omega
        rw [← numAt_eq]
        exact k2 j hj3
    · have hx0 : xs.size = 0 := by omega
      rw [h2 hx0]
      have en : xs.toList.map (·.1) = [] := by
        have : xs.toList = [] := by rw [← List.length_eq_zero_iff, Array.length_toList]; exact hx0
        rw [this]; rfl
      exact ⟨.int d, H, I1, ⟨td, rfl⟩, q d (fun _ => rfl) fun z => absurd en z⟩
end
end L2
end

section
set_option linter.all false
/-! plain laws of the mirror -/
namespace Lor
section
variable {α : Type}
theorem aget_arep_same : ∀ {l : List (Nm × α)} {k : Nm} {a : α}, ahas l k = true → aget (arep l k a) k = some a
  | [], k, a, h => by unfold ahas aget at h; cases h
  | q :: r, k, a, h => by
    unfold arep aget
    by_cases c : q.1 = k
    · rw [if_pos c, if_pos c]
    · rw [if_neg c, if_neg c]
      refine aget_arep_same ?_
      unfold ahas aget at h
      rw [if_neg c] at h
      exact h
theorem aget_arep_ne : ∀ {l : List (Nm × α)} {k k' : Nm} {a : α}, k' ≠ k → aget (arep l k a) k' = aget l k'
  | [], k, k', a, h => rfl
  | q :: r, k, k', a, h => by
    unfold arep aget
    by_cases c : q.1 = k
    · rw [if_pos c, c, if_neg h.symm, if_neg h.symm]; exact aget_arep_ne h
    · rw [if_neg c]
      by_cases d : q.1 = k'
      · rw [if_pos d, if_pos d]
      · rw [if_neg d, if_neg d]; exact aget_arep_ne h
theorem aget_cons {q : Nm × α} {r : List (Nm × α)} {k : Nm} : aget (q :: r) k = if q.1 = k then some q.2 else aget r k := rfl
theorem aget_append : ∀ {l m : List (Nm × α)} {k : Nm}, aget (l ++ m) k = match aget l k with | some a => some a | none => aget m k
  | [], m, k => rfl
  | q :: r, m, k => by
    show aget (q :: (r ++ m)) k = _
    rw [aget_cons, aget_cons]
    by_cases c : q.1 = k
    · rw [if_pos c, if_pos c]
    · rw [if_neg c, if_neg c]; exact aget_append
theorem aget_aput_same {l : List (Nm × α)} {k : Nm} {a : α} : aget (aput l k a) k = some a := by
  unfold aput
  by_cases c : ahas l k = true
  · rw [if_pos c]; exact aget_arep_same c
  · rw [if_neg c, aget_append]
    have e : aget l k = none := by
      unfold ahas at c
      cases h : aget l k with
      | none => rfl
      | some x => rw [h] at c; exact absurd rfl c
    rw [e]
    show aget [(k, a)] k = some a
    unfold aget
    rw [if_pos rfl]
theorem aget_aput_ne {l : List (Nm × α)} {k k' : Nm} {a : α} (h : k' ≠ k) : aget (aput l k a) k' = aget l k' := by
  unfold aput
  by_cases c : ahas l k = true
  · rw [if_pos c]; exact aget_arep_ne h
  · rw [if_neg c, aget_append]
    cases e : aget l k' with
    | some x => rfl
    | none =>
      show aget [(k, a)] k' = none
      unfold aget
      rw [if_neg h.symm]; rfl
theorem aget_aput {l : List (Nm × α)} {k k' : Nm} {a : α} : aget (aput l k a) k' = if k' = k then some a else aget l k' := by
  by_cases c : k' = k
  · rw [if_pos c, c]; exact aget_aput_same
  · rw [if_neg c]; exact aget_aput_ne c
theorem ahas_aput {l : List (Nm × α)} {k k' : Nm} {a : α} : ahas (aput l k a) k' = (decide (k' = k) || ahas l k') := by
  unfold ahas
  rw [aget_aput]
  by_cases c : k' = k
  · rw [if_pos c]; simp [c]
  · rw [if_neg c]; simp [c]
theorem mem_arep : ∀ {l : List (Nm × α)} {k : Nm} {a : α} {p : Nm × α}, p ∈ arep l k a → p = (k, a) ∨ p ∈ l
  | [], _, _, _, h => by cases h
  | q :: r, k, a, p, h => by
    unfold arep at h
    rcases List.mem_cons.mp h with h | h
    · by_cases c : q.1 = k
      · rw [if_pos c] at h; rw [h, c]; exact .inl rfl
      · rw [if_neg c] at h; rw [h]; exact .inr List.mem_cons_self
    · rcases mem_arep h with h | h
      · exact .inl h
      · exact .inr (List.mem_cons_of_mem _ h)
theorem mem_aput {l : List (Nm × α)} {k : Nm} {a : α} {p : Nm × α} (h : p ∈ aput l k a) : p = (k, a) ∨ p ∈ l := by
  unfold aput at h
  split at h
  · exact mem_arep h
  · rcases List.mem_append.mp h with h | h
    · exact .inr h
    · exact .inl (List.mem_singleton.mp h)
theorem aget_mem : ∀ {l : List (Nm × α)} {k : Nm} {a : α}, aget l k = some a → (k, a) ∈ l
  | [], _, _, h => by cases h
  | q :: r, k, a, h => by
    unfold aget at h
    by_cases c : q.1 = k
    · rw [if_pos c] at h
      cases h
      rw [← c]; exact List.mem_cons_self
    · rw [if_neg c] at h; exact List.mem_cons_of_mem _ (aget_mem h)
theorem arep_len' (l : List (Nm × α)) (k : Nm) (a : α) : (arep l k a).length = l.length := by
  induction l with
  | nil => rfl
  | cons q r ih => exact congrArg Nat.succ ih
theorem aput_len' (l : List (Nm × α)) (k : Nm) (a : α) : (aput l k a).length ≤ l.length + 1 := by
  unfold aput
  split
  · rw [arep_len']; exact Nat.le_succ _
  · rw [List.length_append]; exact Nat.le_refl _
end
theorem mem_kadd {ks : List Nm} {q x : Nm} : x ∈ kadd ks q ↔ x ∈ ks ∨ x = q := by
  unfold kadd
  by_cases c : q ∈ ks
  · rw [if_pos c]
    exact ⟨.inl, fun h => h.elim id fun e => e ▸ c⟩
  · rw [if_neg c, List.mem_append, List.mem_singleton]
theorem nodup_kadd {ks : List Nm} {q : Nm} (h : ks.Nodup) : (kadd ks q).Nodup := by
  unfold kadd
  by_cases c : q ∈ ks
  · rw [if_pos c]; exact h
  · rw [if_neg c]
    refine List.nodup_append.mpr ⟨h, by simp, fun x hx y hy => ?_⟩
    rw [List.mem_singleton] at hy
    subst hy
    exact fun z => c (z ▸ hx)
theorem mem_kupd {more : List Nm} : ∀ {ks : List Nm} {x : Nm}, x ∈ kupd ks more ↔ x ∈ ks ∨ x ∈ more := by
  induction more with
  | nil => intro ks x; unfold kupd; simp
  | cons a r ih =>
    intro ks x
    show x ∈ kupd (kadd ks a) r ↔ _
    rw [ih, mem_kadd, List.mem_cons, or_assoc]
theorem nodup_kupd {more : List Nm} : ∀ {ks : List Nm}, ks.Nodup → (kupd ks more).Nodup := by
  induction more with
  | nil => exact fun h => h
  | cons a r ih => exact fun h => ih (nodup_kadd h)
/-- sets of steps of the town's hands -/
structure Box (many : Nat) (S : List Nm) : Prop where
  nd : S.Nodup
  low : ∀ q ∈ S, q.1 < many ∧ 1 ≤ q.2 ∧ q.2 ≤ 33
theorem Box.nil {many : Nat} : Box many [] := ⟨.nil, by simp⟩
theorem Box.add {many : Nat} {S : List Nm} {q : Nm} (h : Box many S) (hq : q.1 < many ∧ 1 ≤ q.2 ∧ q.2 ≤ 33) : Box many (kadd S q) :=
  ⟨nodup_kadd h.nd, fun x hx => (mem_kadd.mp hx).elim (h.low x) fun e => e ▸ hq⟩
theorem Box.upd {many : Nat} {S M : List Nm} (h : Box many S) (m : Box many M) : Box many (kupd S M) :=
  ⟨nodup_kupd h.nd, fun x hx => (mem_kupd.mp hx).elim (h.low x) (m.low x)⟩
theorem mem_getD {α : Type} {l : List α} {i : Nat} {d : α} (h : i < l.length) : l.getD i d ∈ l := by
  rw [List.getD_eq_getElem?_getD, List.getElem?_eq_getElem h]
  exact List.getElem_mem h
theorem getD_set {α : Type} {l : List α} {i j : Nat} {a d : α} (h : i < l.length) : (l.set i a).getD j d = if j = i then a else l.getD j d := by
  rw [List.getD_eq_getElem?_getD, List.getD_eq_getElem?_getD, List.getElem?_set]
  by_cases c : i = j
  · subst c
    rw [if_pos rfl, if_pos h, if_pos rfl]; rfl
  · rw [if_neg c, if_neg fun z => c z.symm]
theorem getD_of {α : Type} {l : List α} {i : Nat} {d : α} (h : ¬ i < l.length) : l.getD i d = d := by
  rw [List.getD_eq_getElem?_getD, List.getElem?_eq_none (Nat.le_of_not_lt h)]; rfl
/-- what holds of what is known, behind a history that may be walked -/
structure BInv (many : Nat) (rows : List Row) (g : Gs) (b : Bs) : Prop where
  kl : b.kn.length = many + 1
  sl : b.se.length = many + 1
  se : b.se = g.se
  kn : ∀ S ∈ b.kn, Box many S
  bo : ∀ p ∈ b.bo, Box many p.2
  has : ∀ k, ahas b.bo k = ahas g.ls k
  so : ∀ k, ahas b.so k = ahas g.ls k
  bol : b.bo.length ≤ rows.length
  sol : b.so.length ≤ rows.length
  tal : b.ta.length ≤ rows.length
theorem bown_len {many : Nat} {kn : List (List Nm)} {h s : Nat} : (bown many kn h s).length = kn.length := by
  unfold bown
  split
  · exact List.length_set
  · rfl
theorem bown_box {many : Nat} {kn : List (List Nm)} {h s : Nat} (hl : kn.length = many + 1) (hb : ∀ S ∈ kn, Box many S) (hs : s ≤ 33) : ∀ S ∈ bown many kn h s, Box many S := by
  unfold bown
  split
  next c =>
    intro S hS
    rcases List.mem_or_eq_of_mem_set hS with h1 | h1
    · exact hb S h1
    · rw [h1]
      exact (hb _ (mem_getD (by omega))).add ⟨c.1, c.2, hs⟩
  · exact hb
theorem bearing_snoc (many : Nat) (rows : List Row) (r : Row) : bearing many (rows ++ [r]) = bstep many (bearing many rows) r := by
  unfold bearing
  rw [List.foldl_append]
  rfl
theorem going_snoc' (m : Nat) (rows : List Row) (r : Row) : going m (rows ++ [r]) = gstep (going m rows) r.1 := by
  unfold going
  rw [List.foldl_append]
  rfl
theorem bstep_inv {many : Nat} {rows : List Row} {g : Gs} {b : Bs} {r : Row} (h : BInv many rows g b) (ok : RowOk many g r) : BInv many (rows ++ [r]) (gstep g r.1) (bstep many b r) := by
  obtain ⟨d, s⟩ := r
  have hk := bown_box (h := d.hand) h.kl h.kn ok.step
  have hl : (bown many b.kn d.hand s).length = many + 1 := bown_len.trans h.kl
  have hh : d.hand < (bown many b.kn d.hand s).length := by rw [hl]; exact Nat.lt_succ_of_le ok.hand
  have ln : (rows ++ [(d, s)]).length = rows.length + 1 := by rw [List.length_append]; rfl
  cases d with
  | own h' x => exact ⟨hl, h.sl, h.se, hk, h.bo, h.has, h.so, by rw [ln]; exact Nat.le_succ_of_le h.bol, by rw [ln]; exact Nat.le_succ_of_le h.sol, by rw [ln]; exact Nat.le_succ_of_le h.tal⟩
  | keep h' => exact ⟨hl, h.sl, h.se, hk, h.bo, h.has, h.so, by rw [ln]; exact Nat.le_succ_of_le h.bol, by rw [ln]; exact Nat.le_succ_of_le h.sol, by rw [ln]; exact Nat.le_succ_of_le h.tal⟩
  | send h' to =>
    refine ⟨hl, ?_, ?_, hk, ?_, ?_, ?_, ?_, ?_, ?_⟩
    · exact List.length_set.trans h.sl
    · show b.se.set h' (b.se.getD h' 0 + 1) = g.se.set h' (g.se.getD h' 0 + 1)
      rw [h.se]
    · intro p hp
      rcases mem_aput hp with e | e
      · rw [e]; exact hk _ (mem_getD hh)
      · exact h.bo p e
    · intro k
      show ahas (aput b.bo (h', b.se.getD h' 0) _) k = ahas (aput g.ls (h', g.se.getD h' 0) _) k
      rw [ahas_aput, ahas_aput, h.has, h.se]
    · intro k
      show ahas (aput b.so (h', b.se.getD h' 0) _) k = ahas (aput g.ls (h', g.se.getD h' 0) _) k
      rw [ahas_aput, ahas_aput, h.so, h.se]
    · rw [ln]; exact Nat.le_trans (aput_len' _ _ _) (Nat.succ_le_succ h.bol)
    · rw [ln]; exact Nat.le_trans (aput_len' _ _ _) (Nat.succ_le_succ h.sol)
    · rw [ln]; exact Nat.le_succ_of_le h.tal
  | take h' f k =>
    obtain ⟨l, e⟩ := (ok.take h' f k rfl).2.2
    have gs : gstep g (.take h' f k) = { g with ls := aput g.ls (f, k) ⟨l.to, l.wo, true⟩, wo := g.wo.set h' ((3 * g.wo.getD h' 0 + l.wo + 1) % 1000) } := by
      show (match aget g.ls (f, k) with | some l => _ | none => g : Gs) = _
      rw [e]
    have hb : ahas b.bo (f, k) = true := by rw [h.has]; unfold ahas; rw [e]; rfl
    obtain ⟨S, hS⟩ := Option.isSome_iff_exists.mp hb
    show BInv many _ (gstep g (.take h' f k)) _
    rw [gs]
    refine ⟨?_, h.sl, h.se, ?_, h.bo, ?_, ?_, by rw [ln]; exact Nat.le_succ_of_le h.bol, by rw [ln]; exact Nat.le_succ_of_le h.sol, ?_⟩
    · exact List.length_set.trans hl
    · intro S' hS'
      rcases List.mem_or_eq_of_mem_set hS' with e1 | e1
      · exact hk _ e1
      · rw [e1]
        refine (hk _ (mem_getD hh)).upd ?_
        show Box many ((aget b.bo (f, k)).getD [])
        rw [hS]
        exact h.bo _ (aget_mem hS)
    · intro k'
      show ahas b.bo k' = ahas (aput g.ls (f, k) _) k'
      rw [ahas_aput, h.has]
      by_cases c : k' = (f, k)
      · have : ahas g.ls k' = true := by rw [c]; unfold ahas; rw [e]; rfl
        rw [this]; simp
      · simp [c]
    · intro k'
      show ahas b.so k' = ahas (aput g.ls (f, k) _) k'
      rw [ahas_aput, h.so]
      by_cases c : k' = (f, k)
      · have : ahas g.ls k' = true := by rw [c]; unfold ahas; rw [e]; rfl
        rw [this]; simp
      · simp [c]
    · rw [ln]; exact Nat.le_trans (aput_len' _ _ _) (Nat.succ_le_succ h.tal)
theorem take_snoc' {α : Type} {l : List α} {i : Nat} {a : α} (h : l[i]? = some a) : l.take (i + 1) = l.take i ++ [a] := by
  rw [List.take_add_one, h]
  rfl
theorem binv_take {many : Nat} {rows : List Row} (v : Valid many rows) : ∀ i, i ≤ rows.length → BInv many (rows.take i) (going (many + 1) (rows.take i)) (bearing many (rows.take i)) := by
  intro i
  induction i with
  | zero =>
    intro _
    refine ⟨List.length_replicate, List.length_replicate, rfl, fun S hS => ?_, by simp [bearing, bstart], fun _ => rfl, fun _ => rfl, Nat.le_refl _, Nat.le_refl _, Nat.le_refl _⟩
    rw [(List.mem_replicate.mp hS).2]; exact .nil
  | succ i ih =>
    intro hi
    have e : rows[i]? = some rows[i] := List.getElem?_eq_getElem hi
    rw [take_snoc' e, going_snoc', bearing_snoc]
    exact bstep_inv (ih (Nat.le_of_lt hi)) (v i _ e)
theorem binv {many : Nat} {rows : List Row} (v : Valid many rows) : BInv many rows (going (many + 1) rows) (bearing many rows) := by
  have := binv_take v rows.length (Nat.le_refl _)
  rwa [List.take_length] at this
end Lor
namespace Lor
theorem ahas_mem {α : Type} : ∀ {l : List (Nm × α)} {k : Nm} {a : α}, (k, a) ∈ l → ahas l k = true
  | [], _, _, h => by cases h
  | q :: r, k, a, h => by
    unfold ahas
    rw [aget_cons]
    by_cases c : q.1 = k
    · rw [if_pos c]; rfl
    · rw [if_neg c]
      rcases List.mem_cons.mp h with e | e
      · exact absurd (by rw [← e]) c
      · exact ahas_mem e
end Lor
namespace Lor
theorem ahas_aput_mono {α : Type} {l : List (Nm × α)} {k k' : Nm} {a : α} (h : ahas l k' = true) : ahas (aput l k a) k' = true := by
  rw [ahas_aput, h]; simp
theorem ta_take {many : Nat} {rows : List Row} (v : Valid many rows) : ∀ i, i ≤ rows.length → ∀ p ∈ (bearing many (rows.take i)).ta, ahas (bearing many (rows.take i)).so p.1 = true ∧ (p.2.1 < many → 1 ≤ p.2.2) := by
  intro i
  induction i with
  | zero => intro _ p hp; cases hp
  | succ i ih =>
    intro hi
    have e : rows[i]? = some rows[i] := List.getElem?_eq_getElem hi
    have bi := binv_take v i (Nat.le_of_lt hi)
    have ih := ih (Nat.le_of_lt hi)
    have ok := v i _ e
    rw [take_snoc' e, bearing_snoc]
    generalize rows[i] = r at *
    generalize bearing many (rows.take i) = b at *
    obtain ⟨d, s⟩ := r
    cases d with
    | own h x => exact ih
    | keep h => exact ih
    | send h to => exact fun p hp => ⟨ahas_aput_mono (ih p hp).1, (ih p hp).2⟩
    | take h f k =>
      intro p hp
      rcases mem_aput hp with e1 | e1
      · obtain ⟨_, a, l, hl⟩ := ok.take h f k rfl
        rw [e1]
        refine ⟨?_, a⟩
        show ahas b.so (f, k) = true
        rw [bi.so]; unfold ahas; rw [hl]; rfl
      · exact ih p e1
theorem ta_inv {many : Nat} {rows : List Row} (v : Valid many rows) : ∀ p ∈ (bearing many rows).ta, ahas (bearing many rows).so p.1 = true ∧ (p.2.1 < many → 1 ≤ p.2.2) := by
  have := ta_take v rows.length (Nat.le_refl _)
  rwa [List.take_length] at this
end Lor
end

section
set_option linter.all false
/-! the walk of the law's own town, plain -/
namespace Lor
structure LIt where
  to : Nat
  wo : Nat
  by_ : Nm
  tk : Option Nm
  kn : List Nm
structure Ws where
  wo : List Nat
  se : List Nat
  kn : List (List Nm)
  it : List (Nm × LIt)
def wstart (m : Nat) : Ws := ⟨List.replicate m 0, List.replicate m 0, List.replicate m [], []⟩
def wstep (many : Nat) (w : Ws) (r : Row) : Ws :=
  match r.1 with
  | .own h x => { w with wo := w.wo.set h x, kn := bown many w.kn h r.2 }
  | .send h to => { wo := w.wo, se := w.se.set h (w.se.getD h 0 + 1), kn := bown many w.kn h r.2, it := w.it ++ [((h, w.se.getD h 0), ⟨to, w.wo.getD h 0, (h, r.2), none, (bown many w.kn h r.2).getD h []⟩)] }
  | .take h f k => match aget w.it (f, k) with
    | some i => { w with it := arep w.it (f, k) { i with tk := some (h, r.2) }, wo := w.wo.set h ((3 * w.wo.getD h 0 + i.wo + 1) % 1000), kn := (bown many w.kn h r.2).set h (kupd ((bown many w.kn h r.2).getD h []) i.kn) }
    | none => { w with kn := bown many w.kn h r.2 }
  | .keep h => { w with kn := bown many w.kn h r.2 }
def lwalk (many : Nat) (rows : List Row) : Ws := rows.foldl (wstep many) (wstart (many + 1))
theorem lwalk_snoc (many : Nat) (rows : List Row) (r : Row) : lwalk many (rows ++ [r]) = wstep many (lwalk many rows) r := by
  unfold lwalk
  rw [List.foldl_append]; rfl
structure WInv (many : Nat) (rows : List Row) (w : Ws) (g : Gs) (b : Bs) : Prop where
  wo : w.wo = g.wo
  se : w.se = g.se
  kn : w.kn = b.kn
  keys : ∀ p ∈ w.it, p.1.2 < w.se.getD p.1.1 0
  nd : (w.it.map (·.1)).Nodup
  none_ : ∀ q, aget w.it q = none → aget g.ls q = none ∧ aget b.bo q = none
  some_ : ∀ q i, aget w.it q = some i → aget g.ls q = some ⟨i.to, i.wo, i.tk.isSome⟩ ∧ aget b.bo q = some i.kn
  len : w.it.length ≤ rows.length
theorem arep_keys {α : Type} : ∀ (l : List (Nm × α)) (k : Nm) (a : α), (arep l k a).map (·.1) = l.map (·.1)
  | [], _, _ => rfl
  | q :: r, k, a => by
    unfold arep
    rw [List.map_cons, List.map_cons, arep_keys r k a]
    congr 1
    split <;> rfl
theorem aget_none_of {α : Type} : ∀ {l : List (Nm × α)} {k : Nm}, (∀ p ∈ l, p.1 ≠ k) → aget l k = none
  | [], _, _ => rfl
  | q :: r, k, h => by
    rw [aget_cons, if_neg (h q List.mem_cons_self)]
    exact aget_none_of fun p hp => h p (List.mem_cons_of_mem _ hp)
theorem wstep_inv {many : Nat} {rows : List Row} {w : Ws} {g : Gs} {b : Bs} {r : Row} (W : WInv many rows w g b) (B : BInv many rows g b) (gl : g.wo.length = many + 1) (ok : RowOk many g r) : WInv many (rows ++ [r]) (wstep many w r) (gstep g r.1) (bstep many b r) := by
  obtain ⟨d, s⟩ := r
  have ln : (rows ++ [(d, s)]).length = rows.length + 1 := by rw [List.length_append]; rfl
  have sl : w.se.length = many + 1 := by rw [W.se, ← B.se]; exact B.sl
  cases d with
  | own h x => exact ⟨by show w.wo.set h x = g.wo.set h x; rw [W.wo], W.se, by show bown many w.kn h s = bown many b.kn h s; rw [W.kn], W.keys, W.nd, W.none_, W.some_, by rw [ln]; exact Nat.le_succ_of_le W.len⟩
  | keep h => exact ⟨W.wo, W.se, by show bown many w.kn h s = bown many b.kn h s; rw [W.kn], W.keys, W.nd, W.none_, W.some_, by rw [ln]; exact Nat.le_succ_of_le W.len⟩
  | send h to =>
    have hh : h < w.se.length := by rw [sl]; exact Nat.lt_succ_of_le ok.hand
    have fresh : ∀ p ∈ w.it, p.1 ≠ (h, w.se.getD h 0) := fun p hp e => by
      have := W.keys p hp
      rw [e] at this
      exact Nat.lt_irrefl _ this
    refine ⟨W.wo, by show w.se.set h _ = g.se.set h _; rw [W.se], by show bown many w.kn h s = bown many b.kn h s; rw [W.kn], ?_, ?_, ?_, ?_, ?_⟩
    · intro p hp
      show p.1.2 < (w.se.set h (w.se.getD h 0 + 1)).getD p.1.1 0
      rw [getD_set hh]
      rcases List.mem_append.mp hp with e | e
      · have := W.keys p e
        split
        next c => rw [c] at this; omega
        next => exact this
      · rw [List.mem_singleton] at e
        rw [e, if_pos rfl]
        exact Nat.lt_succ_self _
    · show (List.map (·.1) (w.it ++ [((h, w.se.getD h 0), _)])).Nodup
      rw [List.map_append]
      refine List.nodup_append.mpr ⟨W.nd, by simp, fun x hx y hy => ?_⟩
      obtain ⟨p, hp, e⟩ := List.mem_map.mp hx
      have ey : y = (h, w.se.getD h 0) := by simpa using hy
      rw [ey, ← e]
      exact fresh p hp
    · intro q hq
      replace hq : aget (w.it ++ [((h, w.se.getD h 0), (⟨to, w.wo.getD h 0, (h, s), none, (bown many w.kn h s).getD h []⟩ : LIt))]) q = none := hq
      rw [aget_append] at hq
      cases e : aget w.it q with
      | some i => rw [e] at hq; cases hq
      | none =>
        rw [e] at hq
        obtain ⟨h1, h2⟩ := W.none_ q e
        have ne : q ≠ (h, w.se.getD h 0) := fun z => by
          rw [z] at hq
          simp [aget] at hq
        refine ⟨?_, ?_⟩
        · show aget (aput g.ls (h, g.se.getD h 0) _) q = none
          rw [aget_aput_ne (by rw [← W.se]; exact ne)]; exact h1
        · show aget (aput b.bo (h, b.se.getD h 0) _) q = none
          rw [aget_aput_ne (by rw [B.se, ← W.se]; exact ne)]; exact h2
    · intro q i hq
      replace hq : aget (w.it ++ [((h, w.se.getD h 0), (⟨to, w.wo.getD h 0, (h, s), none, (bown many w.kn h s).getD h []⟩ : LIt))]) q = some i := hq
      rw [aget_append] at hq
      cases e : aget w.it q with
      | some j =>
        rw [e] at hq
        have ej : j = i := Option.some.inj hq
        rw [ej] at e
        obtain ⟨h1, h2⟩ := W.some_ q i e
        have ne : q ≠ (h, w.se.getD h 0) := fun z => fresh _ (aget_mem e) z
        refine ⟨?_, ?_⟩
        · show aget (aput g.ls (h, g.se.getD h 0) _) q = _
          rw [aget_aput_ne (by rw [← W.se]; exact ne)]; exact h1
        · show aget (aput b.bo (h, b.se.getD h 0) _) q = _
          rw [aget_aput_ne (by rw [B.se, ← W.se]; exact ne)]; exact h2
      | none =>
        rw [e] at hq
        have eq : q = (h, w.se.getD h 0) ∧ i = ⟨to, w.wo.getD h 0, (h, s), none, (bown many w.kn h s).getD h []⟩ := by
          replace hq : (if (h, w.se.getD h 0) = q then some (⟨to, w.wo.getD h 0, (h, s), none, (bown many w.kn h s).getD h []⟩ : LIt) else none) = some i := hq
          by_cases c : (h, w.se.getD h 0) = q
          · rw [if_pos c] at hq
            exact ⟨c.symm, (Option.some.inj hq).symm⟩
          · rw [if_neg c] at hq; cases hq
        rw [eq.1, eq.2]
        refine ⟨?_, ?_⟩
        · show aget (aput g.ls (h, g.se.getD h 0) _) _ = _
          rw [W.se, aget_aput_same, W.wo]; rfl
        · show aget (aput b.bo (h, b.se.getD h 0) _) _ = _
          rw [W.se, ← B.se, aget_aput_same, W.kn]
    · show (w.it ++ [_]).length ≤ _
      rw [List.length_append, ln]; exact Nat.succ_le_succ W.len
  | take h f k =>
    obtain ⟨l, hl⟩ := (ok.take h f k rfl).2.2
    cases e : aget w.it (f, k) with
    | none => have := (W.none_ _ e).1; rw [hl] at this; cases this
    | some i =>
      obtain ⟨h1, h2⟩ := W.some_ _ i e
      have ews : wstep many w (.take h f k, s) = { w with it := arep w.it (f, k) { i with tk := some (h, s) }, wo := w.wo.set h ((3 * w.wo.getD h 0 + i.wo + 1) % 1000), kn := (bown many w.kn h s).set h (kupd ((bown many w.kn h s).getD h []) i.kn) } := by
        show (match aget w.it (f, k) with | some i => _ | none => _ : Ws) = _
        rw [e]
      have egs : gstep g (.take h f k) = { g with ls := aput g.ls (f, k) ⟨i.to, i.wo, true⟩, wo := g.wo.set h ((3 * g.wo.getD h 0 + i.wo + 1) % 1000) } := by
        show (match aget g.ls (f, k) with | some l => _ | none => g : Gs) = _
        rw [h1]
      rw [ews]
      show WInv many _ _ (gstep g (.take h f k)) _
      rw [egs]
      have hb : ahas w.it (f, k) = true := by unfold ahas; rw [e]; rfl
      refine ⟨?_, W.se, ?_, ?_, ?_, ?_, ?_, ?_⟩
      · show w.wo.set h _ = g.wo.set h _
        rw [W.wo]
      · show (bown many w.kn h s).set h _ = (bown many b.kn h s).set h (kupd ((bown many b.kn h s).getD h []) ((aget b.bo (f, k)).getD []))
        rw [W.kn, h2]; rfl
      · intro p hp
        rcases mem_arep hp with z | z
        · rw [z]
          exact W.keys ((f, k), i) (aget_mem e)
        · exact W.keys p z
      · show ((arep w.it (f, k) _).map (·.1)).Nodup
        rw [arep_keys]; exact W.nd
      · intro q hq
        replace hq : aget (arep w.it (f, k) _) q = none := hq
        by_cases c : q = (f, k)
        · rw [c, aget_arep_same hb] at hq; cases hq
        · rw [aget_arep_ne c] at hq
          obtain ⟨a1, a2⟩ := W.none_ q hq
          refine ⟨?_, a2⟩
          show aget (aput g.ls (f, k) _) q = none
          rw [aget_aput_ne c]; exact a1
      · intro q j hq
        replace hq : aget (arep w.it (f, k) { i with tk := some (h, s) }) q = some j := hq
        by_cases c : q = (f, k)
        · rw [c, aget_arep_same hb] at hq
          cases hq
          rw [c]
          refine ⟨?_, h2⟩
          show aget (aput g.ls (f, k) _) _ = _
          rw [aget_aput_same]; rfl
        · rw [aget_arep_ne c] at hq
          obtain ⟨a1, a2⟩ := W.some_ q j hq
          refine ⟨?_, a2⟩
          show aget (aput g.ls (f, k) _) q = _
          rw [aget_aput_ne c]; exact a1
      · show (arep w.it (f, k) _).length ≤ _
        rw [arep_len', ln]; exact Nat.le_succ_of_le W.len
theorem gwo_len (g : Gs) (d : Deed) : (gstep g d).wo.length = g.wo.length := by
  cases d with
  | own h x => exact List.length_set
  | send h to => rfl
  | take h f k =>
    show (match aget g.ls (f, k) with | some l => _ | none => g : Gs).wo.length = _
    cases aget g.ls (f, k) with
    | none => rfl
    | some l => exact List.length_set
  | keep h => rfl
theorem winv_take {many : Nat} {rows : List Row} (v : Valid many rows) : ∀ i, i ≤ rows.length → WInv many (rows.take i) (lwalk many (rows.take i)) (going (many + 1) (rows.take i)) (bearing many (rows.take i)) ∧ (going (many + 1) (rows.take i)).wo.length = many + 1 := by
  intro i
  induction i with
  | zero => exact fun _ => ⟨⟨rfl, rfl, rfl, (fun p hp => by cases hp), List.Pairwise.nil, fun q _ => ⟨rfl, rfl⟩, (fun q i h => by cases h), Nat.le_refl _⟩, List.length_replicate⟩
  | succ i ih =>
    intro hi
    have e : rows[i]? = some rows[i] := List.getElem?_eq_getElem hi
    obtain ⟨W, gl⟩ := ih (Nat.le_of_lt hi)
    rw [take_snoc' e, lwalk_snoc, going_snoc', bearing_snoc]
    exact ⟨wstep_inv W (binv_take v i (Nat.le_of_lt hi)) gl (v i _ e), (gwo_len _ _).trans gl⟩
theorem winv {many : Nat} {rows : List Row} (v : Valid many rows) : WInv many rows (lwalk many rows) (going (many + 1) rows) (bearing many rows) := by
  have := (winv_take v rows.length (Nat.le_refl _)).1
  rwa [List.take_length] at this
end Lor
end

section
set_option Elab.async false
set_option linter.all false
set_option maxRecDepth 100000
set_option maxHeartbeats 4000000
/-! how the program's data lie in the heap; calls by promises -/
namespace Lor
open PySem PySem.Spec PyProof.Rows L2
def top (i : Nat) : Stmt := PySem.Challenge.pw_linesofreturn_k90_whole_along_loses_no_m.main.body.getD i (.Pass ⟨0, 0, 0, 0⟩)

/-! ### defs and methods, as they stand and by what they promise -/
def DefAt (K : PySem.W.Frag) (mg : Str → Option Value) (x : Str) (st : Stmt) : Prop := ∃ f fd, mg x = some (.ref f) ∧ Fun K x x st f fd
def MethAt (K : PySem.W.Frag) (C : Addr) (m qual : Str) (st : Stmt) : Prop := ∃ f fd, Meth K C m f ∧ Fun K m qual st f fd
section
variable {P : Program} {w : World} {K : PySem.W.Frag} {mg : Str → Option Value} {base : Heap}
structure LCal (P : Program) (w : World) (K : PySem.W.Frag) (mg : Str → Option Value) (base : Heap) (k : Nat) (x : Str) (sp : Sp) : Prop where
  ex : ∃ (f : Addr) (fd : FuncData) (ps : List Str), mg x = some (.ref f) ∧ PySem.W.keepIn K (.ref f) = true ∧ FnOk P w K mg base CX0 k f fd ps sp ∧ Binds K fd ps []
structure LMet (P : Program) (w : World) (K : PySem.W.Frag) (mg : Str → Option Value) (base : Heap) (k : Nat) (C : Addr) (m : Str) (sp : Sp) : Prop where
  ex : ∃ (f : Addr) (fd : FuncData) (ps : List Str), Cls K C ∧ Meth K C m f ∧ FnOk P w K mg base CX0 k f fd ps sp ∧ Binds K fd ps []
structure LMak (P : Program) (w : World) (K : PySem.W.Frag) (mg : Str → Option Value) (base : Heap) (k : Nat) (x : Str) (C : Addr) (sp : Sp) : Prop where
  ex : ∃ (f : Addr) (fd : FuncData) (ps : List Str), Mk K C f ∧ mg x = some (.ref C) ∧ FnOk P w K mg base CX0 k f fd ps sp ∧ Binds K fd ps []
theorem cal_of {x : Str} {st : Stmt} {N ps : List Str} {k : Nat} {sp : Sp} (D : DefAt K mg x st) (S : FnScope N ps (defScope st))
    (hb : ∀ (kV doc pm : Value) (an : Option Addr) (cdv ct : Value) (us : List Value), us.length = ps.length → bindArgs (PySem.W.fnOf x x (defArgs st) (defBody st) (defScope st) .none kV doc pm an cdv ct) ⟨us, []⟩ = pure (ps.zip us))
    (len : ∀ vs H Q E, sp vs H Q E → vs.length = ps.length)
    (hbody : ∀ (f : Addr) (cdv : Value) (A : Around) (outer : List Env) (s : Shared) (H : Hp) (vs : List V) (Q : VK) (E : XK), Room k (A.deeper (envOfC x (defScope st) s.heap.objs.size f cdv)) → sp vs H Q E →
      ∃ t, PSs (cxOf CX0 P w K mg base N x (defScope st) f cdv A outer s H E).nox (defBody st) t ∧ t { nx := fun _ H' => Q .non H', rt := Q } (start N vs) H) : LCal P w K mg base (k + 1) x sp := by
  obtain ⟨f, fd, hm, F⟩ := D
  exact ⟨f, fd, ps, hm, F.kp, F.ok S len (hbody f), F.binds hb⟩
theorem met_of {C : Addr} {m qual : Str} {st : Stmt} {N ps : List Str} {k : Nat} {sp : Sp} (c : Cls K C) (D : MethAt K C m qual st) (S : FnScope N ps (defScope st))
    (hb : ∀ (kV doc pm : Value) (an : Option Addr) (cdv ct : Value) (us : List Value), us.length = ps.length → bindArgs (PySem.W.fnOf m qual (defArgs st) (defBody st) (defScope st) .none kV doc pm an cdv ct) ⟨us, []⟩ = pure (ps.zip us))
    (len : ∀ vs H Q E, sp vs H Q E → vs.length = ps.length)
    (hbody : ∀ (f : Addr) (cdv : Value) (A : Around) (outer : List Env) (s : Shared) (H : Hp) (vs : List V) (Q : VK) (E : XK), Room k (A.deeper (envOfC qual (defScope st) s.heap.objs.size f cdv)) → sp vs H Q E →
      ∃ t, PSs (cxOf CX0 P w K mg base N qual (defScope st) f cdv A outer s H E).nox (defBody st) t ∧ t { nx := fun _ H' => Q .non H', rt := Q } (start N vs) H) : LMet P w K mg base (k + 1) C m sp := by
  obtain ⟨f, fd, hm, F⟩ := D
  exact ⟨f, fd, ps, c, hm, F.ok S len (hbody f), F.binds hb⟩
/-- a class made by its name: where its __init__ stands -/
def MkAt (K : PySem.W.Frag) (mg : Str → Option Value) (x : Str) (C : Addr) (qual : Str) (st : Stmt) : Prop := ∃ f fd, mg x = some (.ref C) ∧ Mk K C f ∧ Fun K "__init__" qual st f fd
theorem mak_of {x : Str} {C : Addr} {qual : Str} {st : Stmt} {N ps : List Str} {k : Nat} {sp : Sp} (D : MkAt K mg x C qual st) (S : FnScope N ps (defScope st))
    (hb : ∀ (kV doc pm : Value) (an : Option Addr) (cdv ct : Value) (us : List Value), us.length = ps.length → bindArgs (PySem.W.fnOf "__init__" qual (defArgs st) (defBody st) (defScope st) .none kV doc pm an cdv ct) ⟨us, []⟩ = pure (ps.zip us))
    (len : ∀ vs H Q E, sp vs H Q E → vs.length = ps.length)
    (hbody : ∀ (f : Addr) (cdv : Value) (A : Around) (outer : List Env) (s : Shared) (H : Hp) (vs : List V) (Q : VK) (E : XK), Room k (A.deeper (envOfC qual (defScope st) s.heap.objs.size f cdv)) → sp vs H Q E →
      ∃ t, PSs (cxOf CX0 P w K mg base N qual (defScope st) f cdv A outer s H E).nox (defBody st) t ∧ t { nx := fun _ H' => Q .non H', rt := Q } (start N vs) H) : LMak P w K mg base (k + 1) x C sp := by
  obtain ⟨f, fd, hm, M, F⟩ := D
  exact ⟨f, fd, ps, M, hm, F.ok S len (hbody f), F.binds hb⟩
end
section
variable {X : Cx} {k j : Nat} {C : Addr} {x m : Str} {sp : Sp} {p pos apos : Pos} {e o : Expr} {es : List Expr} {ta : TE} {t : TA}
theorem pe_f (c : LCal X.prog X.w X.K X.mg X.base k x sp) (hr : Room j X.A) (hk : k ≤ j) (ha : PA X (e :: es) t) (hg : Gl X x := by rfl)
    (hdb : (x == ("__debug__" : Str)) = false := by decide) (he : starEach (e :: es) X.env = (false, eval e X.env) :: starEach es X.env := by rfl) (hpl : (backTo pos (starEach es X.env)).any (·.1) = false := by rfl) :
    PE X (.Call (.Name x p) (e :: es) [] pos) (tCall sp [] E0 t) := by
  obtain ⟨f, fd, ps, hm, kp, F, b⟩ := c.ex
  exact pe_call F (hr.mono hk) hg hm kp b .nil pass0 ha hdb he hpl
theorem pe_n (c : LMak X.prog X.w X.K X.mg X.base k x C sp) (hr : Room j X.A) (hk : k + 1 ≤ j) (ha : PA X (e :: es) t) (hg : Gl X x := by rfl)
    (hdb : (x == ("__debug__" : Str)) = false := by decide) (he : starEach (e :: es) X.env = (false, eval e X.env) :: starEach es X.env := by rfl) (hpl : (backTo pos (starEach es X.env)).any (·.1) = false := by rfl) :
    PE X (.Call (.Name x p) (e :: es) [] pos) (tMake C sp [] E0 t) := by
  obtain ⟨f, fd, ps, M, hm, F, b⟩ := c.ex
  exact pe_make M F (hr.mono hk) hg hm b .nil pass0 ha hdb he hpl
theorem pe_m {pl : Sem Bool} (c : LMet X.prog X.w X.K X.mg X.base k C m sp) (hr : Room j X.A) (hk : k ≤ j) (he : PE X o ta) (ha : PA X (e :: es) t)
    (hst : starEach (e :: es) X.env = (false, eval e X.env) :: starEach es X.env := by rfl) (hpl : (backTo pos (starEach es X.env)).any (·.1) = false := by rfl)
    (ht : eval (.Call (.Attribute o m apos) (e :: es) [] pos) X.env = (do
      let ov ← eval o X.env
      standAt apos.atName
      let (f, first) ← holding [ov] (getMethod ov m pl)
      callWith pos f first (backTo pos (starEach (e :: es) X.env)) (backToKw pos (keywordEach [] X.env))) := by rfl) :
    PE X (.Call (.Attribute o m apos) (e :: es) [] pos) (tMeth C m sp [] E0 ta t) := by
  obtain ⟨f, fd, ps, hc, hm, F, b⟩ := c.ex
  exact pe_meth (pl := pl) he hc hm F (hr.mono hk) b .nil pass0 ha hst hpl ht
theorem pe_m0' {pl : Sem Bool} (c : LMet X.prog X.w X.K X.mg X.base k C m sp) (hr : Room j X.A) (hk : k ≤ j) (he : PE X o ta)
    (ht : eval (.Call (.Attribute o m apos) [] [] pos) X.env = (do
      let ov ← eval o X.env
      standAt apos.atName
      let (f, first) ← holding [ov] (getMethod ov m pl)
      callWith pos f first (backTo pos (starEach [] X.env)) (backToKw pos (keywordEach [] X.env))) := by rfl) :
    PE X (.Call (.Attribute o m apos) [] [] pos) (tMeth C m sp [] E0 ta tNil) := by
  obtain ⟨f, fd, ps, hc, hm, F, b⟩ := c.ex
  exact pe_meth0 (pl := pl) he hc hm F (hr.mono hk) b .nil pass0 ht
end

/-! ### plain values -/
abbrev iN (n : Nat) : V := .int (n : Int)
def enc : Deed → List V
  | .own h x => [.str "own", iN h, iN x]
  | .send h to => [.str "send", iN h, iN to]
  | .take h f k => [.str "take", iN h, iN f, iN k]
  | .keep h => [.str "keep", iN h]
/-- tuples stay -/
def TK (H H' : Hp) : Prop := ∀ b xs, H b = some (.tup xs) → H' b = some (.tup xs)
theorem TK.refl (H : Hp) : TK H H := fun _ _ h => h
theorem TK.trans {H H1 H2 : Hp} (a : TK H H1) (b : TK H1 H2) : TK H H2 := fun c o h => b c o (a c o h)
theorem TK.of_same {H H' : Hp} (s : Same H H') : TK H H' := fun b xs e => s b _ e
theorem TK.upd {H : Hp} {a : Addr} {o : HO} (h : ∀ xs, H a ≠ some (.tup xs)) : TK H (L2.upd H a o) := fun b xs e => by
  have n : b ≠ a := fun z => by subst z; exact h xs e
  rw [upd_ne n]
  exact e
theorem TK.new {H : Hp} {a : Addr} {o : HO} (h : H a = none) : TK H (L2.upd H a o) := TK.upd fun xs e => by rw [h] at e; cases e
theorem Same.new {H : Hp} {a : Addr} {o : HO} (h : H a = none) : Same H (upd H a o) := fun b u e => by rw [upd_ne (ne_of_none e h)]; exact e
def DeedAt (H : Hp) (d : Deed) (v : V) : Prop := ∃ a, v = .ref a ∧ H a = some (.tup (enc d))
def RowAt (H : Hp) (r : Row) (v : V) : Prop := ∃ a b, v = .ref a ∧ H a = some (.tup [.ref b, iN r.2]) ∧ H b = some (.tup (enc r.1))
theorem DeedAt.mono {H H' : Hp} {d : Deed} {v : V} (k : TK H H') (h : DeedAt H d v) : DeedAt H' d v := let ⟨a, e, q⟩ := h; ⟨a, e, k _ _ q⟩
theorem RowAt.mono {H H' : Hp} {r : Row} {v : V} (k : TK H H') (h : RowAt H r v) : RowAt H' r v := let ⟨a, b, e, q, q2⟩ := h; ⟨a, b, e, k _ _ q, k _ _ q2⟩
abbrev All2 {α β : Type} (R : α → β → Prop) : List α → List β → Prop := Paired R
theorem All2.imp {α β : Type} {R S : α → β → Prop} : ∀ {xs : List α} {ys : List β}, All2 R xs ys → (∀ a b, R a b → S a b) → All2 S xs ys
  | _, _, .nil, _ => .nil
  | _, _, .cons h t, f => .cons (f _ _ h) (All2.imp t f)
theorem All2.len {α β : Type} {R : α → β → Prop} : ∀ {xs : List α} {ys : List β}, All2 R xs ys → xs.length = ys.length
  | _, _, .nil => rfl
  | _, _, .cons _ t => congrArg Nat.succ (All2.len t)
theorem All2.snoc {α β : Type} {R : α → β → Prop} {a : α} {b : β} (h : R a b) : ∀ {xs : List α} {ys : List β}, All2 R xs ys → All2 R (xs ++ [a]) (ys ++ [b])
  | _, _, .nil => .cons h .nil
  | _, _, .cons q t => .cons q (All2.snoc h t)
theorem All2.app {α β : Type} {R : α → β → Prop} : ∀ {xs xs' : List α} {ys ys' : List β}, All2 R xs ys → All2 R xs' ys' → All2 R (xs ++ xs') (ys ++ ys')
  | _, _, _, _, .nil, h => h
  | _, _, _, _, .cons q t, h => .cons q (All2.app t h)
theorem All2.getR {α β : Type} {R : α → β → Prop} : ∀ {xs : List α} {ys : List β} {i : Nat} {b : β}, All2 R xs ys → ys[i]? = some b → ∃ a, xs[i]? = some a ∧ R a b
  | _, _, _, _, .nil, e => by simp at e
  | _, _, 0, _, .cons h _, e => by simp at e; subst e; exact ⟨_, rfl, h⟩
  | _, _, i + 1, _, .cons _ t, e => by
    obtain ⟨a, h1, h2⟩ := All2.getR (i := i) t (by simpa using e)
    exact ⟨a, by simpa using h1, h2⟩
theorem All2.getL {α β : Type} {R : α → β → Prop} : ∀ {xs : List α} {ys : List β} {i : Nat} {a : α}, All2 R xs ys → xs[i]? = some a → ∃ b, ys[i]? = some b ∧ R a b
  | _, _, _, _, .nil, e => by simp at e
  | _, _, 0, _, .cons h _, e => by simp at e; subst e; exact ⟨_, rfl, h⟩
  | _, _, i + 1, _, .cons _ t, e => by
    obtain ⟨a, h1, h2⟩ := All2.getL (i := i) t (by simpa using e)
    exact ⟨a, by simpa using h1, h2⟩
theorem All2.take {α β : Type} {R : α → β → Prop} : ∀ {xs : List α} {ys : List β} (n : Nat), All2 R xs ys → All2 R (xs.take n) (ys.take n)
  | _, _, 0, _ => by simpa using .nil
  | _, _, _ + 1, .nil => .nil
  | _, _, n + 1, .cons h t => .cons h (All2.take n t)
theorem All2.map {α β γ : Type} {R : α → β → Prop} (f : α → β) (l : List α) (h : ∀ a ∈ l, R a (f a)) : All2 R l (l.map f) := by
  induction l with
  | nil => exact .nil
  | cons a r ih => exact .cons (h a List.mem_cons_self) (ih fun b hb => h b (List.mem_cons_of_mem _ hb))
/-- a list of numbers stands at l -/
def NatsL (H : Hp) (l : Addr) (ns : List Nat) : Prop := H l = some (.lst (ns.map iN))
/-- a list of rows -/
def RowsL (H : Hp) (l : Addr) (rows : List Row) : Prop := ∃ vs, H l = some (.lst vs) ∧ All2 (RowAt H) rows vs
theorem nats_get {ns : List Nat} {i n : Nat} (h : ns[i]? = some n) : (ns.map iN)[i]? = some (iN n) := by rw [List.getElem?_map, h]; rfl
theorem getD_get {ns : List Nat} {i : Nat} (h : i < ns.length) : ns[i]? = some (ns.getD i 0) := by
  rw [List.getD_eq_getElem?_getD, List.getElem?_eq_getElem h]; rfl

/-! ### dicts by pairs of numbers -/
def KvR {α : Type} (R : α → V → Prop) : Nm × α → List Key × V → Prop := fun p q => q.1 = nk p.1 ∧ R p.2 q.2
def DictR {α : Type} (H : Hp) (d : Addr) (R : α → V → Prop) (al : List (Nm × α)) : Prop := ∃ kvs, H d = some (.dT kvs) ∧ All2 (KvR R) al kvs
section
variable {α : Type} {R : α → V → Prop}
theorem kv_none : ∀ {al : List (Nm × α)} {kvs : List (List Key × V)} {k : Nm}, All2 (KvR R) al kvs → aget al k = none → valV kvs (nk k) = none
  | _, _, _, .nil, _ => rfl
  | _, _, k, .cons (a := p) (b := q) h t, e => by
    unfold aget at e
    by_cases c : p.1 = k
    · rw [if_pos c] at e; cases e
    · rw [if_neg c] at e
      rw [valV_neg (fun z => c (nk_inj (h.1.symm.trans z)))]
      exact kv_none t e
theorem kv_some : ∀ {al : List (Nm × α)} {kvs : List (List Key × V)} {k : Nm} {a : α}, All2 (KvR R) al kvs → aget al k = some a → ∃ v, valV kvs (nk k) = some v ∧ R a v
  | _, _, _, _, .nil, e => by unfold aget at e; cases e
  | _, _, k, _, .cons (a := p) (b := q) h t, e => by
    unfold aget at e
    by_cases c : p.1 = k
    · rw [if_pos c] at e
      cases e
      exact ⟨q.2, valV_pos (by rw [h.1, c]), h.2⟩
    · rw [if_neg c] at e
      rw [valV_neg (fun z => c (nk_inj (h.1.symm.trans z)))]
      exact kv_some t e
theorem kv_has {al : List (Nm × α)} {kvs : List (List Key × V)} {k : Nm} (h : All2 (KvR R) al kvs) : (valV kvs (nk k)).isSome = ahas al k := by
  unfold ahas
  cases e : aget al k with
  | none => rw [kv_none h e]; rfl
  | some a =>
    obtain ⟨v, e1, _⟩ := kv_some h e
    rw [e1]; rfl
theorem kv_rep : ∀ {al : List (Nm × α)} {kvs : List (List Key × V)} {k : Nm} {a : α} {v : V}, All2 (KvR R) al kvs → R a v → All2 (KvR R) (arep al k a) (kvs.map fun kv => if kv.1 = nk k then (kv.1, v) else kv)
  | _, _, _, _, _, .nil, _ => .nil
  | _, _, k, a, v, .cons (a := p) (b := q) h t, r => by
    refine .cons ?_ (kv_rep t r)
    show KvR R (if p.1 = k then (p.1, a) else p) (if q.1 = nk k then (q.1, v) else q)
    by_cases c : p.1 = k
    · have c' : q.1 = nk k := by rw [h.1, c]
      rw [if_pos c, if_pos c']; exact ⟨h.1, r⟩
    · have c' : ¬ q.1 = nk k := fun z => c (nk_inj (h.1.symm.trans z))
      rw [if_neg c, if_neg c']; exact h
theorem kv_put {al : List (Nm × α)} {kvs : List (List Key × V)} {k : Nm} {a : α} {v : V} (h : All2 (KvR R) al kvs) (r : R a v) : All2 (KvR R) (aput al k a) (putK kvs (nk k) v) := by
  unfold aput putK
  have e : (kvs.any fun kv => decide (kv.1 = nk k)) = ahas al k := by rw [valV_any, kv_has h]
  rw [e]
  by_cases c : ahas al k = true
  · rw [if_pos c, if_pos c]; exact kv_rep h r
  · rw [if_neg c, if_neg c]; exact All2.snoc ⟨rfl, r⟩ h
theorem kv_imp {S : α → V → Prop} {al : List (Nm × α)} {kvs : List (List Key × V)} (h : All2 (KvR R) al kvs) (f : ∀ a v, R a v → S a v) : All2 (KvR S) al kvs := All2.imp h fun _ _ z => ⟨z.1, f _ _ z.2⟩
end
theorem nk_kV (q : Nm) : (nk q).map kV = [iN q.1, iN q.2] := rfl
/-- a set of pairs: a dict of such keys, each True -/
def setD (ks : List Nm) : List (List Key × V) := ks.map fun k => (nk k, V.bl true)
theorem setD_val (ks : List Nm) (q : Nm) : (valV (setD ks) (nk q)).isSome = decide (q ∈ ks) := by
  unfold setD
  induction ks with
  | nil => rfl
  | cons a r ih =>
    rw [List.map_cons]
    by_cases c : a = q
    · rw [valV_pos (by rw [c]), decide_eq_true (by rw [c]; exact List.mem_cons_self)]; rfl
    · rw [valV_neg (fun z => c (nk_inj z)), ih]
      congr 1
      simp [Ne.symm c]
theorem setD_add (ks : List Nm) (q : Nm) : putK (setD ks) (nk q) (.bl true) = setD (kadd ks q) := by
  unfold putK kadd
  rw [valV_any, setD_val]
  by_cases c : q ∈ ks
  · rw [if_pos (decide_eq_true c), if_pos c]
    unfold setD
    rw [List.map_map]
    refine List.map_congr_left fun a _ => ?_
    show (if nk a = nk q then (nk a, V.bl true) else (nk a, V.bl true)) = (nk a, V.bl true)
    split <;> rfl
  · rw [if_neg (by simpa using c), if_neg c]
    unfold setD
    rw [List.map_append]
    rfl
theorem setD_upd : ∀ (more ks : List Nm), mergeT (setD ks) (setD more) = setD (kupd ks more)
  | [], _ => rfl
  | a :: r, ks => by
    show mergeT (putK (setD ks) (nk a) (V.bl true)) (setD r) = setD (kupd (kadd ks a) r)
    rw [setD_add]
    exact setD_upd r (kadd ks a)
theorem setD_keys (ks : List Nm) : (setD ks).map (·.1) = ks.map nk := by unfold setD; rw [List.map_map]; rfl
theorem setD_len (ks : List Nm) : (setD ks).length = ks.length := by unfold setD; rw [List.length_map]

/-! ### frames -/
/-- all but those of S is as it was -/
def Fr (S : List Addr) (H H' : Hp) : Prop := ∀ b o, H b = some o → b ∉ S → H' b = some o
theorem Fr.refl (S : List Addr) (H : Hp) : Fr S H H := fun _ _ h _ => h
theorem Fr.trans {S : List Addr} {H H1 H2 : Hp} (a : Fr S H H1) (b : Fr S H1 H2) : Fr S H H2 := fun c o h hc => b c o (a c o h hc) hc
theorem Fr.of_same {S : List Addr} {H H' : Hp} (s : Same H H') : Fr S H H' := fun b o e _ => s b o e
theorem Fr.upd {S : List Addr} {H : Hp} {a : Addr} {o : HO} (h : a ∈ S) : Fr S H (L2.upd H a o) := fun b u e hb => by
  rw [upd_ne (fun z => hb (by rw [z]; exact h))]; exact e
theorem Fr.new {S : List Addr} {H : Hp} {a : Addr} {o : HO} (h : H a = none) : Fr S H (L2.upd H a o) := Fr.of_same (Same.new h)
theorem Fr.mono {S S' : List Addr} {H H' : Hp} (f : Fr S H H') (h : ∀ a ∈ S, a ∈ S') : Fr S' H H' := fun b o e hb => f b o e fun z => hb (h b z)
theorem Fr.tk {S : List Addr} {H H' : Hp} (f : Fr S H H') (h : ∀ a ∈ S, ∀ xs, H a ≠ some (.tup xs)) : TK H H' := fun b xs e => f b _ e fun z => h b z xs e
/-- a decided comparison of texts -/
theorem str_no {x y : Str} {A B : Prop} (h : ¬ x = y) (b : B) : if decide (V.str x = V.str y) = true then A else B := by
  rw [if_neg (by simpa using h)]; exact b
theorem str_yes {x : Str} {A B : Prop} (a : A) : if decide (V.str x = V.str x) = true then A else B := by
  rw [if_pos (by simp)]; exact a
theorem nstr_yes {x y : Str} {A B : Prop} (h : ¬ x = y) (a : A) : if (!decide (V.str x = V.str y)) = true then A else B := by
  rw [if_pos (by simpa using h)]; exact a
theorem nstr_no {x : Str} {A B : Prop} (b : B) : if (!decide (V.str x = V.str x)) = true then A else B := by
  rw [if_neg (by simp)]; exact b
theorem ifT {c : Bool} {A B : Prop} (h : c = true) (a : A) : if c = true then A else B := by rw [if_pos h]; exact a
theorem ifF {c : Bool} {A B : Prop} (h : c = false) (b : B) : if c = true then A else B := by rw [h, if_neg Bool.false_ne_true]; exact b
end Lor
namespace Lor
open PySem PySem.Spec PyProof.Rows L2
/-! ### moves of the heap: nothing is lost, all but those of S stays as it was -/
structure Mv (S : List Addr) (H H' : Hp) : Prop where
  ex : ∀ b, H' b = none → H b = none
  fr : ∀ b, H b ≠ none → b ∉ S → H' b = H b
theorem Mv.refl (S : List Addr) (H : Hp) : Mv S H H := ⟨fun _ h => h, fun _ _ _ => rfl⟩
theorem Mv.trans {S : List Addr} {H H1 H2 : Hp} (a : Mv S H H1) (b : Mv S H1 H2) : Mv S H H2 :=
  ⟨fun c h => a.ex c (b.ex c h), fun c h n => (b.fr c (fun z => h (a.ex c z)) n).trans (a.fr c h n)⟩
theorem Mv.upd {S : List Addr} {H : Hp} {a : Addr} {o : HO} (h : a ∈ S) : Mv S H (L2.upd H a o) :=
  ⟨fun b z => by
    by_cases c : b = a
    · subst c; rw [upd_same] at z; cases z
    · rwa [upd_ne c] at z, fun b _ n => upd_ne fun z => n (z ▸ h)⟩
theorem Mv.new {S : List Addr} {H : Hp} {a : Addr} {o : HO} (h : H a = none) : Mv S H (L2.upd H a o) :=
  ⟨fun b z => by
    by_cases c : b = a
    · subst c; exact h
    · rwa [upd_ne c] at z, fun b hb _ => upd_ne fun z => hb (z ▸ h)⟩
theorem Mv.mono {S S' : List Addr} {H H' : Hp} (f : Mv S H H') (h : ∀ a ∈ S, a ∈ S') : Mv S' H H' := ⟨f.ex, fun b hb n => f.fr b hb fun z => n (h b z)⟩
/-- those of S that were not there need no mention -/
theorem Mv.weak {S S' : List Addr} {H H' : Hp} (f : Mv S H H') (h : ∀ a ∈ S, a ∈ S' ∨ H a = none) : Mv S' H H' :=
  ⟨f.ex, fun b hb n => f.fr b hb fun z => (h b z).elim n hb⟩
theorem Mv.at {S : List Addr} {H H' : Hp} {a : Addr} {o : HO} (f : Mv S H H') (h : H a = some o) (n : a ∉ S) : H' a = some o := by rw [f.fr a (by rw [h]; simp) n]; exact h
theorem Mv.same {H H' : Hp} (f : Mv [] H H') : Same H H' := fun _ _ e => f.at e (by simp)
theorem Mv.of_same {S : List Addr} {H H' : Hp} (f : Same H H') : Mv S H H' := by
  refine ⟨fun b z => ?_, fun b hb _ => ?_⟩
  · cases e : H b with
    | none => rfl
    | some o => rw [f b o e] at z; cases z
  · cases e : H b with
    | none => exact absurd e hb
    | some o => exact f b o e
theorem Mv.tk {S : List Addr} {H H' : Hp} (f : Mv S H H') (h : ∀ a ∈ S, ∀ xs, H a ≠ some (.tup xs)) : TK H H' := fun b xs e => f.at e fun z => h b z xs e
theorem Mv.ne {S : List Addr} {H H' : Hp} {a b : Addr} (f : Mv S H H') (h : H a ≠ none) (n : H' b = none) : a ≠ b := fun z => h (f.ex a (z ▸ n))
theorem Mv.none {S : List Addr} {H H' : Hp} {a : Addr} (f : Mv S H H') (n : H' a = Option.none) : H a = Option.none := f.ex a n
theorem Mv.some {S : List Addr} {H H' : Hp} {a : Addr} (f : Mv S H H') (n : H a ≠ Option.none) : H' a ≠ Option.none := fun z => n (f.ex a z)
theorem some_ne {α : Type} {x : Option α} {a : α} (h : x = some a) : x ≠ none := by rw [h]; simp
theorem ne_none {H : Hp} {a b : Addr} (h : H a ≠ Option.none) (n : H b = Option.none) : a ≠ b := fun z => h (z ▸ n)
end Lor
namespace Lor
open PySem PySem.Spec PyProof.Rows L2
/-! ### the same within a comprehension: K is named -/
section
variable {X : Cx} {K : PySem.W.Frag}
theorem pe_fldK {e : Expr} {f : Str} {pos : Pos} {ta : TE} (ha : PE X e ta) (hb : attributeBase e f X.env (eval e X.env) = eval e X.env) (hK : X.K = K := by rfl) : PE X (.Attribute e f pos) (tFld K ta f) := by
  subst hK; exact pe_fld ha hb
theorem ix_tupK (hK : X.K = K := by rfl) : IxR X (rIxT K) := by subst hK; exact ix_tup
theorem ix_listK (hK : X.K = K := by rfl) : IxR X (rIxL K) := by subst hK; exact ix_list
theorem op_in_seqK (hK : X.K = K := by rfl) : OpR X (compareOp .In) (rIn K false) := by subst hK; exact op_in_seq
theorem pg_tupK {es : List Expr} {k : Nat} {t : TGs} {n : Nat} {pos : Pos} (hc : X.calm = true) (h : PGs X es t) (hn : (assignEach es X.env).length = n := by rfl) (hst : (assignEach es X.env).findIdx? (·.1) = none := by rfl) (hK : X.K = K := by rfl) : PG X (.Tuple es k pos) (gTup K n t) := by
  subst hK; exact pg_tup hc h hn hst
end
end Lor
namespace Lor
open PySem PySem.Spec PyProof.Rows L2
theorem iN_inj {a b : Nat} (h : iN a = iN b) : a = b := by
  have := V.int.inj h
  omega
theorem dec_iN (a b : Nat) : decide (iN a = iN b) = decide (a = b) := by
  by_cases c : a = b
  · subst c; simp
  · rw [decide_eq_false c, decide_eq_false fun z => c (iN_inj z)]
theorem lt_of_get {α : Type} {l : List α} {i : Nat} {a : α} (h : l[i]? = some a) : i < l.length := (List.getElem?_eq_some_iff.mp h).1
/-- a list of one's own is put again -/
theorem Mv.own {H H' : Hp} {D : Addr} {o : HO} (m : Mv [] H H') (n : H D = Option.none) : Mv [] H (L2.upd H' D o) := ((m.mono (S' := [D]) (by simp)).trans (Mv.upd (by simp))).weak (by simp [n])
end Lor
namespace Lor
open PySem PySem.Spec PyProof.Rows L2
section
variable {X : Cx} {K : PySem.W.Frag}
theorem call_len_seqK (hK : X.K = K := by rfl) : CallR X (.builtin "len") (fun xs H Q => ∃ p ys, xs = [.ref p] ∧ (SqL K H p ys ∨ SqT K H p ys) ∧ Q (.int ys.length) H) := by subst hK; exact call_len_seq
theorem op_eqDK (hu : X.A.units + 64 < cLine) (hK : X.K = K := by rfl) : OpR X (compareOp .Eq) (rEqD K) := by subst hK; exact op_eqD hu
end
end Lor
end

section
set_option Elab.async false
set_option linter.all false
set_option maxRecDepth 100000
set_option maxHeartbeats 4000000
namespace Lor
open PySem PySem.Spec PyProof.Rows L2
/-- the built-in names that the module does not bind -/
structure Bl (mg : Str → Option Value) : Prop where
  isinstance : mg "isinstance" = none
  int : mg "int" = none
  bool : mg "bool" = none
  str : mg "str" = none
  tuple : mg "tuple" = none
  list : mg "list" = none
  dict : mg "dict" = none
  len : mg "len" = none
  range : mg "range" = none
  all : mg "all" = none
  enumerate : mg "enumerate" = none
  zip : mg "zip" = none
  min : mg "min" = none
  max : mg "max" = none
  abs : mg "abs" = none
  sorted : mg "sorted" = none
/-- a name of the module that holds a plain value -/
def Val (mg : Str → Option Value) (x : Str) (v : V) : Prop := ∃ u, mg x = some u ∧ RelV v u
theorem pe_k {X : Cx} {x : Str} {v : V} {pos : Pos} (h : Val X.mg x v) (hg : Gl X x := by rfl) (hd : (x == ("__debug__" : Str)) = false := by decide) : PE X (.Name x pos) (tC v) := let ⟨_, a, b⟩ := h; pe_glob hg a b hd
section
variable {P : Program} {w : World} {K : PySem.W.Frag} {mg : Str → Option Value} {base : Heap}
/-! ### is_whole, is_within, taken_worth -/
def spWhole : Sp := fun vs H Q _ => ∃ i : Int, vs = [.int i] ∧ Q (.bl true) H
theorem sc13 : FnScope ["thing"] ["thing"] (defScope (top 13)) := ⟨rfl, rfl, rfl, by decide +kernel, rfl, by decide +kernel, by decide +kernel⟩
theorem ok_whole (D : DefAt K mg "is_whole" (top 13)) (B : Bl mg) : LCal P w K mg base 1 "is_whole" spWhole := by
  refine cal_of D sc13 (fun _ _ _ _ _ _ us hl => match us, hl with | [_], _ => rfl) (fun vs H Q E h => ?_) (fun f cdv A outer s H vs Q E hr h => ?_)
  · obtain ⟨i, rfl, _⟩ := h
    rfl
  · obtain ⟨i, rfl, k⟩ := h
    refine ⟨_, pss_one (ps_ret (pe_and (pe_callB call_isi (by rfl) B.isinstance boot_isinstance (pa_cons (pv 0) (pa_cons (pe_bltn (v := .ty "int") (by rfl) B.int (by decide +kernel) rfl) pa_nil)))
      (pe_one (pe_not (pe_callB call_isi (by rfl) B.isinstance boot_isinstance (pa_cons (pv 0) (pa_cons (pe_bltn (v := .ty "bool") (by rfl) B.bool (by decide +kernel) rfl) pa_nil))))))), ?_⟩
    refine ⟨_, rfl, .int i, .ty "int", .type "int", .type "int", true, rfl, .ty _, .base (.int i), kit_ty (by decide +kernel), true, rfl, ?_⟩
    refine iteT ?_
    exact ⟨_, rfl, .int i, .ty "bool", .type "int", .type "bool", false, rfl, .ty _, .base (.int i), kit_ty (by decide +kernel), false, rfl, k⟩
def spWithin : Sp := fun vs H Q _ => ∃ i lo hi : Int, vs = [.int i, .int lo, .int hi] ∧ Q (.bl (decide (lo ≤ i ∧ i ≤ hi))) H
theorem sc14 : FnScope ["thing", "least", "most"] ["thing", "least", "most"] (defScope (top 14)) := ⟨rfl, rfl, rfl, by decide +kernel, rfl, by decide +kernel, by decide +kernel⟩
theorem ok_within (D : DefAt K mg "is_within" (top 14)) (G : LCal P w K mg base 1 "is_whole" spWhole) : LCal P w K mg base 2 "is_within" spWithin := by
  refine cal_of D sc14 (fun _ _ _ _ _ _ us hl => match us, hl with | [_, _, _], _ => rfl) (fun vs H Q E h => ?_) (fun f cdv A outer s H vs Q E hr h => ?_)
  · obtain ⟨i, lo, hi, rfl, _⟩ := h
    rfl
  · obtain ⟨i, lo, hi, rfl, k⟩ := h
    refine ⟨_, pss_one (ps_ret (pe_and (pe_f G hr (by decide) (pa_cons (pv 0) pa_nil)) (pe_one (pe_chain op_le op_le (pv 1) (pv 0) (pv 2))))), ?_⟩
    refine ⟨_, rfl, i, rfl, true, rfl, ?_⟩
    refine iteT ?_
    refine ⟨_, rfl, _, rfl, lo, i, rfl, rfl, _, rfl, ?_⟩
    refine ite2 (fun c => ?_) (fun c => ?_)
    · refine ⟨_, rfl, i, hi, rfl, rfl, ?_⟩
      have e : decide (lo ≤ i ∧ i ≤ hi) = decide (i ≤ hi) := by
        have c' : lo ≤ i := by simpa using c
        simp [c']
      show Q (.bl (decide (i ≤ hi))) H
      rw [← e]; exact k
    · have e : decide (lo ≤ i ∧ i ≤ hi) = false := by
        have c' : ¬ lo ≤ i := by simpa using c
        simp [c']
      show Q (.bl false) H
      rw [← e]; exact k
def spTaken : Sp := fun vs H Q _ => ∃ a b : Nat, vs = [iN a, iN b] ∧ Q (iN ((3 * a + b + 1) % 1000)) H
theorem sc15 : FnScope ["worth", "letter"] ["worth", "letter"] (defScope (top 15)) := ⟨rfl, rfl, rfl, by decide +kernel, rfl, by decide +kernel, by decide +kernel⟩
theorem ok_taken (D : DefAt K mg "taken_worth" (top 15)) (M : Val mg "MOST_WORTH" (.int 999)) : LCal P w K mg base 1 "taken_worth" spTaken := by
  refine cal_of D sc15 (fun _ _ _ _ _ _ us hl => match us, hl with | [_, _], _ => rfl) (fun vs H Q E h => ?_) (fun f cdv A outer s H vs Q E hr h => ?_)
  · obtain ⟨a, b, rfl, _⟩ := h
    rfl
  · obtain ⟨a, b, rfl, k⟩ := h
    refine ⟨_, pss_one (ps_ret (pe_op op_mod (pe_op op_add (pe_op op_add (pe_op op_mul pe_int (pv 0)) (pv 1)) pe_int) (pe_op op_add (pe_k M) pe_int))), ?_⟩
    refine ⟨_, rfl, _, _, rfl, rfl, .inl ⟨by decide, by decide⟩, _, rfl, _, _, rfl, rfl, _, _, rfl, rfl, ?_⟩
    refine ⟨_, _, rfl, rfl, _, _, rfl, rfl, (by show (0 : Int) < 999 + 1; decide), ?_⟩
    have e : ((3 * (a : Int) + (b : Int) + 1) % (999 + 1) : Int) = (((3 * a + b + 1) % 1000 : Nat) : Int) := by omega
    show Q (.int ((3 * (a : Int) + (b : Int) + 1) % (999 + 1))) H
    rw [e]; exact k
end
end Lor
end

section
set_option Elab.async false
set_option linter.all false
set_option maxRecDepth 100000
set_option maxHeartbeats 4000000
namespace Lor
open PySem PySem.Spec PyProof.Rows L2
/-! ### class Going -/
/-- where a Going lies -/
structure GA where
  p : Addr
  dx : Addr
  lw : Addr
  lm : Addr
  lr : Addr
  ls : Addr
  da : Addr
  as : List Addr
def GA.all (A : GA) : List Addr := A.p :: A.lw :: A.lm :: A.lr :: A.ls :: A.da :: A.as
def gF (A : GA) : List (Str × V) := [("worths", .ref A.lw), ("moods", .ref A.lm), ("rows", .ref A.lr), ("sent", .ref A.ls), ("all_letters", .ref A.da)]
def LetR (H : Hp) (l : Ltr) (v : V) : Prop := ∃ (a : Addr) (z y : Int), v = .ref a ∧ H a = some (.tup [iN l.to, iN l.wo, .int z, if l.tk = true then .int y else .non])
theorem LetR.mono {H H' : Hp} {l : Ltr} {v : V} (k : TK H H') (h : LetR H l v) : LetR H' l v := let ⟨a, z, y, e, q⟩ := h; ⟨a, z, y, e, k _ _ q⟩
structure GoingAt (C : Addr) (H : Hp) (g : Gs) (A : GA) (i : Nat) : Prop where
  nd : A.all.Nodup
  ob : H A.p = some (.ins C A.dx (gF A))
  wo : NatsL H A.lw g.wo
  mo : H A.lm = some (.lst (List.replicate g.wo.length (.str "up")))
  ro : H A.lr = some (.lst (A.as.map V.ref))
  se : NatsL H A.ls g.se
  ls : DictR H A.da (LetR H) g.ls
  ln : A.as.length = g.wo.length
  lse : g.se.length = g.wo.length
  rows : ∀ a ∈ A.as, ∃ xs, H a = some (.lst xs) ∧ xs.length ≤ i
/-- the facts of the class -/
structure GoC (K : PySem.W.Frag) (C : Addr) : Prop where
  cl : Cls K C
  nW : NoAttr K C "worths"
  nM : NoAttr K C "moods"
  nR : NoAttr K C "rows"
  nS : NoAttr K C "sent"
  nL : NoAttr K C "all_letters"
section
variable {C : Addr} {H H' : Hp} {g : Gs} {A : GA} {i : Nat}
theorem DictR.mono {α : Type} {H H' : Hp} {d : Addr} {R S : α → V → Prop} {al : List (Nm × α)} (h : DictR H d R al) (e : H' d = H d) (f : ∀ a v, R a v → S a v) : DictR H' d S al :=
  let ⟨kvs, a, b⟩ := h; ⟨kvs, by rw [e]; exact a, kv_imp b f⟩
theorem GoingAt.frame (h : GoingAt C H g A i) (k : TK H H') (s : ∀ a ∈ A.all, H' a = H a) : GoingAt C H' g A i where
  nd := h.nd
  ob := by rw [s _ (by simp [GA.all])]; exact h.ob
  wo := by unfold NatsL; rw [s _ (by simp [GA.all])]; exact h.wo
  mo := by rw [s _ (by simp [GA.all])]; exact h.mo
  ro := by rw [s _ (by simp [GA.all])]; exact h.ro
  se := by unfold NatsL; rw [s _ (by simp [GA.all])]; exact h.se
  ls := h.ls.mono (s _ (by simp [GA.all])) fun _ _ z => z.mono k
  ln := h.ln
  lse := h.lse
  rows := fun a ha => by
    obtain ⟨xs, e, l⟩ := h.rows a ha
    exact ⟨xs, by rw [s a (by simp [GA.all, ha])]; exact e, l⟩
theorem GoingAt.live (h : GoingAt C H g A i) : ∀ a ∈ A.all, ∃ o, H a = some o ∧ ∀ xs, o ≠ .tup xs := by
  intro a ha
  simp only [GA.all, List.mem_cons] at ha
  rcases ha with rfl | rfl | rfl | rfl | rfl | rfl | ha
  · exact ⟨_, h.ob, fun _ z => by cases z⟩
  · exact ⟨_, h.wo, fun _ z => by cases z⟩
  · exact ⟨_, h.mo, fun _ z => by cases z⟩
  · exact ⟨_, h.ro, fun _ z => by cases z⟩
  · exact ⟨_, h.se, fun _ z => by cases z⟩
  · obtain ⟨kvs, e, _⟩ := h.ls
    exact ⟨_, e, fun _ z => by cases z⟩
  · obtain ⟨xs, e, _⟩ := h.rows a ha
    exact ⟨_, e, fun _ z => by cases z⟩
theorem GoingAt.same (h : GoingAt C H g A i) (s : Same H H') : GoingAt C H' g A i := h.frame (TK.of_same s) fun a ha => by
  obtain ⟨o, e, _⟩ := h.live a ha
  rw [e]; exact s _ _ e
theorem GoingAt.tk (h : GoingAt C H g A i) (f : Fr A.all H H') : TK H H' := f.tk fun a ha xs z => by
  obtain ⟨o, e, n⟩ := h.live a ha
  rw [e] at z
  exact n xs (Option.some.inj z)
theorem GoingAt.tkU (h : GoingAt C H g A i) {a : Addr} {o : HO} (ha : a ∈ A.all) : TK H (upd H a o) := TK.upd fun xs z => by
  obtain ⟨o, e, n⟩ := h.live a ha
  rw [e] at z
  exact n xs (Option.some.inj z)
/-- the places are unlike -/
structure GNe (A : GA) : Prop where
  pw : A.p ≠ A.lw
  pm : A.p ≠ A.lm
  pr : A.p ≠ A.lr
  ps : A.p ≠ A.ls
  pd : A.p ≠ A.da
  wm : A.lw ≠ A.lm
  wr : A.lw ≠ A.lr
  ws : A.lw ≠ A.ls
  wd : A.lw ≠ A.da
  mr : A.lm ≠ A.lr
  ms : A.lm ≠ A.ls
  md : A.lm ≠ A.da
  rs : A.lr ≠ A.ls
  rd : A.lr ≠ A.da
  sd : A.ls ≠ A.da
  ap : A.p ∉ A.as
  aw : A.lw ∉ A.as
  am : A.lm ∉ A.as
  ar : A.lr ∉ A.as
  as_ : A.ls ∉ A.as
  ad : A.da ∉ A.as
  asn : A.as.Nodup
theorem GNe.of (h : A.all.Nodup) : GNe A := by
  unfold GA.all at h
  simp only [List.nodup_cons, List.mem_cons, not_or] at h
  obtain ⟨⟨a1, a2, a3, a4, a5, a6⟩, ⟨b1, b2, b3, b4, b5⟩, ⟨c1, c2, c3, c4⟩, ⟨d1, d2, d3⟩, ⟨e1, e2⟩, f1, n⟩ := h
  exact ⟨a1, a2, a3, a4, a5, b1, b2, b3, b4, c1, c2, c3, d1, d2, e1, a6, b5, c4, d3, e2, f1, n⟩
theorem mem_ne {a b : Addr} {l : List Addr} (ha : a ∈ l) (hb : b ∉ l) : a ≠ b := fun z => hb (z ▸ ha)
theorem GoingAt.setWo (h : GoingAt C H g A i) {ns : List Nat} (hl : ns.length = g.wo.length) : GoingAt C (upd H A.lw (.lst (ns.map iN))) { g with wo := ns } A i :=
  let n := GNe.of h.nd
  have k : TK H (upd H A.lw (.lst (ns.map iN))) := h.tkU (by simp [GA.all])
  { nd := h.nd
    ob := by rw [upd_ne n.pw]; exact h.ob
    wo := upd_same
    mo := by rw [upd_ne n.wm.symm]; rw [show ({ g with wo := ns } : Gs).wo.length = g.wo.length from hl]; exact h.mo
    ro := by rw [upd_ne n.wr.symm]; exact h.ro
    se := by unfold NatsL; rw [upd_ne n.ws.symm]; exact h.se
    ls := h.ls.mono (upd_ne n.wd.symm) fun _ _ z => z.mono k
    ln := h.ln.trans hl.symm
    lse := h.lse.trans hl.symm
    rows := fun a ha => by
      obtain ⟨xs, e, l⟩ := h.rows a ha
      exact ⟨xs, by rw [upd_ne (mem_ne ha n.aw)]; exact e, l⟩ }
theorem GoingAt.setSe (h : GoingAt C H g A i) {ns : List Nat} (hl : ns.length = g.se.length) : GoingAt C (upd H A.ls (.lst (ns.map iN))) { g with se := ns } A i :=
  let n := GNe.of h.nd
  have k : TK H (upd H A.ls (.lst (ns.map iN))) := h.tkU (by simp [GA.all])
  { nd := h.nd
    ob := by rw [upd_ne n.ps]; exact h.ob
    wo := by unfold NatsL; rw [upd_ne n.ws]; exact h.wo
    mo := by rw [upd_ne n.ms]; exact h.mo
    ro := by rw [upd_ne n.rs]; exact h.ro
    se := upd_same
    ls := h.ls.mono (upd_ne n.sd.symm) fun _ _ z => z.mono k
    ln := h.ln
    lse := hl.trans h.lse
    rows := fun a ha => by
      obtain ⟨xs, e, l⟩ := h.rows a ha
      exact ⟨xs, by rw [upd_ne (mem_ne ha n.as_)]; exact e, l⟩ }
theorem GoingAt.setMo (h : GoingAt C H g A i) {vs : List V} (hl : vs = List.replicate g.wo.length (.str "up")) : GoingAt C (upd H A.lm (.lst vs)) g A i :=
  let n := GNe.of h.nd
  have k : TK H (upd H A.lm (.lst vs)) := h.tkU (by simp [GA.all])
  { nd := h.nd
    ob := by rw [upd_ne n.pm]; exact h.ob
    wo := by unfold NatsL; rw [upd_ne n.wm]; exact h.wo
    mo := by rw [upd_same, hl]
    ro := by rw [upd_ne n.mr.symm]; exact h.ro
    se := by unfold NatsL; rw [upd_ne n.ms.symm]; exact h.se
    ls := h.ls.mono (upd_ne n.md.symm) fun _ _ z => z.mono k
    ln := h.ln
    lse := h.lse
    rows := fun a ha => by
      obtain ⟨xs, e, l⟩ := h.rows a ha
      exact ⟨xs, by rw [upd_ne (mem_ne ha n.am)]; exact e, l⟩ }
theorem GoingAt.setLs (h : GoingAt C H g A i) {kvs : List (List Key × V)} {q : Nm} {l : Ltr} {v : V} (e : H A.da = some (.dT kvs)) (a : All2 (KvR (LetR H)) g.ls kvs) (r : LetR H l v) :
    GoingAt C (upd H A.da (.dT (putK kvs (nk q) v))) { g with ls := aput g.ls q l } A i :=
  let n := GNe.of h.nd
  have k : TK H (upd H A.da (.dT (putK kvs (nk q) v))) := h.tkU (by simp [GA.all])
  { nd := h.nd
    ob := by rw [upd_ne n.pd]; exact h.ob
    wo := by unfold NatsL; rw [upd_ne n.wd]; exact h.wo
    mo := by rw [upd_ne n.md]; exact h.mo
    ro := by rw [upd_ne n.rd]; exact h.ro
    se := by unfold NatsL; rw [upd_ne n.sd]; exact h.se
    ls := ⟨_, upd_same, kv_imp (kv_put a r) fun _ _ z => z.mono k⟩
    ln := h.ln
    lse := h.lse
    rows := fun a ha => by
      obtain ⟨xs, e, l⟩ := h.rows a ha
      exact ⟨xs, by rw [upd_ne (mem_ne ha n.ad)]; exact e, l⟩ }
theorem GoingAt.addRow (h : GoingAt C H g A i) {a : Addr} {xs : List V} {v : V} (ha : a ∈ A.as) (e : H a = some (.lst xs)) (hx : xs.length ≤ i) : GoingAt C (upd H a (.lst (xs ++ [v]))) g A (i + 1) :=
  let n := GNe.of h.nd
  have k : TK H (upd H a (.lst (xs ++ [v]))) := h.tkU (by simp [GA.all, ha])
  { nd := h.nd
    ob := by rw [upd_ne (mem_ne ha n.ap).symm]; exact h.ob
    wo := by unfold NatsL; rw [upd_ne (mem_ne ha n.aw).symm]; exact h.wo
    mo := by rw [upd_ne (mem_ne ha n.am).symm]; exact h.mo
    ro := by rw [upd_ne (mem_ne ha n.ar).symm]; exact h.ro
    se := by unfold NatsL; rw [upd_ne (mem_ne ha n.as_).symm]; exact h.se
    ls := h.ls.mono (upd_ne (mem_ne ha n.ad).symm) fun _ _ z => z.mono k
    ln := h.ln
    lse := h.lse
    rows := fun b hb => by
      by_cases c : b = a
      · subst c
        exact ⟨_, upd_same, by rw [List.length_append]; simpa using hx⟩
      · obtain ⟨ys, e, l⟩ := h.rows b hb
        exact ⟨ys, by rw [upd_ne c]; exact e, Nat.le_succ_of_le l⟩ }
end
section
variable {P : Program} {w : World} {K : PySem.W.Frag} {mg : Str → Option Value} {base : Heap} {C : Addr}
def spGInit (C : Addr) : Sp := fun vs H Q _ => ∃ (p dx : Addr) (m : Nat), vs = [.ref p, iN m] ∧ m ≤ 10 ∧ H p = some (.ins C dx []) ∧
  ∀ (A : GA) (H' : Hp), A.p = p → (∀ a ∈ A.all, a = p ∨ H a = none) → Mv [p] H H' → GoingAt C H' (gstart m) A 0 → Q .non H'
theorem sc160 : FnScope ["self", "many", "hand"] ["self", "many"] (defScope (inClass (top 16) 0)) := ⟨rfl, rfl, rfl, by decide +kernel, rfl, by decide +kernel, by decide +kernel⟩
theorem rep_flat (m : Nat) (v : V) : (List.replicate ((m : Int)).toNat [v]).flatten = List.replicate m v := by
  rw [Int.toNat_natCast]
  induction m with
  | zero => rfl
  | succ n ih => rw [List.replicate_succ, List.flatten_cons, ih]; rfl
/-- a list of one thing, many times -/
theorem rd_rep {v : V} {i m : Nat} {σ : L2.St} {H : Hp} {Q : VK} (hs : σ[i]? = some (some (iN m))) (hm : m ≤ 1000) (k : ∀ (a : Addr) (H' : Hp), H a = none → H' a = some (.lst (List.replicate m v)) → Mv [] H H' → Q (.ref a) H') :
    tOp rRep (tLst (tCons (tC v) tNil)) (tVar i) σ H Q := by
  refine ⟨(by decide : 1 ≤ sizeLine), fun l0 n0 => ⟨_, hs, l0, m, _, rfl, rfl, upd_same, by omega, by omega, by show 1 * ((m : Int)).toNat ≤ sizeLine; rw [Int.toNat_natCast]; exact Nat.le_trans (by omega : 1 * m ≤ 1000) (by decide), fun lw nw => ?_⟩⟩
  rw [rep_flat]
  exact k lw _ ((Mv.new (S := []) n0).none nw) upd_same ((Mv.new n0).trans (Mv.new nw))
/-- an attribute is stored -/
theorem rd_setf {K : PySem.W.Frag} {C dx p : Addr} {fs fs' : List (Str × V)} {f : Str} {v : V} {N : Hp → Prop} {i : Nat} {σ : L2.St} {H : Hp} (hs : σ[i]? = some (some (.ref p))) (hp : H p = some (.ins C dx fs)) (c : Cls K C) (n : NoAttr K C f) (e : putF f v fs = fs')
    (k : ∀ H', H' p = some (.ins C dx fs') → Mv [p] H H' → N H') (l : fs.length < 1000 := by simp) :
    tVar i σ H fun x H2 => ∃ a C dx fs, x = .ref a ∧ H2 a = some (.ins C dx fs) ∧ Cls K C ∧ NoAttr K C f ∧ fs.length < 1000 ∧ N (upd H2 a (.ins C dx (putF f v fs))) :=
  ⟨_, hs, p, C, dx, fs, rfl, hp, c, n, l, by rw [e]; exact k _ upd_same (Mv.upd (by simp))⟩
theorem ok_ginit (D : MkAt K mg "Going" C "Going.__init__" (inClass (top 16) 0)) (B : Bl mg) (T : GoC K C) (U : Val mg "UP" (.str "up")) : LMak P w K mg base 1 "Going" C (spGInit C) := by
  refine mak_of D sc160 (fun _ _ _ _ _ _ us hl => match us, hl with | [_, _], _ => rfl) (fun vs H Q E h => ?_) (fun f cdv Ar outer s H vs Q E hr h => ?_)
  · obtain ⟨p, dx, m, rfl, _⟩ := h
    rfl
  · obtain ⟨p, dx, m, rfl, hm, hp, k⟩ := h
    have nd := sc160.nd
    refine ⟨_, pss_cons (ps_fld (pv 0) (pe_op op_rep (pe_lst (pa_cons pe_int pa_nil)) (pv 1)) rfl)
      (pss_cons (ps_fld (pv 0) (pe_op op_rep (pe_lst (pa_cons (pe_k U) pa_nil)) (pv 1)) rfl)
      (pss_cons (ps_fld (pv 0) (pe_lc (own := [("hand", 2)]) (g := gName 2) (tt := tYes) rfl nd (pi_range1 (by rfl) B.range (pa_cons (pv 1) pa_nil)) (blkOk_by (own := [("hand", 2)]) (N := ["self", "many", "hand"]) (sc := defScope (inClass (top 16) 0)) (by decide +kernel))
          (fun _ _ _ _ _ => pg_name (i := 2) nd rfl (Or.inl rfl)) (fun _ _ _ _ _ => pts_nil) (fun _ _ _ _ _ => pe_lst pa_nil)) rfl)
      (pss_cons (ps_fld (pv 0) (pe_op op_rep (pe_lst (pa_cons pe_int pa_nil)) (pv 1)) rfl)
      (pss_one (ps_fld (pv 0) pe_dnewT rfl))))), ?_⟩
    refine rd_rep (m := m) (i := 1) rfl (by omega) fun lw G1 nw ew M1 => ?_
    refine rd_setf rfl (M1.at hp (by simp)) T.cl T.nW (fs' := [("worths", .ref lw)]) rfl fun H1 hp1 N1 => ?_
    have ew1 := N1.at ew (by simp; exact (ne_none (some_ne hp) nw).symm)
    have M1' : Mv [p] H H1 := (M1.mono (by simp)).trans N1
    clear ew M1 N1
    refine rd_rep (m := m) (i := 1) rfl (by omega) fun lm G2 nm em M2 => ?_
    refine rd_setf rfl (M2.at hp1 (by simp)) T.cl T.nM (fs' := [("worths", .ref lw), ("moods", .ref lm)]) rfl fun H2 hp2 N2 => ?_
    have em2 := N2.at em (by simp; exact (ne_none (some_ne hp) (M1'.none nm)).symm)
    have M2' : Mv [p] H1 H2 := (M2.mono (by simp)).trans N2
    clear em M2 N2
    refine ⟨_, rfl, m, rfl, by omega, by omega, fun lr nr => ?_⟩
    refine lc_range (lo := 0) (n := m) (fun i H' => ∃ as : List Addr, as.length = i ∧ as.Nodup ∧ H' lr = some (.lst (as.map V.ref)) ∧ (∀ a ∈ as, H2 a = none ∧ a ≠ lr ∧ H' a = some (.lst [])) ∧ Mv [] H2 H') ?_ ?_ ?_
    · exact ⟨[], rfl, .nil, upd_same, by simp, Mv.new nr⟩
    · intro i H' hi ⟨as, hl, hn, hL, hA, hM⟩
      refine ⟨rfl, by decide, fun a na => ⟨as.map V.ref, ?_, ?_, as ++ [a], ?_, ?_, ?_, ?_, ?_⟩⟩
      · rw [upd_ne (ne_none (some_ne hL) na)]; exact hL
      · rw [List.length_map, hl]; exact Nat.lt_of_lt_of_le hi (Nat.le_trans hm (by decide))
      · rw [List.length_append, hl]; rfl
      · refine List.nodup_append.mpr ⟨hn, by simp, fun x hx y hy => ?_⟩
        simp at hy; subst hy
        exact ne_none (some_ne (hA x hx).2.2) na
      · rw [upd_same, List.map_append]; rfl
      · intro x hx
        rcases List.mem_append.mp hx with hx | hx
        · obtain ⟨h1, h2, h3⟩ := hA x hx
          exact ⟨h1, h2, by rw [upd_ne h2, upd_ne (ne_none (some_ne h3) na)]; exact h3⟩
        · simp at hx; subst hx
          have c : x ≠ lr := (ne_none (some_ne hL) na).symm
          exact ⟨hM.none na, c, by rw [upd_ne c, upd_same]⟩
      · exact ((hM.mono (S' := [lr]) (by simp)).trans ((Mv.new na).trans (Mv.upd (by simp)))).weak (by simp [nr])
    · intro H3' ⟨as, hl, hn, hL, hA, hM⟩
      refine rd_setf rfl (hM.at hp2 (by simp)) T.cl T.nR (fs' := [("worths", .ref lw), ("moods", .ref lm), ("rows", .ref lr)]) rfl fun H3 hp3 N3 => ?_
      have np : ∀ {a : Addr}, H a = none → a ≠ p := fun n => (ne_none (some_ne hp) n).symm
      have er3 := N3.at hL (by simp; exact np (M1'.none (M2'.none nr)))
      have ea3 : ∀ a ∈ as, H3 a = some (.lst []) := fun a ha => N3.at (hA a ha).2.2 (by simp; exact np (M1'.none (M2'.none (hA a ha).1)))
      have M3' : Mv [p] H2 H3 := (hM.mono (by simp)).trans N3
      have na3 := fun a ha => (hA a ha).1
      have nar := fun a ha => (hA a ha).2.1
      clear hL hA hM N3
      refine rd_rep (m := m) (i := 1) rfl (by omega) fun ls G4 ns es M4 => ?_
      refine rd_setf rfl (M4.at hp3 (by simp)) T.cl T.nS (fs' := [("worths", .ref lw), ("moods", .ref lm), ("rows", .ref lr), ("sent", .ref ls)]) rfl fun H4 hp4 N4 => ?_
      have es4 := N4.at es (by simp; exact np (M1'.none (M2'.none (M3'.none ns))))
      have M4' : Mv [p] H3 H4 := (M4.mono (by simp)).trans N4
      clear es M4 N4
      refine fun da nda => ?_
      refine rd_setf rfl ((Mv.new (S := []) nda).at hp4 (by simp)) T.cl T.nL (fs' := [("worths", .ref lw), ("moods", .ref lm), ("rows", .ref lr), ("sent", .ref ls), ("all_letters", .ref da)]) rfl fun H5 hp5 N5 => ?_
      have ed5 := N5.at (upd_same (H := H4) (a := da)) (by simp; exact np (M1'.none (M2'.none (M3'.none (M4'.none nda)))))
      have M5' : Mv [p] H4 H5 := (Mv.new nda).trans N5
      have n1 := M1'.none nm
      have n2 := M1'.none (M2'.none nr)
      have n2a : ∀ a ∈ as, H a = none := fun a ha => M1'.none (M2'.none (na3 a ha))
      have n3 := M1'.none (M2'.none (M3'.none ns))
      have n4 := M1'.none (M2'.none (M3'.none (M4'.none nda)))
      refine k ⟨p, dx, lw, lm, lr, ls, da, as⟩ H5 rfl ?_ ((((M1'.trans M2').trans M3').trans M4').trans M5') ?_
      · simp [GA.all, nw, n1, n2, n3, n4]
        exact fun a ha => .inr (n2a a ha)
      · have M45 : Mv [p] H3 H5 := M4'.trans M5'
        have M35 : Mv [p] H2 H5 := M3'.trans M45
        have M25 : Mv [p] H1 H5 := M2'.trans M35
        have pl : ∀ {a : Addr}, H a = none → a ∉ [p] := fun n => by simp; exact np n
        refine ⟨?_, hp5, ?_, ?_, ?_, ?_, ⟨[], ed5, .nil⟩, ?_, ?_, ?_⟩
        · have x1 : ∀ b, H1 b = none → b ≠ lw := fun b n => (ne_none (some_ne ew1) n).symm
          have x2 : ∀ b, H2 b = none → b ≠ lm := fun b n => (ne_none (some_ne em2) n).symm
          have x3 : ∀ b, H3 b = none → b ≠ lr := fun b n => (ne_none (some_ne er3) n).symm
          have x4 : ∀ b, H4 b = none → b ≠ ls := fun b n => (ne_none (some_ne es4) n).symm
          have x3a : ∀ b, H3 b = none → b ∉ as := fun b n c => (ne_none (some_ne (ea3 b c)) n) rfl
          have a1 : lm ≠ lw := x1 _ nm
          have a2 : lr ≠ lw := x1 _ (M2'.none nr)
          have a3 : ls ≠ lw := x1 _ (M2'.none (M3'.none ns))
          have a4 : da ≠ lw := x1 _ (M2'.none (M3'.none (M4'.none nda)))
          have a5 : lw ∉ as := fun c => x1 _ (M2'.none (na3 lw c)) rfl
          have b2 : lr ≠ lm := x2 _ nr
          have b3 : ls ≠ lm := x2 _ (M3'.none ns)
          have b4 : da ≠ lm := x2 _ (M3'.none (M4'.none nda))
          have b5 : lm ∉ as := fun c => x2 _ (na3 lm c) rfl
          have c3 : ls ≠ lr := x3 _ ns
          have c4 : da ≠ lr := x3 _ (M4'.none nda)
          have c5 : lr ∉ as := fun c => nar lr c rfl
          have d3 : ls ∉ as := x3a _ ns
          have d4 : da ∉ as := x3a _ (M4'.none nda)
          have e4 : da ≠ ls := x4 _ nda
          have p5 : p ∉ as := fun c => np (n2a p c) rfl
          simp only [GA.all, List.nodup_cons, List.mem_cons, not_or]
          exact ⟨⟨(np nw).symm, (np n1).symm, (np n2).symm, (np n3).symm, (np n4).symm, p5⟩, ⟨a1.symm, a2.symm, a3.symm, a4.symm, a5⟩, ⟨b2.symm, b3.symm, b4.symm, b5⟩, ⟨c3.symm, c4.symm, c5⟩, ⟨e4.symm, d3⟩, d4, hn⟩
        · have := M25.at ew1 (pl nw)
          show H5 lw = some (.lst ((List.replicate m 0).map iN)); rw [List.map_replicate]; exact this
        · have := M35.at em2 (pl n1)
          simpa [gstart] using this
        · exact M45.at er3 (pl n2)
        · have := M5'.at es4 (pl n3)
          show H5 ls = some (.lst ((List.replicate m 0).map iN)); rw [List.map_replicate]; exact this
        · show as.length = (List.replicate m 0).length; rw [hl, List.length_replicate]
        · rfl
        · intro a ha
          exact ⟨[], M5'.at (M4'.at (ea3 a ha) (by simp; exact np (n2a a ha))) (by simp; exact np (n2a a ha)), by simp⟩
end
end Lor
end

section
set_option Elab.async false
set_option linter.all false
set_option maxRecDepth 100000
set_option maxHeartbeats 4000000
namespace Lor
open PySem PySem.Spec PyProof.Rows L2
/-- an attribute is read -/
theorem rd_fld {K : PySem.W.Frag} {C dx p : Addr} {fs : List (Str × V)} {f : Str} {v : V} {Q : VK} {i : Nat} {σ : L2.St} {H : Hp} (hp : H p = some (.ins C dx fs)) (c : Cls K C) (n : NoAttr K C f)
    (k : Q v H) (e : fs.lookup f = some v := by rfl) (hs : σ[i]? = some (some (.ref p)) := by rfl) : tFld K (tVar i) f σ H Q := ⟨_, hs, p, C, dx, fs, v, rfl, hp, c, n, e, k⟩
/-- an item of a list: its place is known -/
theorem rd_ixL {K : PySem.W.Frag} {l : Addr} {xs : List V} {j : Nat} {v : V} {H : Hp} {Q : VK} (h : H l = some (.lst xs)) (e : xs[j]? = some v) (k : Q v H) : rIxL K (.ref l) (iN j) H Q := ⟨l, xs, _, v, rfl, rfl, SqL.of h, atI_nat e, k⟩
section
variable {P : Program} {w : World} {K : PySem.W.Frag} {mg : Str → Option Value} {base : Heap} {C : Addr}
def spCan (C : Addr) : Sp := fun vs H Q _ => ∃ (A : GA) (g : Gs) (i h f k wo : Nat) (dv : V), vs = [.ref A.p, dv] ∧ GoingAt C H g A i ∧ DeedAt H (.take h f k) dv ∧ h < g.wo.length ∧ aget g.ls (f, k) = some ⟨h, wo, false⟩ ∧ ∀ H', Mv [] H H' → Q (.bl true) H'
theorem sc161 : FnScope ["self", "deed", "word", "hand", "rest", "mood", "letter"] ["self", "deed"] (defScope (inClass (top 16) 1)) := ⟨rfl, rfl, rfl, by decide +kernel, rfl, by decide +kernel, by decide +kernel⟩
theorem ok_gcan (D : MethAt K C "can" "Going.can" (inClass (top 16) 1)) (T : GoC K C) (U : Val mg "UP" (.str "up")) (R : Val mg "REST" (.str "rest")) : LMet P w K mg base 1 C "can" (spCan C) := by
  refine met_of T.cl D sc161 (fun _ _ _ _ _ _ us hl => match us, hl with | [_, _], _ => rfl) (fun vs H Q E h => ?_) (fun fa cdv Ar outer s H vs Q E hr h => ?_)
  · obtain ⟨A, g, i, h, f, k, wo, dv, rfl, _⟩ := h
    rfl
  · obtain ⟨A, g, i, h, f, k, wo, dv, rfl, hG, ⟨da, rfl, hd⟩, hh, hl, kq⟩ := h
    have nd := sc161.nd
    refine ⟨_, pss_cons (ps_asg (pv 1) (pg_star rfl (pgs_cons (pg_name (i := 2) nd rfl (Or.inl rfl)) (pgs_cons (pg_name (i := 3) nd rfl (Or.inl rfl)) (pgs_cons (pg_name (i := 4) nd rfl (Or.inl rfl)) pgs_nil)))))
      (pss_cons (ps_set (i := 5) nd rfl (Or.inl rfl) (pe_ix ix_list (pe_fld (pv 0) rfl) (pv 3) (fun _ _ => rfl)))
      (pss_cons (ps_if (pt_cmpR op_eq (pv 2) pe_str (nomark _)) pss_never pss_nil)
      (pss_cons (ps_if (pt_cmpR op_ne (pv 2) pe_str (nomark _)) pss_never pss_nil)
      (pss_cons (ps_set (i := 6) nd rfl (Or.inl rfl) (pe_dget1 (hu_of hr) (pe_fld (pv 0) rfl) (pe_tup (pa_cons (pe_ix ix_list (pv 4) pe_int (fun _ _ => rfl)) (pa_cons (pe_ix ix_list (pv 4) pe_int (fun _ _ => rfl)) pa_nil))) ⟨rfl, rfl, rfl, rfl⟩))
      (pss_cons (ps_if (PW.pt (pw_or (pt_cmp (pc_isN (pv 6))) (pw_or (pt_cmpR op_ne (pe_ix ix_tup (pv 6) pe_int (fun _ _ => rfl)) (pv 3) (nomark _)) (pw_or1 (pt_cmp (pc_notN (pe_ix ix_tup (pv 6) pe_int (fun _ _ => rfl)))))))) pss_never pss_nil)
      (pss_one (ps_ret (pe_or (pe_cmpR op_in_seq (pv 5) (pe_tup (pa_cons (pe_k U) (pa_cons (pe_k R) pa_nil))) rfl) (pe_one pe_no)))))))))
, ?_⟩
    refine ⟨_, rfl, da, _, rfl, SqT.of hd, (by show 2 ≤ 4; decide), fun rr nr => ?_⟩
    have hG1 := hG.same (Same.new (o := .lst [iN f, iN k]) nr)
    refine ⟨_, _, rfl, _, _, rfl, _, _, rfl, rfl, ?_⟩
    refine ⟨_, rfl, _, _, _, _, _, rfl, hG1.ob, T.cl, T.nM, rfl, _, rfl, rd_ixL hG1.mo (v := .str "up") (by rw [List.getElem?_replicate, if_pos hh]) ?_⟩
    refine ⟨_, rfl, rfl, _, rfl, str_no (by decide) ?_⟩
    refine ⟨_, rfl, rfl, _, rfl, nstr_no ?_⟩
    obtain ⟨kvs, hD, hA⟩ := hG1.ls
    obtain ⟨v, hv, hv2⟩ := kv_some hA hl
    have er : upd H rr (.lst [iN f, iN k]) rr = some (.lst [iN f, iN k]) := upd_same
    refine ⟨_, rfl, _, _, _, _, _, rfl, hG1.ob, T.cl, T.nL, rfl, A.da, rfl, .inr ⟨_, .inl hD⟩, ?_⟩
    refine ⟨_, rfl, _, _, _, _, rfl, rfl, SqL.of er, atI_nat (j := 0) rfl, _, rfl, _, _, _, _, rfl, rfl, SqL.of er, atI_nat (j := 1) rfl, ?_⟩
    refine ⟨by show 2 ≤ sizeLine; decide, fun t nt => ?_⟩
    have hG2 := hG1.same (Same.new (o := .tup [iN f, iN k]) nt)
    have hv3 := hv2.mono (TK.new (o := .tup [iN f, iN k]) nt)
    refine ⟨_, DGet.t (k := nk (f, k)) (by rw [upd_ne (ne_of_none hD nt)]; exact hD) upd_same, ?_⟩
    rw [hv]
    obtain ⟨b, z, y, rfl, hb⟩ := hv3
    refine ⟨_, rfl, _, rfl, ?_⟩
    refine ifF (by simp) ?_
    refine ⟨_, rfl, b, _, _, _, rfl, rfl, SqT.of hb, atI_nat (j := 0) rfl, ⟨_, rfl, rfl, _, rfl, ?_⟩⟩
    refine ifF (by simp) ?_
    refine ⟨_, rfl, b, _, _, _, rfl, rfl, SqT.of hb, atI_nat (j := 3) rfl, _, rfl, ?_⟩
    refine ifF (by simp) ?_
    refine ⟨_, rfl, by show 2 ≤ sizeLine; decide, fun t2 nt2 => ⟨t2, _, rfl, .inr (SqT.of upd_same), rfl, rfl, true, rfl, iteT ?_⟩⟩
    exact kq _ ((Mv.new nr).trans ((Mv.new nt).trans (Mv.new nt2)))
end
end Lor
end

section
set_option Elab.async false
set_option linter.all false
set_option maxRecDepth 100000
set_option maxHeartbeats 4000000
namespace Lor
open PySem PySem.Spec PyProof.Rows L2
section
variable {P : Program} {w : World} {K : PySem.W.Frag} {mg : Str → Option Value} {base : Heap} {C : Addr}
def spGDo (C : Addr) : Sp := fun vs H Q _ => ∃ (A : GA) (g : Gs) (i : Nat) (d : Deed) (dv : V), vs = [.ref A.p, dv] ∧ GoingAt C H g A i ∧ DeedAt H d dv ∧ d.hand < g.wo.length ∧ i < 100000 ∧ g.ls.length < 100000 ∧
  (∀ h f k, d = .take h f k → ∃ l, aget g.ls (f, k) = some l) ∧ ∀ H', Mv A.all H H' → GoingAt C H' (gstep g d) A (i + 1) → Q .non H'
theorem sc162 : FnScope ["self", "deed", "word", "hand", "rest", "here", "to", "worth", "ahead", "taken"] ["self", "deed"] (defScope (inClass (top 16) 2)) := ⟨rfl, rfl, rfl, by decide +kernel, rfl, by decide +kernel, by decide +kernel⟩
theorem ixN_nat {n j : Nat} (h : j < n) : ixN n (j : Int) = some j := by
  unfold ixN
  rw [if_pos (by omega), if_pos (by omega), Int.toNat_natCast]
theorem set_iN (ns : List Nat) (h x : Nat) : (ns.map iN).set h (iN x) = (ns.set h x).map iN := by rw [List.map_set]
theorem set_rep {v : V} {n h : Nat} : (List.replicate n v).set h v = List.replicate n v := by
  apply List.ext_getElem?
  intro i
  rw [List.getElem?_set]
  by_cases c : h = i
  · subst c
    by_cases d : h < n
    · rw [if_pos rfl, List.length_replicate, if_pos d, List.getElem?_replicate, if_pos d]
    · rw [if_pos rfl, List.length_replicate, if_neg d, List.getElem?_replicate, if_neg d]
  · rw [if_neg c]
/-- the last statement of do -/
theorem rd_rowapp {A : GA} {g : Gs} {i h : Nat} {y : V} {σ : L2.St} {H : Hp} {Q : VK} (T : GoC K C) (hG : GoingAt C H g A i) (hi : i < 100000) (hh : h < g.wo.length) (s0 : σ[0]? = some (some (.ref A.p))) (s1 : σ[1]? = some (some y)) (s3 : σ[3]? = some (some (iN h)))
    (k : ∀ H', Mv A.all H H' → GoingAt C H' g A (i + 1) → Q .non H') : tBM K "list" rAppend (tOp (rIxL K) (tFld K (tVar 0) "rows") (tVar 3)) (tCons (tVar 1) tNil) σ H Q := by
  have hn : h < A.as.length := by rw [hG.ln]; exact hh
  have ea : A.as[h]? = some A.as[h] := List.getElem?_eq_getElem hn
  obtain ⟨xs, hx, hxl⟩ := hG.rows A.as[h] (List.getElem_mem hn)
  refine ⟨_, s0, _, _, _, _, _, rfl, hG.ob, T.cl, T.nR, rfl, _, s3, _, _, _, _, rfl, rfl, SqL.of hG.ro, atI_nat (v := V.ref A.as[h]) (by rw [List.getElem?_map, ea]; rfl), .inl ⟨rfl, _, SqL.of hx⟩, _, s1, _, _, _, rfl, rfl, hx, ?_, k _ (Mv.upd (by simp [GA.all])) (hG.addRow (List.getElem_mem hn) hx hxl)⟩
  exact Nat.lt_of_le_of_lt hxl (Nat.lt_trans hi (by decide))
theorem ok_gdo (D : MethAt K C "do" "Going.do" (inClass (top 16) 2)) (B : Bl mg) (T : GoC K C) (U : Val mg "UP" (.str "up")) (W : LCal P w K mg base 1 "taken_worth" spTaken) : LMet P w K mg base 2 C "do" (spGDo C) := by
  refine met_of T.cl D sc162 (fun _ _ _ _ _ _ us hl => match us, hl with | [_, _], _ => rfl) (fun vs H Q E h => ?_) (fun fa cdv Ar outer s H vs Q E hr h => ?_)
  · obtain ⟨A, g, i, d, dv, rfl, _⟩ := h
    rfl
  · obtain ⟨A, g, i, d, dv, rfl, hG, ⟨da, rfl, hd⟩, hh, hi, hs, hl, kq⟩ := h
    have nd := sc162.nd
    refine ⟨_, (pss_cons (ps_asg (pv 1) (pg_star (k := 2) rfl (pgs_cons (pg_name (i := 2) nd rfl (Or.inl rfl)) (pgs_cons (pg_name (i := 3) nd rfl (Or.inl rfl)) (pgs_cons (pg_name (i := 4) nd rfl (Or.inl rfl)) pgs_nil)))))
 (pss_cons (ps_set (i := 5) nd rfl (Or.inl rfl) (pe_callB call_len_seq (by rfl) B.len PySem.boot_len (pa_cons (pe_ix ix_list (pe_fld (pv 0) rfl) (pv 3) (fun _ _ => rfl)) pa_nil)))
 (pss_cons (ps_if (pt_cmpR op_eq (pv 2) pe_str (nomark _))
 (pss_one (ps_asg (pe_ix ix_list (pv 4) pe_int (fun _ _ => rfl)) (pg_sub (pe_fld (pv 0) rfl) (pv 3) set_list)))
 (pss_one (ps_if (pt_cmpR op_eq (pv 2) pe_str (nomark _))
 (pss_cons (ps_dput (hu_of hr) (pe_fld (pv 0) rfl) (pe_tup (pa_cons (pv 3) (pa_cons (pe_ix ix_list (pe_fld (pv 0) rfl) (pv 3) (fun _ _ => rfl)) pa_nil))) (pe_tup (pa_cons (pe_ix ix_list (pv 4) pe_int (fun _ _ => rfl)) (pa_cons (pe_ix ix_list (pe_fld (pv 0) rfl) (pv 3) (fun _ _ => rfl)) (pa_cons (pv 5) (pa_cons pe_non pa_nil))))) rfl)
 (pss_one (ps_augS (pe_fld (pv 0) rfl) (pv 3) get_list pe_int ip_add set_list)))
 (pss_one (ps_if (pt_cmpR op_eq (pv 2) pe_str (nomark _))
 (pss_cons (ps_asg (pe_dget (hu_of hr) (pe_fld (pv 0) rfl) (pe_tup (pa_cons (pe_ix ix_list (pv 4) pe_int (fun _ _ => rfl)) (pa_cons (pe_ix ix_list (pv 4) pe_int (fun _ _ => rfl)) pa_nil))) (fun _ _ => rfl)) (pg_tup (n := 4) rfl (pgs_cons (pg_name (i := 6) nd rfl (Or.inl rfl)) (pgs_cons (pg_name (i := 7) nd rfl (Or.inl rfl)) (pgs_cons (pg_name (i := 8) nd rfl (Or.inl rfl)) (pgs_cons (pg_name (i := 9) nd rfl (Or.inl rfl)) pgs_nil))))))
 (pss_cons (ps_dput (hu_of hr) (pe_fld (pv 0) rfl) (pe_tup (pa_cons (pe_ix ix_list (pv 4) pe_int (fun _ _ => rfl)) (pa_cons (pe_ix ix_list (pv 4) pe_int (fun _ _ => rfl)) pa_nil))) (pe_tup (pa_cons (pv 6) (pa_cons (pv 7) (pa_cons (pv 8) (pa_cons (pv 5) pa_nil))))) rfl)
 (pss_cons (ps_asg (pe_f W hr (by decide) (pa_cons (pe_ix ix_list (pe_fld (pv 0) rfl) (pv 3) (fun _ _ => rfl)) (pa_cons (pv 7) pa_nil))) (pg_sub (pe_fld (pv 0) rfl) (pv 3) set_list))
 (pss_one (ps_asg (pe_k U) (pg_sub (pe_fld (pv 0) rfl) (pv 3) set_list))))))
 (pss_one (ps_if (pt_cmpR op_eq (pv 2) pe_str (nomark _))
 pss_never
 (pss_one (ps_if (pt_cmpR op_eq (pv 2) pe_str (nomark _))
 pss_never
 pss_nil)))))))))
 (pss_one (ps_expr (pe_bm PySem.F.plainAttrs_list PySem.F.slot_list_append PySem.F.type_list_append mt_append (pe_ix ix_list (pe_fld (pv 0) rfl) (pv 3) (fun _ _ => rfl)) (pa_cons (pv 1) pa_nil))))))), ?_⟩
    refine ⟨_, rfl, da, _, rfl, SqT.of hd, (by cases d <;> (show 2 ≤ _; simp [enc])), fun rr nr => ?_⟩
    have er : upd H rr (.lst ((enc d).drop 2)) rr = some (.lst ((enc d).drop 2)) := upd_same
    have M1 : Mv A.all H (upd H rr (.lst ((enc d).drop 2))) := Mv.new nr
    have hG1 := hG.same (Same.new (o := .lst ((enc d).drop 2)) nr)
    generalize upd H rr (.lst ((enc d).drop 2)) = H1 at *
    have hn : d.hand < A.as.length := by rw [hG.ln]; exact hh
    have ea : A.as[d.hand]? = some A.as[d.hand] := List.getElem?_eq_getElem hn
    obtain ⟨xs, hx, hxl⟩ := hG1.rows A.as[d.hand] (List.getElem_mem hn)
    have ea2 : (A.as.map V.ref)[d.hand]? = some (.ref A.as[d.hand]) := by rw [List.getElem?_map, ea]; rfl
    have hw : g.wo[d.hand]? = some (g.wo.getD d.hand 0) := getD_get hh
    have hse : g.se[d.hand]? = some (g.se.getD d.hand 0) := getD_get (by rw [hG.lse]; exact hh)
    cases d with
    | own h x =>
      refine ⟨_, _, rfl, _, _, rfl, _, _, rfl, rfl, ?_⟩
      refine ⟨_, rfl, _, _, _, _, _, rfl, hG1.ob, T.cl, T.nR, rfl, _, rfl, _, _, _, _, rfl, rfl, SqL.of hG1.ro, atI_nat ea2, A.as[h], _, rfl, .inl (SqL.of hx), ?_⟩
      refine ⟨_, rfl, rfl, _, rfl, str_yes ?_⟩
      refine ⟨_, rfl, _, _, _, _, rfl, rfl, SqL.of er, atI_nat (j := 0) rfl, ?_⟩
      refine ⟨_, rfl, _, _, _, _, _, rfl, hG1.ob, T.cl, T.nW, rfl, _, rfl, _, _, _, _, rfl, rfl, hG1.wo, ixN_nat (by rw [List.length_map]; exact hh), ?_⟩
      rw [set_iN]
      have hG2 := hG1.setWo (ns := g.wo.set h x) (by rw [List.length_set])
      exact rd_rowapp T hG2 hi (by show h < (g.wo.set h x).length; rw [List.length_set]; exact hh) rfl rfl rfl fun H' m q => kq H' ((M1.trans (Mv.upd (by simp [GA.all]))).trans m) q
    | send h to =>
      replace hw : g.wo[h]? = some (g.wo.getD h 0) := hw
      replace hse : g.se[h]? = some (g.se.getD h 0) := hse
      replace hh : h < g.wo.length := hh
      refine ⟨_, _, rfl, _, _, rfl, _, _, rfl, rfl, ?_⟩
      refine ⟨_, rfl, _, _, _, _, _, rfl, hG1.ob, T.cl, T.nR, rfl, _, rfl, _, _, _, _, rfl, rfl, SqL.of hG1.ro, atI_nat ea2, A.as[h], _, rfl, .inl (SqL.of hx), ?_⟩
      refine ⟨_, rfl, rfl, _, rfl, str_no (by decide) ?_⟩
      refine ⟨_, rfl, rfl, _, rfl, str_yes ?_⟩
      refine ⟨_, rfl, _, _, _, _, rfl, rfl, SqL.of er, atI_nat (j := 0) rfl, ?_⟩
      refine ⟨_, rfl, _, _, _, _, _, rfl, hG1.ob, T.cl, T.nW, rfl, _, rfl, _, _, _, _, rfl, rfl, SqL.of hG1.wo, atI_nat (nats_get hw), ?_⟩
      refine ⟨_, rfl, (by show 4 ≤ sizeLine; decide), fun t nt => ?_⟩
      have et : upd H1 t (.tup [iN to, iN (g.wo.getD h 0), .int xs.length, .non]) t = some (.tup [iN to, iN (g.wo.getD h 0), .int xs.length, .non]) := upd_same
      have M2 : Mv A.all H (upd H1 t (.tup [iN to, iN (g.wo.getD h 0), .int xs.length, .non])) := M1.trans (Mv.new nt)
      have hG2 := hG1.same (Same.new (o := .tup [iN to, iN (g.wo.getD h 0), .int xs.length, .non]) nt)
      generalize upd H1 t (.tup [iN to, iN (g.wo.getD h 0), .int xs.length, .non]) = H2 at *
      refine ⟨_, rfl, _, _, _, _, _, rfl, hG2.ob, T.cl, T.nL, rfl, ?_⟩
      refine ⟨_, rfl, _, rfl, _, _, _, _, _, rfl, hG2.ob, T.cl, T.nS, rfl, _, rfl, _, _, _, _, rfl, rfl, SqL.of hG2.se, atI_nat (nats_get hse), (by show 2 ≤ sizeLine; decide), fun t2 nt2 => ?_⟩
      have et2 : upd H2 t2 (.tup [iN h, iN (g.se.getD h 0)]) t2 = some (.tup [iN h, iN (g.se.getD h 0)]) := upd_same
      have et' : upd H2 t2 (.tup [iN h, iN (g.se.getD h 0)]) t = some (.tup [iN to, iN (g.wo.getD h 0), .int xs.length, .non]) := by rw [upd_ne (ne_none (some_ne et) nt2)]; exact et
      have M3 : Mv A.all H (upd H2 t2 (.tup [iN h, iN (g.se.getD h 0)])) := M2.trans (Mv.new nt2)
      have hG3 := hG2.same (Same.new (o := .tup [iN h, iN (g.se.getD h 0)]) nt2)
      generalize upd H2 t2 (.tup [iN h, iN (g.se.getD h 0)]) = H3 at *
      obtain ⟨kvs, hD, hA⟩ := hG3.ls
      refine ⟨A.da, _, rfl, DPut.t (k := nk (h, g.se.getD h 0)) hD et2 (by rw [← hA.len]; exact Nat.lt_trans hs (by decide)), ?_⟩
      have hG4 := hG3.setLs (q := (h, g.se.getD h 0)) (l := ⟨to, g.wo.getD h 0, false⟩) hD hA ⟨t, xs.length, 0, rfl, et'⟩
      have M4 : Mv A.all H (upd H3 A.da (.dT (putK kvs (nk (h, g.se.getD h 0)) (.ref t)))) := M3.trans (Mv.upd (by simp [GA.all]))
      generalize upd H3 A.da (.dT (putK kvs (nk (h, g.se.getD h 0)) (.ref t))) = H4 at *
      refine ⟨_, rfl, _, _, _, _, _, rfl, hG4.ob, T.cl, T.nS, rfl, _, rfl, _, _, _, _, rfl, rfl, SqL.of hG4.se, atI_nat (nats_get hse), _, _, rfl, rfl, _, _, _, _, rfl, rfl, hG4.se, ixN_nat (by rw [List.length_map]; show h < g.se.length; rw [hG.lse]; exact hh), ?_⟩
      have e5 : (g.se.map iN).set h (.int ((g.se.getD h 0 : Nat) + 1 : Int)) = (g.se.set h (g.se.getD h 0 + 1)).map iN := by rw [← set_iN]; rfl
      rw [e5]
      have hG5 := hG4.setSe (ns := g.se.set h (g.se.getD h 0 + 1)) (by rw [List.length_set])
      exact rd_rowapp T hG5 hi hh rfl rfl rfl fun H' m q => kq H' ((M4.trans (Mv.upd (by simp [GA.all]))).trans m) q
    | take h f k =>
      obtain ⟨l, hl⟩ := hl h f k rfl
      replace hw : g.wo[h]? = some (g.wo.getD h 0) := hw
      replace hse : g.se[h]? = some (g.se.getD h 0) := hse
      replace hh : h < g.wo.length := hh
      refine ⟨_, _, rfl, _, _, rfl, _, _, rfl, rfl, ?_⟩
      refine ⟨_, rfl, _, _, _, _, _, rfl, hG1.ob, T.cl, T.nR, rfl, _, rfl, _, _, _, _, rfl, rfl, SqL.of hG1.ro, atI_nat ea2, A.as[h], _, rfl, .inl (SqL.of hx), ?_⟩
      refine ⟨_, rfl, rfl, _, rfl, str_no (by decide) ?_⟩
      refine ⟨_, rfl, rfl, _, rfl, str_no (by decide) ?_⟩
      refine ⟨_, rfl, rfl, _, rfl, str_yes ?_⟩
      refine ⟨_, rfl, _, _, _, _, _, rfl, hG1.ob, T.cl, T.nL, rfl, ?_⟩
      refine ⟨_, rfl, _, _, _, _, rfl, rfl, SqL.of er, atI_nat (j := 0) rfl, _, rfl, _, _, _, _, rfl, rfl, SqL.of er, atI_nat (j := 1) rfl, (by show 2 ≤ sizeLine; decide), fun t nt => ?_⟩
      have et : upd H1 t (.tup [iN f, iN k]) t = some (.tup [iN f, iN k]) := upd_same
      have er2 : upd H1 t (.tup [iN f, iN k]) rr = some (.lst ((enc (.take h f k)).drop 2)) := by rw [upd_ne (ne_none (some_ne er) nt)]; exact er
      have M2 : Mv A.all H (upd H1 t (.tup [iN f, iN k])) := M1.trans (Mv.new nt)
      have hG2 := hG1.same (Same.new (o := .tup [iN f, iN k]) nt)
      generalize upd H1 t (.tup [iN f, iN k]) = H2 at *
      obtain ⟨kvs, hD, hA⟩ := hG2.ls
      obtain ⟨v, hv, tl, z, y, rfl, htl⟩ := kv_some hA hl
      refine ⟨A.da, _, rfl, DGet.t (k := nk (f, k)) hD et |> fun x => by rw [hv] at x; exact x, ?_⟩
      refine ⟨tl, _, rfl, SqT.of htl, rfl, ?_⟩
      refine ⟨_, _, rfl, _, _, rfl, _, _, rfl, _, _, rfl, rfl, ?_⟩
      refine ⟨_, rfl, _, rfl, _, rfl, _, rfl, (by show 4 ≤ sizeLine; decide), fun t2 nt2 => ?_⟩
      have et2 : upd H2 t2 (.tup [iN l.to, iN l.wo, .int z, .int xs.length]) t2 = some (.tup [iN l.to, iN l.wo, .int z, .int xs.length]) := upd_same
      have er3 : upd H2 t2 (.tup [iN l.to, iN l.wo, .int z, .int xs.length]) rr = some (.lst ((enc (.take h f k)).drop 2)) := by rw [upd_ne (ne_none (some_ne er2) nt2)]; exact er2
      have M3 : Mv A.all H (upd H2 t2 (.tup [iN l.to, iN l.wo, .int z, .int xs.length])) := M2.trans (Mv.new nt2)
      have hG3 := hG2.same (Same.new (o := .tup [iN l.to, iN l.wo, .int z, .int xs.length]) nt2)
      generalize upd H2 t2 (.tup [iN l.to, iN l.wo, .int z, .int xs.length]) = H3 at *
      refine ⟨_, rfl, _, _, _, _, _, rfl, hG3.ob, T.cl, T.nL, rfl, ?_⟩
      refine ⟨_, rfl, _, _, _, _, rfl, rfl, SqL.of er3, atI_nat (j := 0) rfl, _, rfl, _, _, _, _, rfl, rfl, SqL.of er3, atI_nat (j := 1) rfl, (by show 2 ≤ sizeLine; decide), fun t3 nt3 => ?_⟩
      have et3 : upd H3 t3 (.tup [iN f, iN k]) t3 = some (.tup [iN f, iN k]) := upd_same
      have et2' : upd H3 t3 (.tup [iN f, iN k]) t2 = some (.tup [iN l.to, iN l.wo, .int z, .int xs.length]) := by rw [upd_ne (ne_none (some_ne et2) nt3)]; exact et2
      have M4 : Mv A.all H (upd H3 t3 (.tup [iN f, iN k])) := M3.trans (Mv.new nt3)
      have hG4 := hG3.same (Same.new (o := .tup [iN f, iN k]) nt3)
      generalize upd H3 t3 (.tup [iN f, iN k]) = H4 at *
      obtain ⟨kvs', hD', hA'⟩ := hG4.ls
      refine ⟨A.da, _, rfl, DPut.t (k := nk (f, k)) hD' et3 (by rw [← hA'.len]; exact Nat.lt_trans hs (by decide)), ?_⟩
      have hG5 := hG4.setLs (q := (f, k)) (l := ⟨l.to, l.wo, true⟩) hD' hA' ⟨t2, z, xs.length, rfl, et2'⟩
      have M5 : Mv A.all H (upd H4 A.da (.dT (putK kvs' (nk (f, k)) (.ref t2)))) := M4.trans (Mv.upd (by simp [GA.all]))
      generalize upd H4 A.da (.dT (putK kvs' (nk (f, k)) (.ref t2))) = H5 at *
      refine ⟨_, rfl, _, _, _, _, _, rfl, hG5.ob, T.cl, T.nW, rfl, _, rfl, _, _, _, _, rfl, rfl, SqL.of hG5.wo, atI_nat (nats_get hw), _, rfl, ?_⟩
      refine ⟨g.wo.getD h 0, l.wo, rfl, ?_⟩
      refine ⟨_, rfl, _, _, _, _, _, rfl, hG5.ob, T.cl, T.nW, rfl, _, rfl, _, _, _, _, rfl, rfl, hG5.wo, ixN_nat (by rw [List.length_map]; exact hh), ?_⟩
      rw [set_iN]
      have hG6 := hG5.setWo (ns := g.wo.set h ((3 * g.wo.getD h 0 + l.wo + 1) % 1000)) (by rw [List.length_set])
      have M6 : Mv A.all H (upd H5 A.lw (.lst ((g.wo.set h ((3 * g.wo.getD h 0 + l.wo + 1) % 1000)).map iN))) := M5.trans (Mv.upd (by simp [GA.all]))
      generalize upd H5 A.lw (.lst ((g.wo.set h ((3 * g.wo.getD h 0 + l.wo + 1) % 1000)).map iN)) = H6 at *
      refine ⟨_, rfl, _, _, _, _, _, rfl, hG6.ob, T.cl, T.nM, rfl, _, rfl, _, _, _, _, rfl, rfl, hG6.mo, ixN_nat (by rw [List.length_replicate]; show h < (g.wo.set h _).length; rw [List.length_set]; exact hh), ?_⟩
      have hG7 := hG6.setMo (vs := (List.replicate (g.wo.set h ((3 * g.wo.getD h 0 + l.wo + 1) % 1000)).length (.str "up")).set h (.str "up")) set_rep
      exact rd_rowapp T hG7 hi (by show h < (g.wo.set h _).length; rw [List.length_set]; exact hh) rfl rfl rfl fun H' m q => kq H' ((M6.trans (Mv.upd (by simp [GA.all]))).trans m) (by
        show GoingAt C H' (gstep g (.take h f k)) A (i + 1)
        unfold gstep
        simp only [hl]
        exact q)
    | keep h =>
      refine ⟨_, _, rfl, _, _, rfl, _, _, rfl, rfl, ?_⟩
      refine ⟨_, rfl, _, _, _, _, _, rfl, hG1.ob, T.cl, T.nR, rfl, _, rfl, _, _, _, _, rfl, rfl, SqL.of hG1.ro, atI_nat ea2, A.as[h], _, rfl, .inl (SqL.of hx), ?_⟩
      refine ⟨_, rfl, rfl, _, rfl, str_no (by decide) ?_⟩
      refine ⟨_, rfl, rfl, _, rfl, str_no (by decide) ?_⟩
      refine ⟨_, rfl, rfl, _, rfl, str_no (by decide) ?_⟩
      refine ⟨_, rfl, rfl, _, rfl, str_no (by decide) ?_⟩
      refine ⟨_, rfl, rfl, _, rfl, str_no (by decide) ?_⟩
      exact rd_rowapp T hG1 hi hh rfl rfl rfl fun H' m q => kq H' (M1.trans m) q
end
end Lor
end

section
set_option Elab.async false
set_option linter.all false
set_option maxRecDepth 100000
set_option maxHeartbeats 4000000
namespace Lor
open PySem PySem.Spec PyProof.Rows L2
/-! ### class Town: how it lies -/
structure ToA where
  p : Addr
  dx : Addr
  lr : Addr
  lw : Addr
  lt : Addr
  lf : Addr
  lb : Addr
  ld : Addr
def ToA.all (A : ToA) : List Addr := [A.p, A.lr, A.lw, A.lt, A.lf, A.lb, A.ld]
def wayS (al : Bool) : Str := if al = true then "along" else "free"
def tF (A : ToA) (tv : V) (al : Bool) (many : Nat) : List (Str × V) := [("own_tables", tv), ("own_way", .str (wayS al)), ("own_many", iN many), ("rows", .ref A.lr), ("own_written", .ref A.lw), ("told_rows", .ref A.lt), ("fall_rows", .ref A.lf), ("begun_from", .ref A.lb), ("done", .ref A.ld)]
def TgtAt (H : Hp) (ts : List Nat) (v : V) : Prop := ∃ b, v = .ref b ∧ H b = some (.tup (ts.map iN))
def OwnAt (H : Hp) (own : List (List Nat)) (v : V) : Prop := ∃ b vs, v = .ref b ∧ H b = some (.tup vs) ∧ All2 (TgtAt H) own vs
def TabsAt (H : Hp) (tabs : Tabs) (v : V) : Prop := ∃ b vs, v = .ref b ∧ H b = some (.tup vs) ∧ All2 (OwnAt H) tabs vs
theorem TgtAt.mono {H H' : Hp} {ts : List Nat} {v : V} (k : TK H H') (h : TgtAt H ts v) : TgtAt H' ts v := let ⟨b, e, q⟩ := h; ⟨b, e, k _ _ q⟩
theorem OwnAt.mono {H H' : Hp} {o : List (List Nat)} {v : V} (k : TK H H') (h : OwnAt H o v) : OwnAt H' o v := let ⟨b, vs, e, q, a⟩ := h; ⟨b, vs, e, k _ _ q, a.imp fun _ _ z => z.mono k⟩
theorem TabsAt.mono {H H' : Hp} {o : Tabs} {v : V} (k : TK H H') (h : TabsAt H o v) : TabsAt H' o v := let ⟨b, vs, e, q, a⟩ := h; ⟨b, vs, e, k _ _ q, a.imp fun _ _ z => z.mono k⟩
def ToldAt (H : Hp) (t : Nat × Nat × Nat) (v : V) : Prop := ∃ b, v = .ref b ∧ H b = some (.tup [iN t.1, iN t.2.1, iN t.2.2])
def FallAt (H : Hp) (back : List Nat) (v : V) : Prop := ∃ a x b, v = .ref a ∧ H a = some (.tup [x, .ref b]) ∧ H b = some (.tup (back.map iN))
theorem ToldAt.mono {H H' : Hp} {t : Nat × Nat × Nat} {v : V} (k : TK H H') (h : ToldAt H t v) : ToldAt H' t v := let ⟨b, e, q⟩ := h; ⟨b, e, k _ _ q⟩
theorem FallAt.mono {H H' : Hp} {t : List Nat} {v : V} (k : TK H H') (h : FallAt H t v) : FallAt H' t v := let ⟨a, x, b, e, q, q2⟩ := h; ⟨a, x, b, e, k _ _ q, k _ _ q2⟩
/-- a list of things, each read by R -/
def LstR {α : Type} (H : Hp) (l : Addr) (R : α → V → Prop) (xs : List α) : Prop := ∃ vs, H l = some (.lst vs) ∧ All2 R xs vs
theorem LstR.mono {α : Type} {H H' : Hp} {l : Addr} {R S : α → V → Prop} {xs : List α} (h : LstR H l R xs) (e : H' l = H l) (f : ∀ a v, R a v → S a v) : LstR H' l S xs := let ⟨vs, a, b⟩ := h; ⟨vs, by rw [e]; exact a, b.imp f⟩
structure TownAt (C : Addr) (tabs : Tabs) (al : Bool) (H : Hp) (st : TS) (A : ToA) (n : Nat) : Prop where
  nd : A.all.Nodup
  tab : ∃ tv, TabsAt H tabs tv ∧ H A.p = some (.ins C A.dx (tF A tv al tabs.length))
  rows : LstR H A.lr (RowAt H) st.rows
  wr : NatsL H A.lw st.wr
  told : LstR H A.lt (ToldAt H) st.told
  falls : LstR H A.lf (FallAt H) st.falls
  begun : ∃ vs, H A.lb = some (.lst vs)
  done : ∃ vs, H A.ld = some (.lst vs) ∧ vs.length ≤ n
structure ToC (K : PySem.W.Frag) (C : Addr) : Prop where
  cl : Cls K C
  nTab : NoAttr K C "own_tables"
  nWay : NoAttr K C "own_way"
  nMany : NoAttr K C "own_many"
  nRows : NoAttr K C "rows"
  nWr : NoAttr K C "own_written"
  nTold : NoAttr K C "told_rows"
  nFall : NoAttr K C "fall_rows"
  nFrom : NoAttr K C "begun_from"
  nDone : NoAttr K C "done"
section
variable {C : Addr} {tabs : Tabs} {al : Bool} {H H' : Hp} {st : TS} {A : ToA} {n : Nat}
theorem TownAt.live (h : TownAt C tabs al H st A n) : ∀ a ∈ A.all, ∃ o, H a = some o ∧ ∀ xs, o ≠ .tup xs := by
  intro a ha
  simp only [ToA.all, List.mem_cons, List.not_mem_nil, or_false] at ha
  rcases ha with rfl | rfl | rfl | rfl | rfl | rfl | rfl
  · obtain ⟨tv, _, e⟩ := h.tab
    exact ⟨_, e, fun _ z => by cases z⟩
  · obtain ⟨vs, e, _⟩ := h.rows
    exact ⟨_, e, fun _ z => by cases z⟩
  · exact ⟨_, h.wr, fun _ z => by cases z⟩
  · obtain ⟨vs, e, _⟩ := h.told
    exact ⟨_, e, fun _ z => by cases z⟩
  · obtain ⟨vs, e, _⟩ := h.falls
    exact ⟨_, e, fun _ z => by cases z⟩
  · obtain ⟨vs, e⟩ := h.begun
    exact ⟨_, e, fun _ z => by cases z⟩
  · obtain ⟨vs, e, _⟩ := h.done
    exact ⟨_, e, fun _ z => by cases z⟩
theorem TownAt.frame (h : TownAt C tabs al H st A n) (k : TK H H') (s : ∀ a ∈ A.all, H' a = H a) : TownAt C tabs al H' st A n where
  nd := h.nd
  tab := by
    obtain ⟨tv, a, b⟩ := h.tab
    exact ⟨tv, a.mono k, by rw [s _ (by simp [ToA.all])]; exact b⟩
  rows := h.rows.mono (s _ (by simp [ToA.all])) fun _ _ z => z.mono k
  wr := by unfold NatsL; rw [s _ (by simp [ToA.all])]; exact h.wr
  told := h.told.mono (s _ (by simp [ToA.all])) fun _ _ z => z.mono k
  falls := h.falls.mono (s _ (by simp [ToA.all])) fun _ _ z => z.mono k
  begun := by rw [s _ (by simp [ToA.all])]; exact h.begun
  done := by rw [s _ (by simp [ToA.all])]; exact h.done
/-- a move that spares the town's own places -/
theorem TownAt.move {S : List Addr} (h : TownAt C tabs al H st A n) (m : Mv S H H') (k : TK H H') (d : ∀ a ∈ A.all, a ∉ S) : TownAt C tabs al H' st A n := h.frame k fun a ha => by
  obtain ⟨o, e, _⟩ := h.live a ha
  rw [e]; exact m.at e (d a ha)
theorem TownAt.mv (h : TownAt C tabs al H st A n) (m : Mv [] H H') : TownAt C tabs al H' st A n := h.move m (m.tk (by simp)) (by simp)
theorem TownAt.tk (h : TownAt C tabs al H st A n) (f : Mv A.all H H') : TK H H' := f.tk fun a ha xs z => by
  obtain ⟨o, e, nn⟩ := h.live a ha
  rw [e] at z
  exact nn xs (Option.some.inj z)
theorem TownAt.tkU (h : TownAt C tabs al H st A n) {a : Addr} {o : HO} (ha : a ∈ A.all) : TK H (upd H a o) := TK.upd fun xs z => by
  obtain ⟨o, e, nn⟩ := h.live a ha
  rw [e] at z
  exact nn xs (Option.some.inj z)
end
/-! ### lengths of what goes -/
theorem gstep_wo (g : Gs) (d : Deed) : (gstep g d).wo.length = g.wo.length := by
  cases d with
  | own h x => exact List.length_set
  | send h to => rfl
  | take h f k =>
    show (match aget g.ls (f, k) with | some l => _ | none => g : Gs).wo.length = _
    cases aget g.ls (f, k) with
    | none => rfl
    | some l => exact List.length_set
  | keep h => rfl
theorem arep_len {α : Type} (l : List (Nm × α)) (k : Nm) (a : α) : (arep l k a).length = l.length := by
  induction l with
  | nil => rfl
  | cons q r ih => exact congrArg Nat.succ ih
theorem aput_len {α : Type} (l : List (Nm × α)) (k : Nm) (a : α) : (aput l k a).length ≤ l.length + 1 := by
  unfold aput
  split
  · rw [arep_len]; exact Nat.le_succ _
  · rw [List.length_append]; exact Nat.le_refl _
theorem gstep_ls (g : Gs) (d : Deed) : (gstep g d).ls.length ≤ g.ls.length + 1 := by
  cases d with
  | own h x => exact Nat.le_succ _
  | send h to => exact aput_len _ _ _
  | take h f k =>
    show (match aget g.ls (f, k) with | some l => _ | none => g : Gs).ls.length ≤ _
    cases aget g.ls (f, k) with
    | none => exact Nat.le_succ _
    | some l => exact aput_len _ _ _
  | keep h => exact Nat.le_succ _
theorem going_snoc (m : Nat) (rows : List Row) (r : Row) : going m (rows ++ [r]) = gstep (going m rows) r.1 := by
  unfold going
  rw [List.foldl_append]
  rfl
theorem take_snoc {α : Type} {l : List α} {i : Nat} {a : α} (h : l[i]? = some a) : l.take (i + 1) = l.take i ++ [a] := by
  rw [List.take_add_one, h]
  rfl
theorem rev_ind {α : Type} {Pr : List α → Prop} (h0 : Pr []) (hs : ∀ l a, Pr l → Pr (l ++ [a])) : ∀ l, Pr l := by
  have key : ∀ n (l : List α), l.length = n → Pr l := by
    intro n
    induction n with
    | zero => intro l hl; rw [List.length_eq_zero_iff.mp hl]; exact h0
    | succ n ih =>
      intro l hl
      have hne : l ≠ [] := fun z => by rw [z] at hl; cases hl
      rw [← List.dropLast_concat_getLast hne]
      exact hs _ _ (ih _ (by rw [List.length_dropLast, hl]; rfl))
  exact fun l => key _ l rfl
theorem going_wo (m : Nat) (rows : List Row) : (going m rows).wo.length = m := by
  induction rows using rev_ind with
  | h0 => exact List.length_replicate
  | hs l r ih => rw [going_snoc, gstep_wo, ih]
theorem going_ls (m : Nat) (rows : List Row) : (going m rows).ls.length ≤ rows.length := by
  induction rows using rev_ind with
  | h0 => exact Nat.le_refl _
  | hs l r ih => rw [going_snoc, List.length_append]; exact Nat.le_trans (gstep_ls _ _) (Nat.succ_le_succ ih)
/-- a history that the program can walk -/
structure Fit (many : Nat) (rows : List Row) : Prop where
  valid : Valid many rows
  few : rows.length ≤ 1000
section
variable {P : Program} {w : World} {K : PySem.W.Frag} {mg : Str → Option Value} {base : Heap} {C CG : Addr} {tabs : Tabs} {al : Bool}
/-! ### Town.count_of -/
theorem count_snoc (l : List Row) (r : Row) (h : Nat) : count (l ++ [r]) h = count l h + (if isTake h r = true then 1 else 0) := by
  unfold count
  rw [List.filter_append, List.length_append]
  congr 1
  by_cases c : isTake h r = true
  · simp [c]
  · simp [c]
theorem Mv.tk0 {H H' : Hp} (f : Mv [] H H') : TK H H' := f.tk (by simp)
/-- the pieces of a row -/
theorem RowAt.get {H : Hp} {r : Row} {v : V} (h : RowAt H r v) : ∃ a b, v = .ref a ∧ H a = some (.tup [.ref b, iN r.2]) ∧ H b = some (.tup (enc r.1)) := h

def spCount (C : Addr) (tabs : Tabs) (al : Bool) : Sp := fun vs H Q _ => ∃ (A : ToA) (st : TS) (n h : Nat), vs = [.ref A.p, iN h] ∧ TownAt C tabs al H st A n ∧ st.rows.length ≤ 1000 ∧ ∀ H', Mv [] H H' → Q (iN (count st.rows h)) H'
theorem sc303 : FnScope ["self", "hand", "deed", "step"] ["self", "hand"] (defScope (inClass (top 30) 3)) := ⟨rfl, rfl, rfl, by decide +kernel, rfl, by decide +kernel, by decide +kernel⟩
theorem ok_count (D : MethAt K C "count_of" "Town.count_of" (inClass (top 30) 3)) (B : Bl mg) (T : ToC K C) : LMet P w K mg base 1 C "count_of" (spCount C tabs al) := by
  refine met_of T.cl D sc303 (fun _ _ _ _ _ _ us hl => match us, hl with | [_, _], _ => rfl) (fun vs H Q E h => ?_) (fun fa cdv Ar outer s H vs Q E hr h => ?_)
  · obtain ⟨A, st, n, h, rfl, _⟩ := h
    rfl
  · obtain ⟨A, st, n, h, rfl, hT, hf, kq⟩ := h
    have nd := sc303.nd
    refine ⟨_, (pss_one (ps_ret (pe_callB call_len_seq (by rfl) B.len PySem.boot_len (pa_cons (pe_lc (own := [("deed", 2), ("step", 3)]) (g := gTup K 2 (gCons (gName 2) (gCons (gName 3) gNil))) rfl nd (pi_list (pe_fld (pv 0) rfl)) (blkOk_by (own := [("deed", 2), ("step", 3)]) (N := ["self", "hand", "deed", "step"]) (sc := defScope (inClass (top 30) 3)) (by decide +kernel)) (fun _ _ _ _ _ => (pg_tupK (K := K) (n := 2) rfl (pgs_cons (pg_name (i := 2) nd rfl (Or.inl rfl)) (pgs_cons (pg_name (i := 3) nd rfl (Or.inl rfl)) pgs_nil)))) (fun _ _ _ _ _ => pts_one (PW.pt (pw_and (pt_cmpR op_eq (pe_ix (ix_tupK (K := K)) (pv 2) pe_int (fun _ _ => rfl)) pe_str (nomark _)) (pw_and1 (pt_cmpR op_eq (pe_ix (ix_tupK (K := K)) (pv 2) pe_int (fun _ _ => rfl)) (pv 1) (nomark _)))))) (fun _ _ _ _ _ => (pv 3))) pa_nil)))), ?_⟩
    obtain ⟨tv, _, ob⟩ := hT.tab
    obtain ⟨vs, hv, hA⟩ := hT.rows
    refine ⟨_, rfl, _, _, _, _, _, rfl, ob, T.cl, T.nRows, rfl, _, rfl, ⟨_, SqL.of hv⟩, fun D nD => ?_⟩
    refine lc_list (xs := vs) (fun i H' => Mv [] H H' ∧ ∃ acc : List V, H' D = some (.lst acc) ∧ acc.length = count (st.rows.take i) h) ⟨Mv.new nD, [], upd_same, rfl⟩ (fun i H' _ p => SqL.of (p.1.at hv (by simp))) ?_ ?_
    · intro i x H' hx ⟨hm, acc, hacc, hlen⟩
      obtain ⟨r, hr', ha⟩ := hA.getR hx
      obtain ⟨a, b, rfl, h1, h2⟩ := ha.mono hm.tk0
      have hi : i < 1000 := by
        have := lt_of_get hr'
        omega
      have hacc2 : acc.length < sizeLine := by
        rw [hlen]
        refine Nat.lt_of_le_of_lt (List.length_filter_le _ _) ?_
        rw [List.length_take]
        exact Nat.lt_of_le_of_lt (Nat.min_le_left _ _) (Nat.lt_trans hi (by decide))
      have tk1 := take_snoc hr'
      refine ⟨a, _, rfl, SqT.of h1, rfl, _, _, rfl, _, _, rfl, rfl, rfl, ?_⟩
      have no : ∀ {w : Str} {t : List V}, enc r.1 = .str w :: t → ¬ (w = "take") → isTake h r = false → Mv [] H H' ∧ ∃ acc : List V, H' D = some (.lst acc) ∧ acc.length = count (st.rows.take (i + 1)) h := by
        intro w t _ _ hf
        refine ⟨hm, acc, hacc, ?_⟩
        rw [tk1, count_snoc, hf, hlen]; rfl
      obtain ⟨d, s⟩ := r
      cases d with
      | own h' x => exact ⟨_, rfl, _, _, _, _, rfl, rfl, SqT.of h2, atI_nat (j := 0) rfl, rfl, _, rfl, str_no (by decide) (no rfl (by decide) rfl)⟩
      | send h' x => exact ⟨_, rfl, _, _, _, _, rfl, rfl, SqT.of h2, atI_nat (j := 0) rfl, rfl, _, rfl, str_no (by decide) (no rfl (by decide) rfl)⟩
      | keep h' => exact ⟨_, rfl, _, _, _, _, rfl, rfl, SqT.of h2, atI_nat (j := 0) rfl, rfl, _, rfl, str_no (by decide) (no rfl (by decide) rfl)⟩
      | take h' f k =>
        refine ⟨_, rfl, _, _, _, _, rfl, rfl, SqT.of h2, atI_nat (j := 0) rfl, rfl, _, rfl, str_yes ?_⟩
        refine ⟨_, rfl, _, _, _, _, rfl, rfl, SqT.of h2, atI_nat (j := 1) rfl, _, rfl, rfl, _, rfl, ?_⟩
        refine ite2 (fun c => ?_) (fun c => ?_)
        · have c' : h' = h := iN_inj (of_decide_eq_true c)
          refine ⟨_, rfl, acc, hacc, hacc2, hm.own nD, _, upd_same, ?_⟩
          rw [List.length_append, tk1, count_snoc, hlen]
          simp [isTake, c']
        · have c' : ¬ h' = h := fun z => c (by rw [z]; simp)
          refine ⟨hm, acc, hacc, ?_⟩
          rw [tk1, count_snoc, hlen]
          simp [isTake, c']
    · intro H' ⟨hm, acc, hacc, hlen⟩
      have e : acc.length = count st.rows h := by rw [hlen, List.take_of_length_le (Nat.le_of_eq hA.len)]
      refine ⟨D, acc, rfl, .inl (SqL.of hacc), ?_⟩
      rw [e]
      exact kq H' hm
end
end Lor
end

section
set_option Elab.async false
set_option linter.all false
set_option maxRecDepth 100000
set_option maxHeartbeats 4000000
namespace Lor
open PySem PySem.Spec PyProof.Rows L2
section
variable {P : Program} {w : World} {K : PySem.W.Frag} {mg : Str → Option Value} {base : Heap} {C CG : Addr} {tabs : Tabs} {al : Bool}
/-! ### Town.going -/
def spGoing (C CG : Addr) (tabs : Tabs) (al : Bool) : Sp := fun vs H Q _ => ∃ (A : ToA) (st : TS) (n : Nat), vs = [.ref A.p] ∧ TownAt C tabs al H st A n ∧ tabs.length ≤ 4 ∧ Fit tabs.length st.rows ∧
  ∀ (G : GA) (H' : Hp) (i : Nat), (∀ a ∈ G.all, H a = none) → Mv [] H H' → GoingAt CG H' (going (tabs.length + 1) st.rows) G i → Q (.ref G.p) H'
theorem sc301 : FnScope ["self", "found", "deed", "step"] ["self"] (defScope (inClass (top 30) 1)) := ⟨rfl, rfl, rfl, by decide +kernel, rfl, by decide +kernel, by decide +kernel⟩
theorem ok_going (D : MethAt K C "going" "Town.going" (inClass (top 30) 1)) (T : ToC K C) (TG : GoC K CG) (GI : LMak P w K mg base 1 "Going" CG (spGInit CG)) (GD : LMet P w K mg base 2 CG "do" (spGDo CG)) : LMet P w K mg base 3 C "going" (spGoing C CG tabs al) := by
  refine met_of T.cl D sc301 (fun _ _ _ _ _ _ us hl => match us, hl with | [_], _ => rfl) (fun vs H Q E h => ?_) (fun fa cdv Ar outer s H vs Q E hr h => ?_)
  · obtain ⟨A, st, n, rfl, _⟩ := h
    rfl
  · obtain ⟨A, st, n, rfl, hT, h4, hf, kq⟩ := h
    have nd := sc301.nd
    refine ⟨_, (pss_cons (ps_set (i := 1) nd rfl (Or.inl rfl) (pe_n GI hr (by decide) (pa_cons (pe_op op_add (pe_fld (pv 0) rfl) pe_int) pa_nil)))
 (pss_cons (ps_for PassesOwn.never rfl (pi_list (pe_fld (pv 0) rfl)) (pg_tup (n := 2) rfl (pgs_cons (pg_name (i := 2) nd rfl (Or.inl rfl)) (pgs_cons (pg_name (i := 3) nd rfl (Or.inl rfl)) pgs_nil)))
 (pss_one (ps_expr (pe_m GD hr (by decide) (pv 1) (pa_cons (pv 2) pa_nil)))))
 (pss_one (ps_ret (pv 1))))), ?_⟩
    obtain ⟨tv, _, ob⟩ := hT.tab
    obtain ⟨vs, hv, hA⟩ := hT.rows
    refine ⟨_, rfl, _, _, _, _, _, rfl, ob, T.cl, T.nMany, rfl, _, _, rfl, rfl, fun x dx nx ndx nex => ?_⟩
    refine ⟨x, dx, tabs.length + 1, rfl, by omega, upd_same, fun G H1 eG hG m1 g1 => ⟨rfl, ?_⟩⟩
    subst eG
    have m0 : Mv [] H H1 := ((Mv.new ndx).trans (Mv.new (by rw [upd_ne nex.symm]; exact nx)) |>.trans m1).weak (by simp [nx])
    have gn : ∀ a ∈ G.all, H a = none := fun a ha => by
      rcases hG a ha with rfl | h
      · exact nx
      · by_cases c1 : a = G.p
        · rw [c1]; exact nx
        · rw [upd_ne c1] at h
          by_cases c2 : a = dx
          · rw [c2]; exact ndx
          · rwa [upd_ne c2] at h
    refine ⟨_, rfl, _, _, _, _, _, rfl, m0.at ob (by simp), T.cl, T.nRows, rfl, A.lr, rfl, ⟨_, SqL.of (m0.at hv (by simp))⟩, ?_⟩
    refine for_list (xs := vs) (fun i σ H' => (∃ a b, σ = [some (.ref A.p), some (.ref G.p), a, b]) ∧ GoingAt CG H' (going (tabs.length + 1) (st.rows.take i)) G i ∧ Mv [] H H') ?_ ?_ ?_ ?_
    · exact ⟨⟨none, none, rfl⟩, g1, m0⟩
    · exact fun i σ H' _ p => SqL.of (p.2.2.at hv (by simp))
    · intro i x σ H' hx ⟨⟨u1, u2, hσ⟩, hg, hm⟩
      subst hσ
      obtain ⟨r, hr', ha⟩ := hA.getR hx
      obtain ⟨a, b, rfl, h1, h2⟩ := ha.mono hm.tk0
      have ok := hf.valid i r hr'
      have hi := lt_of_get hr'
      have hf2 := hf.few
      refine ⟨a, _, rfl, SqT.of h1, rfl, _, _, rfl, _, _, rfl, rfl, ?_⟩
      refine ⟨_, rfl, _, _, _, rfl, hg.ob, rfl, _, rfl, ?_⟩
      refine ⟨G, _, i, r.1, _, rfl, hg, ⟨b, rfl, h2⟩, by rw [going_wo]; exact Nat.lt_succ_of_le ok.hand, by omega, ?_, fun h f k e => (ok.take h f k e).2.2, fun H2 m2 g2 => ?_⟩
      · have := going_ls (tabs.length + 1) (st.rows.take i)
        rw [List.length_take] at this
        omega
      · refine ⟨⟨_, _, rfl⟩, ?_, ?_⟩
        · rw [take_snoc hr', going_snoc]; exact g2
        · exact ((hm.mono (by simp)).trans m2).weak fun a ha => .inr (gn a ha)
    · intro σ H' ⟨⟨u1, u2, hσ⟩, hg, hm⟩
      subst hσ
      refine ⟨_, rfl, kq G H' st.rows.length gn hm ?_⟩
      rw [← hA.len, List.take_length] at hg
      exact hg
end
end Lor
end

section
set_option Elab.async false
set_option linter.all false
set_option maxRecDepth 100000
set_option maxHeartbeats 4000000
namespace Lor
open PySem PySem.Spec PyProof.Rows L2
/-! ### class Bearing -/
structure BA where
  p : Addr
  dx : Addr
  lk : Addr
  db : Addr
  ds : Addr
  dt : Addr
  ks : List Addr
def BA.all (A : BA) : List Addr := A.p :: A.lk :: A.db :: A.ds :: A.dt :: A.ks
def bF (A : BA) : List (Str × V) := [("own_known", .ref A.lk), ("borne", .ref A.db), ("step_of", .ref A.ds), ("takers", .ref A.dt)]
def PairR (H : Hp) (q : Nm) (v : V) : Prop := ∃ a, v = .ref a ∧ H a = some (.tup [iN q.1, iN q.2])
theorem PairR.mono {H H' : Hp} {q : Nm} {v : V} (k : TK H H') (h : PairR H q v) : PairR H' q v := let ⟨a, e, x⟩ := h; ⟨a, e, k _ _ x⟩
def SetR (H : Hp) (all : List Addr) (S : List Nm) (v : V) : Prop := ∃ a, v = .ref a ∧ H a = some (.dT (setD S)) ∧ a ∉ all
structure BearAt (C : Addr) (H : Hp) (b : Bs) (A : BA) : Prop where
  nd : A.all.Nodup
  ob : H A.p = some (.ins C A.dx (bF A))
  kl : H A.lk = some (.lst (A.ks.map V.ref))
  kn : All2 (fun S a => H a = some (.dT (setD S))) b.kn A.ks
  bo : DictR H A.db (SetR H A.all) b.bo
  so : DictR H A.ds (PairR H) b.so
  ta : DictR H A.dt (PairR H) b.ta
structure BeC (K : PySem.W.Frag) (C : Addr) : Prop where
  cl : Cls K C
  nK : NoAttr K C "own_known"
  nB : NoAttr K C "borne"
  nS : NoAttr K C "step_of"
  nT : NoAttr K C "takers"
theorem All2.imp2 {α β : Type} {R S : α → β → Prop} : ∀ {xs : List α} {ys : List β}, All2 R xs ys → (∀ a b, b ∈ ys → R a b → S a b) → All2 S xs ys
  | _, _, .nil, _ => .nil
  | _, _, .cons h t, f => .cons (f _ _ List.mem_cons_self h) (All2.imp2 t fun a b hb => f a b (List.mem_cons_of_mem _ hb))
theorem All2.memR {α β : Type} {R : α → β → Prop} : ∀ {xs : List α} {ys : List β}, All2 R xs ys → ∀ b ∈ ys, ∃ a ∈ xs, R a b
  | _, _, .nil, _, h => by cases h
  | _, _, .cons h t, b, hb => by
    rcases List.mem_cons.mp hb with e | e
    · subst e; exact ⟨_, List.mem_cons_self, h⟩
    · obtain ⟨a, ha, r⟩ := All2.memR t b e
      exact ⟨a, List.mem_cons_of_mem _ ha, r⟩
theorem All2.setAt {α : Type} {R R' : α → Addr → Prop} {x : α} : ∀ {xs : List α} {ys : List Addr} {i : Nat} {b : Addr}, All2 R xs ys → ys.Nodup → ys[i]? = some b → R' x b → (∀ a c, c ≠ b → R a c → R' a c) → All2 R' (xs.set i x) ys
  | _, _, _, _, .nil, _, _, _, _ => .nil
  | _, _, 0, b, .cons (a := p) (b := c) h t, n, e, r, f => by
    have e' : c = b := by simpa using e
    subst e'
    exact .cons r (All2.imp2 t fun a d hd q => f a d (fun z => (List.nodup_cons.mp n).1 (z ▸ hd)) q)
  | _, _, i + 1, b, .cons (a := p) (b := c) h t, n, e, r, f => by
    have e' := (List.getElem?_cons_succ (a := c)).symm.trans e |> fun z => z
    have hb : b ∈ _ := List.mem_of_getElem? e'
    exact .cons (f _ _ (fun z => (List.nodup_cons.mp n).1 (z ▸ hb)) h) (All2.setAt t (List.nodup_cons.mp n).2 e' r f)
section
variable {C : Addr} {H H' : Hp} {b : Bs} {A : BA}
theorem BearAt.live (h : BearAt C H b A) : ∀ a ∈ A.all, ∃ o, H a = some o ∧ ∀ xs, o ≠ .tup xs := by
  intro a ha
  simp only [BA.all, List.mem_cons] at ha
  rcases ha with rfl | rfl | rfl | rfl | rfl | ha
  · exact ⟨_, h.ob, fun _ z => by cases z⟩
  · exact ⟨_, h.kl, fun _ z => by cases z⟩
  · obtain ⟨kvs, e, _⟩ := h.bo
    exact ⟨_, e, fun _ z => by cases z⟩
  · obtain ⟨kvs, e, _⟩ := h.so
    exact ⟨_, e, fun _ z => by cases z⟩
  · obtain ⟨kvs, e, _⟩ := h.ta
    exact ⟨_, e, fun _ z => by cases z⟩
  · obtain ⟨S, _, e⟩ := h.kn.memR a ha
    exact ⟨_, e, fun _ z => by cases z⟩
theorem BearAt.frame {S : List Addr} (h : BearAt C H b A) (m : Mv S H H') (k : TK H H') (d : ∀ a ∈ S, a ∉ A.all ∧ ∀ U, H a ≠ some (.dT (setD U))) : BearAt C H' b A where
  nd := h.nd
  ob := m.at h.ob fun z => (d _ z).1 (by simp [BA.all])
  kl := m.at h.kl fun z => (d _ z).1 (by simp [BA.all])
  kn := h.kn.imp2 fun U a ha e => m.at e fun z => (d _ z).1 (by simp [BA.all, ha])
  bo := by
    obtain ⟨kvs, e, r⟩ := h.bo
    exact ⟨kvs, m.at e fun z => (d _ z).1 (by simp [BA.all]), kv_imp r fun U v ⟨a, e1, e2, e3⟩ => ⟨a, e1, m.at e2 fun z => (d a z).2 U e2, e3⟩⟩
  so := by
    obtain ⟨kvs, e, r⟩ := h.so
    exact ⟨kvs, m.at e fun z => (d _ z).1 (by simp [BA.all]), kv_imp r fun U v q => q.mono k⟩
  ta := by
    obtain ⟨kvs, e, r⟩ := h.ta
    exact ⟨kvs, m.at e fun z => (d _ z).1 (by simp [BA.all]), kv_imp r fun U v q => q.mono k⟩
theorem BearAt.mv (h : BearAt C H b A) (m : Mv [] H H') : BearAt C H' b A := h.frame m m.tk0 (by simp)
theorem BearAt.tkU (h : BearAt C H b A) {a : Addr} {o : HO} (ha : a ∈ A.all) : TK H (upd H a o) := TK.upd fun xs z => by
  obtain ⟨o, e, n⟩ := h.live a ha
  rw [e] at z
  exact n xs (Option.some.inj z)
theorem BearAt.tk (h : BearAt C H b A) (f : Mv A.all H H') : TK H H' := f.tk fun a ha xs z => by
  obtain ⟨o, e, n⟩ := h.live a ha
  rw [e] at z
  exact n xs (Option.some.inj z)
structure BNe (A : BA) : Prop where
  pk : A.p ≠ A.lk
  pb : A.p ≠ A.db
  ps : A.p ≠ A.ds
  pt : A.p ≠ A.dt
  kb : A.lk ≠ A.db
  ks : A.lk ≠ A.ds
  kt : A.lk ≠ A.dt
  bs : A.db ≠ A.ds
  bt : A.db ≠ A.dt
  st : A.ds ≠ A.dt
  ap : A.p ∉ A.ks
  ak : A.lk ∉ A.ks
  ab : A.db ∉ A.ks
  as_ : A.ds ∉ A.ks
  at_ : A.dt ∉ A.ks
  nd : A.ks.Nodup
theorem BNe.of (h : A.all.Nodup) : BNe A := by
  unfold BA.all at h
  simp only [List.nodup_cons, List.mem_cons, not_or] at h
  obtain ⟨⟨a1, a2, a3, a4, a5⟩, ⟨b1, b2, b3, b4⟩, ⟨c1, c2, c3⟩, ⟨d1, d2⟩, e1, n⟩ := h
  exact ⟨a1, a2, a3, a4, b1, b2, b3, c1, c2, d1, a5, b4, c3, d2, e1, n⟩
theorem SetR.upd {all : List Addr} {S : List Nm} {v : V} {a : Addr} {o : HO} (ha : a ∈ all) (h : SetR H all S v) : SetR (L2.upd H a o) all S v := by
  obtain ⟨c, e1, e2, e3⟩ := h
  exact ⟨c, e1, by rw [upd_ne (fun z => e3 (by rw [z]; exact ha))]; exact e2, e3⟩
theorem BearAt.setKn (h : BearAt C H b A) {i : Nat} {a : Addr} {S : List Nm} (e : A.ks[i]? = some a) : BearAt C (upd H a (.dT (setD S))) { b with kn := b.kn.set i S } A := by
  have n := BNe.of h.nd
  have hm : a ∈ A.ks := List.mem_of_getElem? e
  have ha : a ∈ A.all := by simp [BA.all, hm]
  have k : TK H (upd H a (.dT (setD S))) := h.tkU ha
  refine ⟨h.nd, ?_, ?_, ?_, ?_, ?_, ?_⟩
  · rw [upd_ne (mem_ne hm n.ap).symm]; exact h.ob
  · rw [upd_ne (mem_ne hm n.ak).symm]; exact h.kl
  · exact h.kn.setAt n.nd e upd_same fun U c hc q => by rw [upd_ne hc]; exact q
  · exact h.bo.mono (upd_ne (mem_ne hm n.ab).symm) fun _ _ z => z.upd ha
  · exact h.so.mono (upd_ne (mem_ne hm n.as_).symm) fun _ _ z => z.mono k
  · exact h.ta.mono (upd_ne (mem_ne hm n.at_).symm) fun _ _ z => z.mono k
theorem BearAt.putBo (h : BearAt C H b A) {kvs : List (List Key × V)} {q : Nm} {S : List Nm} {v : V} (e : H A.db = some (.dT kvs)) (a : All2 (KvR (SetR H A.all)) b.bo kvs) (r : SetR H A.all S v) :
    BearAt C (upd H A.db (.dT (putK kvs (nk q) v))) { b with bo := aput b.bo q S } A := by
  have n := BNe.of h.nd
  have ha : A.db ∈ A.all := by simp [BA.all]
  have k : TK H (upd H A.db (.dT (putK kvs (nk q) v))) := h.tkU ha
  refine ⟨h.nd, ?_, ?_, ?_, ?_, ?_, ?_⟩
  · rw [upd_ne n.pb]; exact h.ob
  · rw [upd_ne n.kb]; exact h.kl
  · exact h.kn.imp2 fun U c hc q => by rw [upd_ne (mem_ne hc n.ab)]; exact q
  · exact ⟨_, upd_same, kv_imp (kv_put a r) fun _ _ z => z.upd ha⟩
  · exact h.so.mono (upd_ne n.bs.symm) fun _ _ z => z.mono k
  · exact h.ta.mono (upd_ne n.bt.symm) fun _ _ z => z.mono k
theorem BearAt.putSo (h : BearAt C H b A) {kvs : List (List Key × V)} {q x : Nm} {v : V} (e : H A.ds = some (.dT kvs)) (a : All2 (KvR (PairR H)) b.so kvs) (r : PairR H x v) :
    BearAt C (upd H A.ds (.dT (putK kvs (nk q) v))) { b with so := aput b.so q x } A := by
  have n := BNe.of h.nd
  have ha : A.ds ∈ A.all := by simp [BA.all]
  have k : TK H (upd H A.ds (.dT (putK kvs (nk q) v))) := h.tkU ha
  refine ⟨h.nd, ?_, ?_, ?_, ?_, ?_, ?_⟩
  · rw [upd_ne n.ps]; exact h.ob
  · rw [upd_ne n.ks]; exact h.kl
  · exact h.kn.imp2 fun U c hc q => by rw [upd_ne (mem_ne hc n.as_)]; exact q
  · exact h.bo.mono (upd_ne n.bs) fun _ _ z => z.upd ha
  · exact ⟨_, upd_same, kv_imp (kv_put a r) fun _ _ z => z.mono k⟩
  · exact h.ta.mono (upd_ne n.st.symm) fun _ _ z => z.mono k
theorem BearAt.putTa (h : BearAt C H b A) {kvs : List (List Key × V)} {q x : Nm} {v : V} (e : H A.dt = some (.dT kvs)) (a : All2 (KvR (PairR H)) b.ta kvs) (r : PairR H x v) :
    BearAt C (upd H A.dt (.dT (putK kvs (nk q) v))) { b with ta := aput b.ta q x } A := by
  have n := BNe.of h.nd
  have ha : A.dt ∈ A.all := by simp [BA.all]
  have k : TK H (upd H A.dt (.dT (putK kvs (nk q) v))) := h.tkU ha
  refine ⟨h.nd, ?_, ?_, ?_, ?_, ?_, ?_⟩
  · rw [upd_ne n.pt]; exact h.ob
  · rw [upd_ne n.kt]; exact h.kl
  · exact h.kn.imp2 fun U c hc q => by rw [upd_ne (mem_ne hc n.at_)]; exact q
  · exact h.bo.mono (upd_ne n.bt) fun _ _ z => z.upd ha
  · exact h.so.mono (upd_ne n.st) fun _ _ z => z.mono k
  · exact ⟨_, upd_same, kv_imp (kv_put a r) fun _ _ z => z.mono k⟩
end
theorem all2_rep {α β : Type} {R : α → β → Prop} {x : α} : ∀ {ys : List β}, (∀ a ∈ ys, R x a) → All2 R (List.replicate ys.length x) ys
  | [], _ => .nil
  | a :: r, h => .cons (h a List.mem_cons_self) (all2_rep fun b hb => h b (List.mem_cons_of_mem _ hb))
def wd : Deed → Str
  | .own _ _ => "own"
  | .send _ _ => "send"
  | .take _ _ _ => "take"
  | .keep _ => "keep"
theorem enc2 (d : Deed) (v : V) : (enc d).take 2 ++ [v] = .str (wd d) :: iN d.hand :: [v] := by cases d <;> rfl
theorem enc_len (d : Deed) : 2 ≤ (enc d).length := by cases d <;> (show 2 ≤ _; simp [enc])
theorem box_apart {many : Nat} {S : List Nm} (h : Box many S) (hm : many ≤ 4) : Apart ((setD S).map (·.1)) := by
  rw [setD_keys]
  exact apart_of h.nd fun q hq => by have := h.low q hq; omega
theorem box_few {many : Nat} {S : List Nm} (h : Box many S) (hm : many ≤ 4) : S.length ≤ 170 := by
  have hs : S ⊆ boxAll := fun q hq => mem_box (by have := h.low q hq; omega) (by have := h.low q hq; omega)
  exact (List.Nodup.length_le_of_subset h.nd hs)
section
variable {P : Program} {w : World} {K : PySem.W.Frag} {mg : Str → Option Value} {base : Heap} {C : Addr}
theorem rd_ownif {many h s : Nat} {A : BA} {b : Bs} {σ : L2.St} {H : Hp} {D : Ends} (T : BeC K C) (hB : BearAt C H b A) (s0 : σ[0]? = some (some (.ref A.p))) (s1 : σ[1]? = some (some (iN many))) (s5 : σ[5]? = some (some (iN s))) (s7 : σ[7]? = some (some (iN h)))
    (hh : h < b.kn.length) (box : ∀ S ∈ b.kn, Box many S) (h4 : many ≤ 4) (k : ∀ H', Mv A.all H H' → BearAt C H' { b with kn := bown many b.kn h s } A → D.nx σ H') :
    tIfS (tAnd (tTest (tOp (rI0 fun i j => V.bl (decide (i < j))) (tVar 7) (tVar 1))) (tTest (tOp (rI0 fun i j => V.bl (decide (j < i))) (tVar 5) (tC (V.int 0)))))
      (sDPut (tOp (rIxL K) (tFld K (tVar 0) "own_known") (tVar 7)) (tTup (tCons (tVar 7) (tCons (tVar 5) tNil))) (tC (V.bl true))) tNext D σ H := by
  have no : ¬ (h < many ∧ 0 < s) → D.nx σ H := fun c => k H (Mv.refl _ _) (by unfold bown; rw [if_neg c]; exact hB)
  refine ⟨_, s7, _, s1, _, _, rfl, rfl, _, rfl, ?_⟩
  refine ite2 (fun c => ?_) (fun c => ?_)
  · have c1 : h < many := by have := of_decide_eq_true c; omega
    refine ⟨_, s5, _, _, rfl, rfl, _, rfl, ?_⟩
    refine ite2 (fun d => ?_) (fun d => ?_)
    · have d1 : 0 < s := by have := of_decide_eq_true d; omega
      have hn : h < A.ks.length := by rw [← hB.kn.len]; exact hh
      have ea : A.ks[h]? = some A.ks[h] := List.getElem?_eq_getElem hn
      obtain ⟨S, hS, eS⟩ := hB.kn.getR ea
      have eS2 : b.kn.getD h [] = S := by rw [List.getD_eq_getElem?_getD, hS]; rfl
      have bx := box S (List.mem_of_getElem? hS)
      refine ⟨_, s0, _, _, _, _, _, rfl, hB.ob, T.cl, T.nK, rfl, _, s7, _, _, _, _, rfl, rfl, SqL.of hB.kl, atI_nat (v := V.ref A.ks[h]) (by rw [List.getElem?_map, ea]; rfl), ?_⟩
      refine ⟨_, s7, _, s5, (by show 2 ≤ sizeLine; decide), fun t nt => ?_⟩
      have et : upd H t (.tup [iN h, iN s]) t = some (.tup [iN h, iN s]) := upd_same
      have eS3 : upd H t (.tup [iN h, iN s]) A.ks[h] = some (.dT (setD S)) := by rw [upd_ne (ne_none (some_ne eS) nt)]; exact eS
      have M1 : Mv A.all H (upd H t (.tup [iN h, iN s])) := Mv.new nt
      have hB1 := hB.mv (Mv.new (o := .tup [iN h, iN s]) nt)
      generalize upd H t (.tup [iN h, iN s]) = H1 at *
      refine ⟨_, _, rfl, DPut.t (k := nk (h, s)) eS3 et (by rw [setD_len]; exact Nat.lt_of_le_of_lt (box_few bx h4) (by decide)), ?_⟩
      rw [setD_add]
      refine k _ (M1.trans (Mv.upd (by simp [BA.all]))) ?_
      unfold bown
      rw [if_pos ⟨c1, d1⟩, eS2]
      exact hB1.setKn ea
    · exact no fun z => d (by have := z.2; simp; omega)
  · exact no fun z => c (by have := z.1; simp; omega)
/-- a list of one thing, many times: the times by any expression -/
theorem rd_rep' {v : V} {m : Nat} {ty : TE} {σ : L2.St} {H : Hp} {Q : VK} (hs : ∀ (H : Hp) (Q : VK), Q (iN m) H → ty σ H Q) (hm : m ≤ 1000) (k : ∀ (a : Addr) (H' : Hp), H a = none → H' a = some (.lst (List.replicate m v)) → Mv [] H H' → Q (.ref a) H') :
    tOp rRep (tLst (tCons (tC v) tNil)) ty σ H Q := by
  refine ⟨(by decide : 1 ≤ sizeLine), fun l0 n0 => hs _ _ ⟨l0, m, _, rfl, rfl, upd_same, by omega, by omega, by show 1 * ((m : Int)).toNat ≤ sizeLine; rw [Int.toNat_natCast]; exact Nat.le_trans (by omega : 1 * m ≤ 1000) (by decide), fun lw nw => ?_⟩⟩
  rw [rep_flat]
  exact k lw _ ((Mv.new (S := []) n0).none nw) upd_same ((Mv.new n0).trans (Mv.new nw))
def spBInit (C : Addr) : Sp := fun vs H Q _ => ∃ (p dx lr : Addr) (many : Nat) (rows : List Row), vs = [.ref p, iN many, .ref lr] ∧ H p = some (.ins C dx []) ∧ LstR H lr (RowAt H) rows ∧ many ≤ 4 ∧ Fit many rows ∧
  ∀ (A : BA) (H' : Hp), A.p = p → (∀ a ∈ A.all, a = p ∨ H a = none) → Mv [p] H H' → BearAt C H' (bearing many rows) A → Q .non H'
theorem sc290 : FnScope ["self", "many", "rows", "sent", "deed", "step", "word", "hand", "rest"] ["self", "many", "rows"] (defScope (inClass (top 29) 0)) := ⟨rfl, rfl, rfl, by decide +kernel, rfl, by decide +kernel, by decide +kernel⟩
theorem hu20 {A : Around} {k : Nat} (hr : Room k A) : A.units + 20 < cLine := Nat.lt_of_le_of_lt (Nat.add_le_add_left (by decide : 20 ≤ 64) _) hr.units
theorem ok_binit (D : MkAt K mg "Bearing" C "Bearing.__init__" (inClass (top 29) 0)) (B : Bl mg) (T : BeC K C) : LMak P w K mg base 1 "Bearing" C (spBInit C) := by
  refine mak_of D sc290 (fun _ _ _ _ _ _ us hl => match us, hl with | [_, _, _], _ => rfl) (fun vs H Q E h => ?_) (fun f cdv Ar outer s H vs Q E hr h => ?_)
  · obtain ⟨p, dx, lr, many, rows, rfl, _⟩ := h
    rfl
  · obtain ⟨p, dx, lr, many, rows, rfl, hp, ⟨vs, hv, hA⟩, h4, hf, kq⟩ := h
    have nd := sc290.nd
    refine ⟨_, (pss_cons (ps_fld (pv 0) (pe_lc (own := [("hand", 7)]) (g := gName 7) (tt := tYes) rfl nd (pi_range1 (by rfl) B.range (pa_cons (pe_op op_add (pv 1) pe_int) pa_nil)) (blkOk_by (own := [("hand", 7)]) (N := ["self", "many", "rows", "sent", "deed", "step", "word", "hand", "rest"]) (sc := defScope (inClass (top 29) 0)) (by decide +kernel)) (fun _ _ _ _ _ => (pg_name (i := 7) nd rfl (Or.inl rfl))) (fun _ _ _ _ _ => pts_nil) (fun _ _ _ _ _ => pe_dnewT)) rfl)
 (pss_cons (ps_fld (pv 0) pe_dnewT rfl)
 (pss_cons (ps_fld (pv 0) pe_dnewT rfl)
 (pss_cons (ps_fld (pv 0) pe_dnewT rfl)
 (pss_cons (ps_set (i := 3) nd rfl (Or.inl rfl) (pe_op op_rep (pe_lst (pa_cons pe_int pa_nil)) (pe_op op_add (pv 1) pe_int)))
 (pss_one (ps_for PassesOwn.never rfl (pi_list (pv 2)) (pg_tup (n := 2) rfl (pgs_cons (pg_name (i := 4) nd rfl (Or.inl rfl)) (pgs_cons (pg_name (i := 5) nd rfl (Or.inl rfl)) pgs_nil)))
 (pss_cons (ps_asg (pv 4) (pg_star (k := 2) rfl (pgs_cons (pg_name (i := 6) nd rfl (Or.inl rfl)) (pgs_cons (pg_name (i := 7) nd rfl (Or.inl rfl)) (pgs_cons (pg_name (i := 8) nd rfl (Or.inl rfl)) pgs_nil)))))
 (pss_cons (ps_if (PW.pt (pw_and (pt_cmpR op_lt (pv 7) (pv 1) (nomark _)) (pw_and1 (pt_cmpR op_gt (pv 5) pe_int (nomark _)))))
 (pss_one (ps_dput (hu_of hr) (pe_ix ix_list (pe_fld (pv 0) rfl) (pv 7) (fun _ _ => rfl)) (pe_tup (pa_cons (pv 7) (pa_cons (pv 5) pa_nil))) pe_bl rfl))
 pss_nil)
 (pss_one (ps_if (pt_cmpR op_eq (pv 6) pe_str (nomark _))
 (pss_cons (ps_expr (pe_bm PySem.F.plainAttrs_dict PySem.F.slot_dict_update PySem.F.type_dict_update (mt_updT (hu_of hr)) (pe_ix ix_list (pe_fld (pv 0) rfl) (pv 7) (fun _ _ => rfl)) (pa_cons (pe_dget (hu_of hr) (pe_fld (pv 0) rfl) (pe_tup (pa_cons (pe_ix ix_list (pv 8) pe_int (fun _ _ => rfl)) (pa_cons (pe_ix ix_list (pv 8) pe_int (fun _ _ => rfl)) pa_nil))) (fun _ _ => rfl)) pa_nil)))
 (pss_one (ps_dput (hu_of hr) (pe_fld (pv 0) rfl) (pe_tup (pa_cons (pe_ix ix_list (pv 8) pe_int (fun _ _ => rfl)) (pa_cons (pe_ix ix_list (pv 8) pe_int (fun _ _ => rfl)) pa_nil))) (pe_tup (pa_cons (pv 7) (pa_cons (pv 5) pa_nil))) rfl)))
 (pss_one (ps_if (pt_cmpR op_eq (pv 6) pe_str (nomark _))
 (pss_cons (ps_dput (hu_of hr) (pe_fld (pv 0) rfl) (pe_tup (pa_cons (pv 7) (pa_cons (pe_ix ix_list (pv 3) (pv 7) (fun _ _ => rfl)) pa_nil))) (pe_callTy (call_dictT (hu20 hr)) (by rfl) B.dict (by decide +kernel) (pa_cons (pe_ix ix_list (pe_fld (pv 0) rfl) (pv 7) (fun _ _ => rfl)) pa_nil)) rfl)
 (pss_cons (ps_dput (hu_of hr) (pe_fld (pv 0) rfl) (pe_tup (pa_cons (pv 7) (pa_cons (pe_ix ix_list (pv 3) (pv 7) (fun _ _ => rfl)) pa_nil))) (pe_tup (pa_cons (pv 7) (pa_cons (pv 5) pa_nil))) rfl)
 (pss_one (ps_augS (pv 3) (pv 7) get_list pe_int ip_add set_list))))
 pss_nil))))))))))))), ?_⟩
    refine ⟨_, rfl, _, _, rfl, rfl, many + 1, rfl, by omega, by omega, fun lk nlk => ?_⟩
    refine lc_range (lo := 0) (n := many + 1) (fun i H' => ∃ as : List Addr, as.length = i ∧ as.Nodup ∧ H' lk = some (.lst (as.map V.ref)) ∧ (∀ a ∈ as, H a = none ∧ a ≠ lk ∧ H' a = some (.dT [])) ∧ Mv [] H H') ?_ ?_ ?_
    · exact ⟨[], rfl, .nil, upd_same, by simp, Mv.new nlk⟩
    · intro i H' hi ⟨as, hl, hn, hL, hA2, hM⟩
      refine ⟨rfl, fun a na => ⟨as.map V.ref, ?_, ?_, as ++ [a], ?_, ?_, ?_, ?_, ?_⟩⟩
      · rw [upd_ne (ne_none (some_ne hL) na)]; exact hL
      · rw [List.length_map, hl]; exact Nat.lt_of_lt_of_le hi (Nat.le_trans (Nat.succ_le_succ h4) (by decide))
      · rw [List.length_append, hl]; rfl
      · refine List.nodup_append.mpr ⟨hn, by simp, fun x hx y hy => ?_⟩
        simp at hy; subst hy
        exact ne_none (some_ne (hA2 x hx).2.2) na
      · rw [upd_same, List.map_append]; rfl
      · intro x hx
        rcases List.mem_append.mp hx with hx | hx
        · obtain ⟨h1, h2, h3⟩ := hA2 x hx
          exact ⟨h1, h2, by rw [upd_ne h2, upd_ne (ne_none (some_ne h3) na)]; exact h3⟩
        · simp at hx; subst hx
          have c : x ≠ lk := (ne_none (some_ne hL) na).symm
          exact ⟨hM.none na, c, by rw [upd_ne c, upd_same]⟩
      · exact (hM.trans (Mv.new na)).own nlk
    · intro H1' ⟨ks, hl, hn, hL, hA2, hM⟩
      have np : ∀ {a : Addr}, H a = none → a ≠ p := fun n => (ne_none (some_ne hp) n).symm
      have pl : ∀ {a : Addr}, H a = none → a ∉ [p] := fun n => by simp; exact np n
      refine rd_setf rfl (hM.at hp (by simp)) T.cl T.nK (fs' := [("own_known", .ref lk)]) rfl fun H1 hp1 N1 => ?_
      have ek1 := N1.at hL (pl nlk)
      have ea1 : ∀ a ∈ ks, H1 a = some (.dT []) := fun a ha => N1.at (hA2 a ha).2.2 (pl (hA2 a ha).1)
      have M1 : Mv [p] H H1 := (hM.mono (by simp)).trans N1
      have na0 := fun a ha => (hA2 a ha).1
      have nak := fun a ha => (hA2 a ha).2.1
      clear hL hA2 hM N1
      refine fun db nb => ?_
      refine rd_setf rfl ((Mv.new (S := []) nb).at hp1 (by simp)) T.cl T.nB (fs' := [("own_known", .ref lk), ("borne", .ref db)]) rfl fun H2 hp2 N2 => ?_
      have eb2 := N2.at (upd_same (H := H1) (a := db)) (pl (M1.none nb))
      have M2 : Mv [p] H1 H2 := (Mv.new nb).trans N2
      clear N2
      refine fun ds ns => ?_
      refine rd_setf rfl ((Mv.new (S := []) ns).at hp2 (by simp)) T.cl T.nS (fs' := [("own_known", .ref lk), ("borne", .ref db), ("step_of", .ref ds)]) rfl fun H3 hp3 N3 => ?_
      have es3 := N3.at (upd_same (H := H2) (a := ds)) (pl (M1.none (M2.none ns)))
      have M3 : Mv [p] H2 H3 := (Mv.new ns).trans N3
      clear N3
      refine fun dt nt => ?_
      refine rd_setf rfl ((Mv.new (S := []) nt).at hp3 (by simp)) T.cl T.nT (fs' := [("own_known", .ref lk), ("borne", .ref db), ("step_of", .ref ds), ("takers", .ref dt)]) rfl fun H4 hp4 N4 => ?_
      have et4 := N4.at (upd_same (H := H3) (a := dt)) (pl (M1.none (M2.none (M3.none nt))))
      have M4 : Mv [p] H3 H4 := (Mv.new nt).trans N4
      clear N4
      have M34 := M3.trans M4
      have M24 := M2.trans M34
      have M04 := M1.trans M24
      have nb0 := M1.none nb
      have ns0 := M1.none (M2.none ns)
      have nt0 := M1.none (M2.none (M3.none nt))
      have hB : BearAt C H4 (bearing many []) ⟨p, dx, lk, db, ds, dt, ks⟩ := by
        refine ⟨?_, hp4, M24.at ek1 (pl nlk), ?_, ⟨[], M34.at eb2 (pl nb0), .nil⟩, ⟨[], M4.at es3 (pl ns0), .nil⟩, ⟨[], et4, .nil⟩⟩
        · have x1 : ∀ b, H1 b = none → b ≠ lk := fun b n => (ne_none (some_ne ek1) n).symm
          have x1a : ∀ b, H1 b = none → b ∉ ks := fun b n c => (ne_none (some_ne (ea1 b c)) n) rfl
          have x2 : ∀ b, H2 b = none → b ≠ db := fun b n => (ne_none (some_ne eb2) n).symm
          have x3 : ∀ b, H3 b = none → b ≠ ds := fun b n => (ne_none (some_ne es3) n).symm
          have a1 : db ≠ lk := x1 _ nb
          have a2 : ds ≠ lk := x1 _ (M2.none ns)
          have a3 : dt ≠ lk := x1 _ (M2.none (M3.none nt))
          have a4 : lk ∉ ks := fun c => nak lk c rfl
          have b1 : db ∉ ks := x1a _ nb
          have b2 : ds ∉ ks := x1a _ (M2.none ns)
          have b3 : dt ∉ ks := x1a _ (M2.none (M3.none nt))
          have c1 : ds ≠ db := x2 _ ns
          have c2 : dt ≠ db := x2 _ (M3.none nt)
          have d1 : dt ≠ ds := x3 _ nt
          have e1 : p ∉ ks := fun c => np (na0 p c) rfl
          simp only [BA.all, List.nodup_cons, List.mem_cons, not_or]
          exact ⟨⟨(np nlk).symm, (np nb0).symm, (np ns0).symm, (np nt0).symm, e1⟩, ⟨a1.symm, a2.symm, a3.symm, a4⟩, ⟨c1.symm, c2.symm, b1⟩, ⟨d1.symm, b2⟩, b3, hn⟩
        · have hk : ∀ a ∈ ks, H4 a = some (.dT []) := fun a ha => M24.at (ea1 a ha) (pl (na0 a ha))
          show All2 _ (List.replicate (many + 1) []) ks
          rw [← hl]
          exact all2_rep hk
      have hall : ∀ a ∈ (⟨p, dx, lk, db, ds, dt, ks⟩ : BA).all, a = p ∨ H a = none := by
        intro a ha
        simp only [BA.all, List.mem_cons] at ha
        rcases ha with rfl | rfl | rfl | rfl | rfl | ha
        · exact .inl rfl
        · exact .inr nlk
        · exact .inr nb0
        · exact .inr ns0
        · exact .inr nt0
        · exact .inr (na0 a ha)
      refine rd_rep' (m := many + 1) (fun H Q q => ⟨_, rfl, _, _, rfl, rfl, q⟩) (by omega) fun ls H5 nls els M5 => ?_
      have hB5 := hB.mv M5
      have M05 : Mv [p] H H5 := M04.trans (M5.mono (by simp))
      have nls0 : ls ∉ (⟨p, dx, lk, db, ds, dt, ks⟩ : BA).all := fun z => by
        obtain ⟨o, e, _⟩ := hB.live ls z
        rw [e] at nls; cases nls
      have nls1 : H ls = none := M04.none nls
      generalize hBA : (⟨p, dx, lk, db, ds, dt, ks⟩ : BA) = A at *
      have ep : A.p = p := by rw [← hBA]
      clear hBA hB es3 et4 eb2 ek1 ea1 hp1 hp2 hp3 hp4
      refine ⟨_, rfl, lr, rfl, ⟨_, SqL.of (M05.at hv (by simp; exact fun z => by rw [z, hp] at hv; cases hv))⟩, ?_⟩
      refine for_list (xs := vs) (fun i σ H' => (∃ a b c d e, σ = [some (.ref p), some (iN many), some (.ref lr), some (.ref ls), a, b, c, d, e]) ∧ BearAt C H' (bearing many (rows.take i)) A ∧ NatsL H' ls (bearing many (rows.take i)).se ∧ Mv [p] H H') ?_ ?_ ?_ ?_
      · refine ⟨⟨_, _, _, _, _, rfl⟩, hB5, ?_, M05⟩
        unfold NatsL
        rw [els]
        show some (HO.lst (List.replicate (many + 1) (V.int 0))) = some (HO.lst ((List.replicate (many + 1) 0).map iN))
        rw [List.map_replicate]; rfl
      · exact fun i σ H' _ q => SqL.of (q.2.2.2.at hv (by simp; exact fun z => by rw [z, hp] at hv; cases hv))
      · intro i x σ H' hx ⟨⟨u1, u2, u3, u4, u5, hσ⟩, hg, hs, hm⟩
        subst hσ
        obtain ⟨r, hr', ha⟩ := hA.getR hx
        have hmk : TK H H' := hm.tk (by simp [hp])
        obtain ⟨a, b, rfl, h1, h2⟩ := ha.mono hmk
        have ok := hf.valid i r hr'
        have hi := lt_of_get hr'
        have hf2 := hf.few
        have bi := binv_take hf.valid i (Nat.le_of_lt hi)
        have e1 := bearing_snoc many (rows.take i) r
        rw [← take_snoc hr'] at e1
        rw [e1]
        clear e1
        have il : (rows.take i).length ≤ 1000 := by rw [List.length_take]; omega
        generalize going (many + 1) (rows.take i) = g at *
        generalize bearing many (rows.take i) = bb at *
        obtain ⟨d, s⟩ := r
        refine ⟨a, _, rfl, SqT.of h1, rfl, _, _, rfl, _, _, rfl, rfl, ?_⟩
        refine ⟨_, rfl, b, _, rfl, SqT.of h2, enc_len d, fun rr nr => ?_⟩
        have er : upd H' rr (.lst ((enc d).drop 2)) rr = some (.lst ((enc d).drop 2)) := upd_same
        have M1' : Mv [] H' (upd H' rr (.lst ((enc d).drop 2))) := Mv.new nr
        generalize upd H' rr (.lst ((enc d).drop 2)) = G1 at *
        refine ⟨_, _, enc2 d _, _, _, rfl, _, _, rfl, rfl, ?_⟩
        refine rd_ownif T (hg.mv M1') (by rw [ep]; rfl) rfl rfl rfl (by rw [bi.kl]; exact Nat.lt_succ_of_le ok.hand) bi.kn h4 fun G2 m2 hB2 => ?_
        have hs2 : NatsL G2 ls bb.se := m2.at (M1'.at hs (by simp)) nls0
        have er2 : G2 rr = some (.lst ((enc d).drop 2)) := m2.at er fun z => by
          obtain ⟨o, e, _⟩ := hg.live rr z
          rw [e] at nr; cases nr
        have Mall : Mv A.all H' G2 := (M1'.mono (by simp)).trans m2
        have fin : ∀ {G3 : Hp}, Mv A.all G2 G3 → Mv [p] H G3 := fun m => ((hm.mono (S' := A.all) (by simp [← ep, BA.all])).trans (Mall.trans m)).weak fun a ha => (hall a ha).imp (fun e => by simp [e]) id
        have hkl : (bown many bb.kn d.hand s).length = many + 1 := bown_len.trans bi.kl
        have hkb := bown_box (h := d.hand) bi.kl bi.kn ok.step
        have hg0 := hg.live
        clear hs h1 h2 hg ha M1' er
        cases d with
        | own h x => exact ⟨_, rfl, rfl, _, rfl, str_no (by simp only [wd]; decide) ⟨_, rfl, rfl, _, rfl, str_no (by simp only [wd]; decide) ⟨⟨_, _, _, _, _, rfl⟩, hB2, hs2, fin (Mv.refl _ _)⟩⟩⟩
        | keep h => exact ⟨_, rfl, rfl, _, rfl, str_no (by simp only [wd]; decide) ⟨_, rfl, rfl, _, rfl, str_no (by simp only [wd]; decide) ⟨⟨_, _, _, _, _, rfl⟩, hB2, hs2, fin (Mv.refl _ _)⟩⟩⟩
        | send h to =>
          dsimp only [Deed.hand]
          refine ⟨_, rfl, rfl, _, rfl, str_no (by simp only [wd]; decide) ⟨_, rfl, rfl, _, rfl, str_yes ?_⟩⟩
          replace hkl : (bown many bb.kn h s).length = many + 1 := hkl
          replace hB2 : BearAt C G2 { bb with kn := bown many bb.kn h s } A := hB2
          have hh : h < A.ks.length := by rw [← hB2.kn.len]; show h < (bown many bb.kn h s).length; rw [hkl]; exact Nat.lt_succ_of_le ok.hand
          have ea : A.ks[h]? = some A.ks[h] := List.getElem?_eq_getElem hh
          have ea' : (A.ks.map V.ref)[h]? = some (V.ref A.ks[h]) := by rw [List.getElem?_map, ea]; rfl
          obtain ⟨S, hS, eS⟩ := hB2.kn.getR ea
          replace hS : (bown many bb.kn h s)[h]? = some S := hS
          have eS2 : (bown many bb.kn h s).getD h [] = S := by rw [List.getD_eq_getElem?_getD, hS]; rfl
          have bx := hkb S (List.mem_of_getElem? hS)
          have hse : bb.se[h]? = some (bb.se.getD h 0) := getD_get (by rw [bi.sl]; exact Nat.lt_succ_of_le ok.hand)
          refine ⟨_, rfl, _, _, _, _, _, rfl, by rw [← ep]; exact hB2.ob, T.cl, T.nK, rfl, _, rfl, _, _, _, _, rfl, rfl, SqL.of hB2.kl, atI_nat ea', ?_⟩
          refine ⟨A.ks[h], setD S, rfl, eS, box_apart bx h4, fun c nc => ?_⟩
          have ec : upd G2 c (.dT (setD S)) c = some (.dT (setD S)) := upd_same
          have M3 : Mv [] G2 (upd G2 c (.dT (setD S))) := Mv.new nc
          have hB3 := hB2.mv M3
          have cn : c ∉ A.all := fun z => by
            obtain ⟨o, e, _⟩ := hB2.live c z
            rw [e] at nc; cases nc
          generalize upd G2 c (.dT (setD S)) = G3 at *
          have hs3 := M3.at hs2 (by simp)
          refine ⟨_, rfl, _, _, _, _, _, rfl, by rw [← ep]; exact hB3.ob, T.cl, T.nB, rfl, _, rfl, _, rfl, _, rfl, _, _, _, _, rfl, rfl, SqL.of hs3, atI_nat (nats_get hse), (by show 2 ≤ sizeLine; decide), fun t nt => ?_⟩
          have et : upd G3 t (.tup [iN h, iN (bb.se.getD h 0)]) t = some (.tup [iN h, iN (bb.se.getD h 0)]) := upd_same
          have M4' : Mv [] G3 (upd G3 t (.tup [iN h, iN (bb.se.getD h 0)])) := Mv.new nt
          have hB4 := hB3.mv M4'
          have ec4 := M4'.at ec (by simp)
          have hs4 := M4'.at hs3 (by simp)
          show ∃ _ _, _
          generalize upd G3 t (.tup [iN h, iN (bb.se.getD h 0)]) = G4 at *
          obtain ⟨kvs, hD, hAl⟩ := hB4.bo
          refine ⟨A.db, _, rfl, DPut.t (k := nk (h, bb.se.getD h 0)) hD et (by rw [← hAl.len]; exact Nat.lt_of_le_of_lt (Nat.le_trans bi.bol il) (by decide)), ?_⟩
          have hB5' := hB4.putBo (q := (h, bb.se.getD h 0)) (S := S) hD hAl ⟨c, rfl, ec4, cn⟩
          have M5' : Mv A.all G4 (upd G4 A.db (.dT (putK kvs (nk (h, bb.se.getD h 0)) (.ref c)))) := Mv.upd (by simp [BA.all])
          have hs5 := M5'.at hs4 nls0
          generalize upd G4 A.db (.dT (putK kvs (nk (h, bb.se.getD h 0)) (.ref c))) = G5 at *
          refine ⟨_, rfl, _, rfl, (by show 2 ≤ sizeLine; decide), fun u nu => ?_⟩
          have eu : upd G5 u (.tup [iN h, iN s]) u = some (.tup [iN h, iN s]) := upd_same
          have M6' : Mv [] G5 (upd G5 u (.tup [iN h, iN s])) := Mv.new nu
          have hB6 := hB5'.mv M6'
          have hs6 := M6'.at hs5 (by simp)
          show L2.tFld _ _ _ _ _ _
          generalize upd G5 u (.tup [iN h, iN s]) = G6 at *
          refine ⟨_, rfl, _, _, _, _, _, rfl, by rw [← ep]; exact hB6.ob, T.cl, T.nS, rfl, _, rfl, _, rfl, _, rfl, _, _, _, _, rfl, rfl, SqL.of hs6, atI_nat (nats_get hse), (by show 2 ≤ sizeLine; decide), fun t2 nt2 => ?_⟩
          have et2 : upd G6 t2 (.tup [iN h, iN (bb.se.getD h 0)]) t2 = some (.tup [iN h, iN (bb.se.getD h 0)]) := upd_same
          have M7' : Mv [] G6 (upd G6 t2 (.tup [iN h, iN (bb.se.getD h 0)])) := Mv.new nt2
          have hB7 := hB6.mv M7'
          have eu7 := M7'.at eu (by simp)
          have hs7 := M7'.at hs6 (by simp)
          show ∃ _ _, _
          generalize upd G6 t2 (.tup [iN h, iN (bb.se.getD h 0)]) = G7 at *
          obtain ⟨kvs2, hD2, hAl2⟩ := hB7.so
          refine ⟨A.ds, _, rfl, DPut.t (k := nk (h, bb.se.getD h 0)) hD2 et2 (by rw [← hAl2.len]; exact Nat.lt_of_le_of_lt (Nat.le_trans bi.sol il) (by decide)), ?_⟩
          have hB8 := hB7.putSo (q := (h, bb.se.getD h 0)) (x := (h, s)) hD2 hAl2 ⟨u, rfl, eu7⟩
          have M8' : Mv A.all G7 (upd G7 A.ds (.dT (putK kvs2 (nk (h, bb.se.getD h 0)) (.ref u)))) := Mv.upd (by simp [BA.all])
          have hs8 := M8'.at hs7 nls0
          generalize upd G7 A.ds (.dT (putK kvs2 (nk (h, bb.se.getD h 0)) (.ref u))) = G8 at *
          refine ⟨_, rfl, _, rfl, _, _, _, _, rfl, rfl, SqL.of hs8, atI_nat (nats_get hse), _, _, rfl, rfl, _, _, _, _, rfl, rfl, hs8, ixN_nat (by rw [List.length_map, bi.sl]; exact Nat.lt_succ_of_le ok.hand), ?_⟩
          have e5 : (bb.se.map iN).set h (.int ((bb.se.getD h 0 : Nat) + 1 : Int)) = (bb.se.set h (bb.se.getD h 0 + 1)).map iN := by rw [← set_iN]; rfl
          show (∃ _ _ _ _ _, _) ∧ _
          rw [e5]
          have M9 : Mv [ls] G8 (upd G8 ls (.lst ((bb.se.set h (bb.se.getD h 0 + 1)).map iN))) := Mv.upd (by simp)
          have hB9 := hB8.frame M9 (TK.upd fun xs z => by rw [hs8] at z; cases z) (by
            intro a ha
            rw [List.mem_singleton] at ha
            subst ha
            exact ⟨nls0, fun U z => by rw [hs8] at z; cases z⟩)
          have hs9 : NatsL (upd G8 ls (.lst ((bb.se.set h (bb.se.getD h 0 + 1)).map iN))) ls (bb.se.set h (bb.se.getD h 0 + 1)) := upd_same
          refine ⟨⟨_, _, _, _, _, rfl⟩, ?_, ?_, ?_⟩
          · show BearAt C _ { bb with kn := bown many bb.kn h s, bo := aput bb.bo (h, bb.se.getD h 0) ((bown many bb.kn h s).getD h []), so := aput bb.so (h, bb.se.getD h 0) (h, s), se := _ } A
            rw [eS2]
            exact ⟨hB9.nd, hB9.ob, hB9.kl, hB9.kn, hB9.bo, hB9.so, hB9.ta⟩
          · exact hs9
          · have m28 : Mv A.all G2 G8 := ((((M3.trans M4').mono (by simp)).trans M5').trans ((M6'.trans M7').mono (by simp))).trans M8'
            exact (((fin m28).mono (S' := p :: [ls]) (by simp)).trans (M9.mono (S' := p :: [ls]) (by simp))).weak (by simp [nls1])
        | take h f k =>
          dsimp only [Deed.hand]
          refine ⟨_, rfl, rfl, _, rfl, str_yes ?_⟩
          replace hkl : (bown many bb.kn h s).length = many + 1 := hkl
          replace hB2 : BearAt C G2 { bb with kn := bown many bb.kn h s } A := hB2
          have hh : h < A.ks.length := by rw [← hB2.kn.len]; show h < (bown many bb.kn h s).length; rw [hkl]; exact Nat.lt_succ_of_le ok.hand
          have ea : A.ks[h]? = some A.ks[h] := List.getElem?_eq_getElem hh
          have ea' : (A.ks.map V.ref)[h]? = some (V.ref A.ks[h]) := by rw [List.getElem?_map, ea]; rfl
          obtain ⟨S, hS, eS⟩ := hB2.kn.getR ea
          replace hS : (bown many bb.kn h s)[h]? = some S := hS
          have eS2 : (bown many bb.kn h s).getD h [] = S := by rw [List.getD_eq_getElem?_getD, hS]; rfl
          have bx := hkb S (List.mem_of_getElem? hS)
          have hl := (ok.take h f k rfl).2.2
          obtain ⟨l, hl⟩ := hl
          have hb : ahas bb.bo (f, k) = true := by rw [bi.has]; unfold ahas; rw [hl]; rfl
          obtain ⟨M, hM⟩ := Option.isSome_iff_exists.mp hb
          have bm : Box many M := bi.bo _ (aget_mem hM)
          refine ⟨_, rfl, _, _, _, _, _, rfl, by rw [← ep]; exact hB2.ob, T.cl, T.nK, rfl, _, rfl, _, _, _, _, rfl, rfl, SqL.of hB2.kl, atI_nat ea', .inr (.inr (.inl ⟨rfl, .inr ⟨_, eS⟩⟩)), ?_⟩
          refine ⟨_, rfl, _, _, _, _, _, rfl, by rw [← ep]; exact hB2.ob, T.cl, T.nB, rfl, ?_⟩
          refine ⟨_, rfl, _, _, _, _, rfl, rfl, SqL.of er2, atI_nat (j := 0) rfl, _, rfl, _, _, _, _, rfl, rfl, SqL.of er2, atI_nat (j := 1) rfl, (by show 2 ≤ sizeLine; decide), fun t nt => ?_⟩
          have et : upd G2 t (.tup [iN f, iN k]) t = some (.tup [iN f, iN k]) := upd_same
          have M3 : Mv [] G2 (upd G2 t (.tup [iN f, iN k])) := Mv.new nt
          have hB3 := hB2.mv M3
          have eS3 := M3.at eS (by simp)
          have er3 := M3.at er2 (by simp)
          have hs3 := M3.at hs2 (by simp)
          show ∃ _ _, _
          generalize upd G2 t (.tup [iN f, iN k]) = G3 at *
          obtain ⟨kvs, hD, hAl⟩ := hB3.bo
          obtain ⟨v, hv1, c, rfl, ec, cn⟩ := kv_some hAl hM
          refine ⟨A.db, _, rfl, DGet.t (k := nk (f, k)) hD et |> fun x => by rw [hv1] at x; exact x, ?_⟩
          refine ⟨A.ks[h], c, setD S, setD M, rfl, rfl, fun z => cn (by rw [← z]; simp [BA.all]), eS3, ec, .inr (box_apart bm h4), ?_, ?_⟩
          · rw [setD_len, setD_len]
            have x1 := box_few bx h4
            have x2 := box_few bm h4
            exact Nat.le_trans (by omega : _ ≤ 340) (by decide)
          rw [setD_upd]
          have hB4 := hB3.setKn (S := kupd S M) ea
          have M4' : Mv A.all G3 (upd G3 A.ks[h] (.dT (setD (kupd S M)))) := Mv.upd (by simp [BA.all])
          have hs4 := M4'.at hs3 nls0
          have er4 := M4'.at er3 fun z => by
            obtain ⟨o, e, _⟩ := hg0 rr z
            rw [e] at nr; cases nr
          generalize upd G3 A.ks[h] (.dT (setD (kupd S M))) = G4 at *
          refine ⟨_, rfl, _, rfl, (by show 2 ≤ sizeLine; decide), fun u nu => ?_⟩
          have eu : upd G4 u (.tup [iN h, iN s]) u = some (.tup [iN h, iN s]) := upd_same
          have M6' : Mv [] G4 (upd G4 u (.tup [iN h, iN s])) := Mv.new nu
          have hB6 := hB4.mv M6'
          have hs6 := M6'.at hs4 (by simp)
          have er6 := M6'.at er4 (by simp)
          show L2.tFld _ _ _ _ _ _
          generalize upd G4 u (.tup [iN h, iN s]) = G6 at *
          refine ⟨_, rfl, _, _, _, _, _, rfl, by rw [← ep]; exact hB6.ob, T.cl, T.nT, rfl, ?_⟩
          refine ⟨_, rfl, _, _, _, _, rfl, rfl, SqL.of er6, atI_nat (j := 0) rfl, _, rfl, _, _, _, _, rfl, rfl, SqL.of er6, atI_nat (j := 1) rfl, (by show 2 ≤ sizeLine; decide), fun t2 nt2 => ?_⟩
          have et2 : upd G6 t2 (.tup [iN f, iN k]) t2 = some (.tup [iN f, iN k]) := upd_same
          have M7' : Mv [] G6 (upd G6 t2 (.tup [iN f, iN k])) := Mv.new nt2
          have hB7 := hB6.mv M7'
          have eu7 := M7'.at eu (by simp)
          have hs7 := M7'.at hs6 (by simp)
          show ∃ _ _, _
          generalize upd G6 t2 (.tup [iN f, iN k]) = G7 at *
          obtain ⟨kvs2, hD2, hAl2⟩ := hB7.ta
          refine ⟨A.dt, _, rfl, DPut.t (k := nk (f, k)) hD2 et2 (by rw [← hAl2.len]; exact Nat.lt_of_le_of_lt (Nat.le_trans bi.tal il) (by decide)), ?_⟩
          have hB8 := hB7.putTa (q := (f, k)) (x := (h, s)) hD2 hAl2 ⟨u, rfl, eu7⟩
          have M8' : Mv A.all G7 (upd G7 A.dt (.dT (putK kvs2 (nk (f, k)) (.ref u)))) := Mv.upd (by simp [BA.all])
          have hs8 := M8'.at hs7 nls0
          refine ⟨⟨_, _, _, _, _, rfl⟩, ?_, hs8, fin ((((M3.mono (by simp)).trans M4').trans ((M6'.trans M7').mono (by simp))).trans M8')⟩
          show BearAt C _ { bb with kn := (bown many bb.kn h s).set h (kupd ((bown many bb.kn h s).getD h []) ((aget bb.bo (f, k)).getD [])), ta := aput bb.ta (f, k) (h, s) } A
          rw [eS2, hM]
          exact hB8
      · intro σ H' ⟨_, hg, _, hm⟩
        rw [← hA.len, List.take_length] at hg
        exact kq A H' ep hall hm hg
end
end Lor
end

section
set_option Elab.async false
set_option linter.all false
set_option maxRecDepth 100000
set_option maxHeartbeats 4000000
namespace Lor
open PySem PySem.Spec PyProof.Rows L2
theorem mv_lock {S : List Addr} {H H' : Hp} {d : Addr} {od : Obj} {u : HO} (h : H d = some u) (m : Mv S (upd H d (.frz od u)) H') : Mv S H (upd H' d u) := by
  refine ⟨fun b z => ?_, fun b hb n => ?_⟩
  · by_cases c : b = d
    · subst c; rw [upd_same] at z; cases z
    · rw [upd_ne c] at z
      have := m.ex b z
      rwa [upd_ne c] at this
  · by_cases c : b = d
    · subst c; rw [upd_same, h]
    · rw [upd_ne c, m.fr b (by rw [upd_ne c]; exact hb) n, upd_ne c]
theorem mv_frz {H : Hp} {d : Addr} {od : Obj} {u : HO} : Mv [d] H (upd H d (.frz od u)) := Mv.upd (by simp)
theorem dp_pair {K : PySem.W.Frag} {H : Hp} {a : Addr} {x y : Nat} (h : H a = some (.tup [iN x, iN y])) : Dp K H (.ref a) (.tuple [.int x, .int y]) := .tup (SqT.of h) (.cons (.int _) (.cons (.int _) .nil))
theorem eqv_pair (a b c d : Nat) : PyData.eqv (.tuple [.int a, .int b]) (.tuple [.int c, .int d]) = decide ((a, b) = (c, d)) := by
  simp [PyData.eqv, PyData.eqvAll]
  by_cases e1 : a = c <;> by_cases e2 : b = d <;> simp [e1, e2] <;> omega
theorem find_hit {α : Type} {p : α → Bool} : ∀ {l : List α} {i : Nat} {q : α}, (∀ j x, j < i → l[j]? = some x → p x = false) → l[i]? = some q → p q = true → l.find? p = some q
  | [], _, _, _, h, _ => by simp at h
  | a :: r, 0, q, _, h, hp => by
    have e : a = q := by simpa using h
    subst e
    rw [List.find?_cons, hp]
  | a :: r, i + 1, q, hn, h, hp => by
    have e := hn 0 a (Nat.succ_pos _) rfl
    rw [List.find?_cons, e]
    exact find_hit (fun j x hj hx => hn (j + 1) x (Nat.succ_lt_succ hj) (by simpa using hx)) (by simpa using h) hp
theorem find_miss {α : Type} {p : α → Bool} {l : List α} (h : ∀ (j : Nat) (x : α), l[j]? = some x → p x = false) : l.find? p = none := by
  rw [List.find?_eq_none]
  intro x hx
  obtain ⟨j, hj⟩ := List.getElem?_of_mem hx
  rw [h j x hj]
  simp
theorem fresh_nil (D : Addr) (H : Hp) (h : H D = none) : Mv [] H (upd H D (.lst [])) := Mv.new h
section
variable {P : Program} {w : World} {K : PySem.W.Frag} {mg : Str → Option Value} {base : Heap} {C CG CB : Addr} {tabs : Tabs} {al : Bool}
/-! ### Town.bearing -/
def spBearing (C CB : Addr) (tabs : Tabs) (al : Bool) : Sp := fun vs H Q _ => ∃ (A : ToA) (st : TS) (n : Nat), vs = [.ref A.p] ∧ TownAt C tabs al H st A n ∧ tabs.length ≤ 4 ∧ Fit tabs.length st.rows ∧
  ∀ (G : BA) (H' : Hp), (∀ a ∈ G.all, H a = none) → Mv [] H H' → BearAt CB H' (bearing tabs.length st.rows) G → Q (.ref G.p) H'
theorem sc302 : FnScope ["self"] ["self"] (defScope (inClass (top 30) 2)) := ⟨rfl, rfl, rfl, by decide +kernel, rfl, by decide +kernel, by decide +kernel⟩
theorem ok_bearing (D : MethAt K C "bearing" "Town.bearing" (inClass (top 30) 2)) (T : ToC K C) (BI : LMak P w K mg base 1 "Bearing" CB (spBInit CB)) : LMet P w K mg base 3 C "bearing" (spBearing C CB tabs al) := by
  refine met_of T.cl D sc302 (fun _ _ _ _ _ _ us hl => match us, hl with | [_], _ => rfl) (fun vs H Q E h => ?_) (fun fa cdv Ar outer s H vs Q E hr h => ?_)
  · obtain ⟨A, st, n, rfl, _⟩ := h
    rfl
  · obtain ⟨A, st, n, rfl, hT, h4, hf, kq⟩ := h
    have nd := sc302.nd
    refine ⟨_, (pss_one (ps_ret (pe_n BI hr (by decide) (pa_cons (pe_fld (pv 0) rfl) (pa_cons (pe_fld (pv 0) rfl) pa_nil))))), ?_⟩
    obtain ⟨tv, _, ob⟩ := hT.tab
    refine ⟨_, rfl, _, _, _, _, _, rfl, ob, T.cl, T.nMany, rfl, _, rfl, _, _, _, _, _, rfl, ob, T.cl, T.nRows, rfl, fun x dx nx ndx nex => ?_⟩
    have m0 : Mv [] H (upd (upd H dx (.own x)) x (.ins CB dx [])) := (Mv.new ndx).trans (Mv.new (by rw [upd_ne nex.symm]; exact nx))
    refine ⟨x, dx, A.lr, tabs.length, st.rows, rfl, upd_same, hT.rows.mono (m0.fr _ (by obtain ⟨vs, e, _⟩ := hT.rows; exact some_ne e) (by simp)) fun _ _ z => z.mono m0.tk0, h4, hf, fun G H1 eG hG m1 b1 => ⟨rfl, ?_⟩⟩
    subst eG
    have gn : ∀ a ∈ G.all, H a = none := fun a ha => by
      rcases hG a ha with rfl | h
      · exact nx
      · exact m0.none h
    exact kq G H1 gn ((m0.mono (by simp) |>.trans m1).weak (by simp [nx])) b1
/-! ### Town.first_untold -/
def spFirst (C CG CB : Addr) (tabs : Tabs) (al : Bool) : Sp := fun vs H Q _ => ∃ (A : ToA) (st : TS) (n : Nat) (Bb : BA) (b : Bs) (G : GA) (g : Gs) (i h s : Nat) (lw : Addr) (wr : List Nat), vs = [.ref A.p, .ref Bb.p, iN h, iN s, .ref lw, .ref G.p] ∧
  TownAt C tabs al H st A n ∧ BearAt CB H b Bb ∧ GoingAt CG H g G i ∧ (∀ a ∈ Bb.all, a ∉ G.all) ∧ NatsL H lw wr ∧ wr.length = tabs.length ∧ tabs.length ≤ 4 ∧ (∀ k, ahas b.so k = true → ahas g.ls k = true) ∧ (∀ k, ahas b.so k = true → ahas b.bo k = true) ∧ (∀ p ∈ b.bo, Box tabs.length p.2) ∧
  ∀ (H' : Hp) (v : V), Mv [] H H' → (match firstUntold tabs.length b b.ta g.ls wr (h, s) with | none => v = .non | some l => ∃ t, v = .ref t ∧ H' t = some (.tup [iN l.1, iN l.2])) → Q v H'
theorem sc3013 : FnScope ["self", "bearing", "hand", "step", "written", "going", "letter", "own", "other", "number"] ["self", "bearing", "hand", "step", "written", "going"] (defScope (inClass (top 30) 13)) := ⟨rfl, rfl, rfl, by decide +kernel, rfl, by decide +kernel, by decide +kernel⟩
theorem ok_first (D : MethAt K C "first_untold" "Town.first_untold" (inClass (top 30) 13)) (B : Bl mg) (T : ToC K C) (TG : GoC K CG) (TB : BeC K CB) : LMet P w K mg base 1 C "first_untold" (spFirst C CG CB tabs al) := by
  refine met_of T.cl D sc3013 (fun _ _ _ _ _ _ us hl => match us, hl with | [_, _, _, _, _, _], _ => rfl) (fun vs H Q E h => ?_) (fun fa cdv Ar outer s H vs Q E hr h => ?_)
  · obtain ⟨A, st, n, Bb, b, G, g, i, h, s, lw, wr, rfl, _⟩ := h
    rfl
  · obtain ⟨A, st, n, Bb, b, G, g, i, h, s, lw, wr, rfl, hT, hB, hG, hdj, hW, hwl, h4, hls, hbo, hbx, kq⟩ := h
    have nd := sc3013.nd
    refine ⟨_, (pss_cons (ps_lock (ps_for PassesOwn.never rfl (pi_itemsT (pe_fld (pv 1) rfl)) (pg_tup (n := 2) rfl (pgs_cons (pg_name (i := 6) nd rfl (Or.inl rfl)) (pgs_cons (pg_name (i := 7) nd rfl (Or.inl rfl)) pgs_nil)))
 (pss_one (ps_if (PW.pt (pw_and (pt_cmpR (op_eqD hr.units) (pv 7) (pe_tup (pa_cons (pv 2) (pa_cons (pv 3) pa_nil))) (nomark _)) (pw_and (pt_cmpR op_eq (pe_ix ix_tup (pe_dget (hu_of hr) (pe_fld (pv 5) rfl) (pv 6) (fun _ _ => rfl)) pe_int (fun _ _ => rfl)) (pe_fld (pv 0) rfl) (nomark _)) (pw_and1 (pt_cmp (pc_dnotin (hu_of hr) (pv 6) (pe_fld (pv 1) rfl)))))))
 (pss_one (ps_if (pt_val (pe_callB (cr_all rfl) (by rfl) B.all (by decide +kernel) (pa_cons (pe_lock (pe_lc (own := [("other", 8), ("number", 9)]) (g := gTup K 2 (gCons (gName 8) (gCons (gName 9) gNil))) (tt := tYes) rfl nd (pi_keys (pe_dget (hu_of hr) (pe_fld (pv 1) rfl) (pv 6) (fun _ _ => rfl))) (blkOk_by (own := [("other", 8), ("number", 9)]) (N := ["self", "bearing", "hand", "step", "written", "going", "letter", "own", "other", "number"]) (sc := defScope (inClass (top 30) 13)) (by decide +kernel)) (fun _ _ _ _ _ => (pg_tupK (K := K) (n := 2) rfl (pgs_cons (pg_name (i := 8) nd rfl (Or.inl rfl)) (pgs_cons (pg_name (i := 9) nd rfl (Or.inl rfl)) pgs_nil)))) (fun _ _ _ _ _ => pts_nil) (fun _ _ _ _ _ => (pe_cmpR op_le (pv 9) (pe_ix (ix_listK (K := K)) (pv 4) (pv 8) (fun _ _ => rfl)) (nomark _))))) pa_nil)))
 (pss_one (ps_ret (pv 6)))
 pss_nil))
 pss_nil))))
 (pss_one (ps_ret pe_non))), ?_⟩
    obtain ⟨tv, _, ob⟩ := hT.tab
    obtain ⟨kvs, hD, hA⟩ := hB.so
    obtain ⟨gvs, hGD, hGA⟩ := hG.ls
    obtain ⟨bvs, hBD, hBA⟩ := hB.bo
    obtain ⟨tvs, hTD, hTA⟩ := hB.ta
    have bn := BNe.of hB.nd
    refine ⟨Bb.ds, .dT kvs, hD, trivial, fun od => ?_⟩
    have M0 : Mv [Bb.ds] H (upd H Bb.ds (.frz od (.dT kvs))) := mv_frz
    have ed0 : upd H Bb.ds (.frz od (.dT kvs)) Bb.ds = some (.frz od (.dT kvs)) := upd_same
    have fin : ∀ {H'}, Mv [] (upd H Bb.ds (.frz od (.dT kvs))) H' → Mv [] H (upd H' Bb.ds (.dT kvs)) := fun m => mv_lock hD m
    generalize hH0 : upd H Bb.ds (.frz od (.dT kvs)) = H0 at *
    have k0 : TK H H0 := M0.tk fun a ha xs z => by
      rw [List.mem_singleton] at ha
      subst ha
      rw [hD] at z; cases z
    have ndT : ∀ {a : Addr} {C' dx : Addr} {fs : List (Str × V)}, H a = some (.ins C' dx fs) → a ∉ [Bb.ds] := fun h z => by
      rw [List.mem_singleton] at z
      subst z
      rw [hD] at h; cases h
    have ob0 := M0.at ob (ndT ob)
    have bob0 := M0.at hB.ob (ndT hB.ob)
    have gob0 := M0.at hG.ob (ndT hG.ob)
    have hW0 : NatsL H0 lw wr := M0.at hW fun z => by
      rw [List.mem_singleton] at z
      subst z
      have := hD.symm.trans hW; cases this
    have hBD0 := M0.at hBD (by simp; exact bn.bs)
    have hTD0 := M0.at hTD (by simp; exact bn.st.symm)
    have hGD0 := M0.at hGD (by simp; exact fun z => hdj Bb.ds (by simp [BA.all]) (by rw [← z]; simp [GA.all]))
    have hGA0 := kv_imp hGA fun _ _ z => z.mono k0
    have hA0 := kv_imp hA fun _ _ z => z.mono k0
    have hBA0 := kv_imp hBA fun S v (z : SetR H Bb.all S v) => show SetR H0 Bb.all S v from let ⟨a, e1, e2, e3⟩ := z; ⟨a, e1, M0.at e2 (by simp; exact fun y => e3 (by rw [y]; simp [BA.all])), e3⟩
    refine ⟨_, rfl, _, _, _, _, _, rfl, bob0, TB.cl, TB.nS, rfl, Bb.ds, od, kvs, rfl, ed0, ?_⟩
    refine for_it walk_itemsT (fun i σ H' => (∃ a b, σ = [some (.ref A.p), some (.ref Bb.p), some (iN h), some (iN s), some (.ref lw), some (.ref G.p), a, b, none, none]) ∧ Mv [] H0 H' ∧ ∀ j x, j < i → b.so[j]? = some x → mayTell tabs.length b b.ta g.ls wr (h, s) x = false) ?_ ?_ ?_ ?_
    · exact ⟨⟨_, _, rfl⟩, Mv.refl _ _, fun j x hj => absurd hj (Nat.not_lt_zero _)⟩
    · exact fun i σ H' _ q => q.2.1.at ed0 (by simp)
    · intro i x σ H1 H2 hi ⟨⟨u1, u2, hσ⟩, hm, hno⟩ ⟨T', k, v, q, hkv, hx, hT', hq, hH2⟩
      subst hσ hx
      obtain ⟨⟨nm, own⟩, hso, ek, ev⟩ := hA0.getR hkv
      replace ek : k = nk nm := ek
      replace ev : PairR H0 own v := ev
      subst ek
      obtain ⟨va, rfl, hva⟩ := ev
      have et : H2 T' = some (.tup [.ref q, .ref va]) := by rw [hH2, upd_same]
      have m1 : Mv [] H0 H2 := hm.trans (by rw [hH2]; exact Mv.new hT')
      have hq2 : H2 q = some (.tup [iN nm.1, iN nm.2]) := by rw [hH2, upd_ne (ne_none (some_ne hq) hT')]; exact hq
      have nx : mayTell tabs.length b b.ta g.ls wr (h, s) (nm, own) = false → ∀ j x, j < i + 1 → b.so[j]? = some x → mayTell tabs.length b b.ta g.ls wr (h, s) x = false := fun e j x hj hx => by
        by_cases c : j = i
        · subst c
          rw [hso] at hx
          cases hx
          exact e
        · exact hno j x (by omega) hx
      clear hH2 hq hT' hm
      refine ⟨T', _, rfl, SqT.of et, rfl, _, _, rfl, _, _, rfl, rfl, ?_⟩
      refine ⟨_, rfl, _, rfl, _, rfl, (by show 2 ≤ sizeLine; decide), fun t nt => ?_⟩
      have m2 : Mv [] H2 (upd H2 t (.tup [iN h, iN s])) := Mv.new nt
      have et2 : upd H2 t (.tup [iN h, iN s]) t = some (.tup [iN h, iN s]) := upd_same
      have m3 := m1.trans m2
      have hq3 := m2.at hq2 (by simp)
      show ∃ _ _, _
      generalize upd H2 t (.tup [iN h, iN s]) = H3 at *
      refine ⟨_, _, dp_pair (m3.at hva (by simp)), dp_pair et2, rfl, rfl, _, rfl, ?_⟩
      rw [eqv_pair]
      refine ite2 (fun c1 => ?_) (fun c1 => ?_)
      rotate_left
      · refine ⟨⟨_, _, rfl⟩, m3, nx ?_⟩
        have c1' : ¬ own = (h, s) := fun z => c1 (decide_eq_true (by rw [← z]))
        simp [mayTell, c1']
      have c1' : own = (h, s) := of_decide_eq_true c1
      have hs1 : ahas b.so nm = true := ahas_mem (List.mem_of_getElem? hso)
      obtain ⟨l, hl⟩ := Option.isSome_iff_exists.mp (hls nm hs1)
      obtain ⟨S, hS⟩ := Option.isSome_iff_exists.mp (hbo nm hs1)
      obtain ⟨lv, hlv, la, z, y, rfl, hla⟩ := kv_some hGA0 hl
      obtain ⟨sv, hsv, ca, rfl, hca, hcn⟩ := kv_some hBA0 hS
      refine ⟨_, rfl, _, _, _, _, _, rfl, m3.at gob0 (by simp), TG.cl, TG.nL, rfl, _, rfl, G.da, _, rfl, DGet.t (k := nk nm) (m3.at hGD0 (by simp)) hq3 |> fun x => by rw [hlv] at x; exact x, ?_⟩
      refine ⟨la, _, _, _, rfl, rfl, SqT.of (m3.at hla (by simp)), atI_nat (j := 0) rfl, ?_⟩
      refine ⟨_, rfl, _, _, _, _, _, rfl, m3.at ob0 (by simp), T.cl, T.nMany, rfl, rfl, _, rfl, ?_⟩
      refine ite2 (fun c2 => ?_) (fun c2 => ?_)
      rotate_left
      · refine ⟨⟨_, _, rfl⟩, m3, nx ?_⟩
        have c2' : ¬ l.to = tabs.length := fun z => c2 (decide_eq_true (by rw [z]))
        simp [mayTell, hl, c2']
      have c2' : l.to = tabs.length := iN_inj (of_decide_eq_true c2)
      refine ⟨_, rfl, _, rfl, _, _, _, _, _, rfl, m3.at bob0 (by simp), TB.cl, TB.nT, rfl, Bb.dt, _, rfl, DGet.t (k := nk nm) (m3.at hTD0 (by simp)) hq3, _, rfl, ?_⟩
      rw [kv_has hTA]
      refine ite2 (fun c3 => ?_) (fun c3 => ?_)
      rotate_left
      · refine ⟨⟨_, _, rfl⟩, m3, nx ?_⟩
        have c3' : ahas b.ta nm = true := by simpa using c3
        simp [mayTell, c3']
      have c3' : ahas b.ta nm = false := by simpa using c3
      have hca3 := m3.at hca (by simp)
      have bxS := hbx _ (aget_mem hS)
      refine ⟨ca, .dT (setD S), hca3, trivial, fun od2 => ?_⟩
      have mf : Mv [ca] H3 (upd H3 ca (.frz od2 (.dT (setD S)))) := mv_frz
      have ef : upd H3 ca (.frz od2 (.dT (setD S))) ca = some (.frz od2 (.dT (setD S))) := upd_same
      have fin2 : ∀ {H'}, Mv [] (upd H3 ca (.frz od2 (.dT (setD S)))) H' → Mv [] H3 (upd H' ca (.dT (setD S))) := fun m => mv_lock hca3 m
      generalize hHf : upd H3 ca (.frz od2 (.dT (setD S))) = Hf at *
      have hne : ∀ {a : Addr}, a ∈ Bb.all → a ∉ [ca] := fun ha z => by
        rw [List.mem_singleton] at z
        exact hcn (z ▸ ha)
      have hq4 := mf.at hq3 (fun z => by
        rw [List.mem_singleton] at z
        subst z
        rw [hca3] at hq3; cases hq3)
      refine ⟨_, rfl, _, _, _, _, _, rfl, mf.at (m3.at bob0 (by simp)) (hne (by simp [BA.all])), TB.cl, TB.nB, rfl, _, rfl, Bb.db, _, rfl, DGet.t (k := nk nm) (mf.at (m3.at hBD0 (by simp)) (hne (by simp [BA.all]))) hq4 |> fun x => by rw [hsv] at x; exact x, ?_⟩
      refine ⟨ca, od2, rfl, .inr ⟨setD S, ef, fun D nD => ?_⟩⟩
      have hW4 : NatsL Hf lw wr := mf.at (m3.at hW0 (by simp)) fun z => by
        rw [List.mem_singleton] at z
        subst z
        have := hca3.symm.trans (m3.at hW0 (by simp)); cases this
      refine lc_it walk_keysT (fun j H' => Mv [] Hf H' ∧ ∃ bs : List Bool, H' D = some (.lst (bs.map V.bl)) ∧ bs = (S.take j).map fun q => decide (q.2 ≤ wr.getD q.1 0)) ⟨Mv.new nD, [], upd_same, rfl⟩ (fun j H' _ p => p.1.at ef (by simp)) ?_ ?_
      · intro j x H' H'' hj ⟨hm, bs, hbs, hb2⟩ ⟨eH, k, v, kq', hkv2, hx, hkq⟩
        subst eH hx
        obtain ⟨q2, hq2', e2⟩ : ∃ q2, S[j]? = some q2 ∧ (nk q2, V.bl true) = (k, v) := by
          unfold setD at hkv2
          rw [List.getElem?_map] at hkv2
          cases e : S[j]? with
          | none => rw [e] at hkv2; cases hkv2
          | some q2 => rw [e] at hkv2; exact ⟨q2, rfl, Option.some.inj hkv2⟩
        cases e2
        have low := bxS.low q2 (List.mem_of_getElem? hq2')
        refine ⟨kq', _, rfl, SqT.of hkq, rfl, _, _, rfl, _, _, rfl, rfl, rfl, ?_⟩
        refine ⟨_, rfl, _, rfl, _, rfl, _, _, _, _, rfl, rfl, SqL.of (hm.at hW4 (by simp)), atI_nat (j := q2.1) (nats_get (getD_get (by rw [hwl]; exact low.1))), _, _, rfl, rfl, bs.map V.bl, hbs, ?_, hm.own nD, bs ++ [decide (q2.2 ≤ wr.getD q2.1 0)], ?_, ?_⟩
        · rw [List.length_map, hb2, List.length_map, List.length_take]
          exact Nat.lt_of_le_of_lt (Nat.le_trans (Nat.min_le_right _ _) (box_few bxS h4)) (by decide)
        · rw [upd_same, List.map_append]
          have e : decide ((q2.2 : Int) ≤ (wr.getD q2.1 0 : Nat)) = decide (q2.2 ≤ wr.getD q2.1 0) := by
            by_cases c : q2.2 ≤ wr.getD q2.1 0
            · rw [decide_eq_true c, decide_eq_true (by omega)]
            · rw [decide_eq_false c, decide_eq_false (by omega)]
          show some (HO.lst (bs.map V.bl ++ [V.bl (decide ((q2.2 : Int) ≤ (wr.getD q2.1 0 : Nat)))])) = _
          rw [e]; rfl
        · rw [take_snoc hq2', List.map_append, hb2]; rfl
      · intro H' ⟨hm, bs, hbs, hb2⟩
        rw [setD_len, List.take_length] at hb2
        have mf2 := fin2 hm
        have eD : D ≠ ca := (ne_none (some_ne ef) nD).symm
        refine ⟨hm.at ef (by simp), ?_⟩
        refine ⟨D, bs, rfl, SqL.of (by rw [upd_ne eD]; exact hbs), _, rfl, ?_⟩
        have hall : bs.all id = allWritten wr S := by
          rw [hb2]
          unfold allWritten
          rw [List.all_map]
          rfl
        rw [hall]
        have m5 := m3.trans mf2
        have hq5 := mf2.at hq3 (by simp)
        generalize upd H' ca (.dT (setD S)) = H5 at *
        refine ite2 (fun c4 => ?_) (fun c4 => ?_)
        · have hy : mayTell tabs.length b b.ta g.ls wr (h, s) (nm, own) = true := by
            simp [mayTell, hl, hS, c1', c2', c3', c4]
          refine ⟨_, rfl, m5.at ed0 (by simp), kq _ _ (fin m5) ?_⟩
          unfold firstUntold
          rw [find_hit hno hso hy]
          exact ⟨q, rfl, by rw [upd_ne (fun z => by
            have := m5.at ed0 (by simp)
            rw [← z, hq5] at this; cases this)]; exact hq5⟩
        · have c4' : allWritten wr S = false := by simpa using c4
          refine ⟨⟨_, _, rfl⟩, m5, nx ?_⟩
          simp [mayTell, hS, c4']
    · intro σ H' ⟨⟨u1, u2, hσ⟩, hm, hno⟩
      subst hσ
      refine ⟨hm.at ed0 (by simp), ?_⟩
      refine kq _ _ (fin hm) ?_
      unfold firstUntold
      rw [find_miss fun j x hj => hno j x (by rw [← hA.len]; exact lt_of_get hj) hj]
      rfl
end
end Lor
end

section
set_option Elab.async false
set_option linter.all false
set_option maxRecDepth 100000
set_option maxHeartbeats 4000000
namespace Lor
open PySem PySem.Spec PyProof.Rows L2
section
variable {C : Addr} {tabs : Tabs} {al : Bool} {H H' : Hp} {st : TS} {A : ToA} {n : Nat}
structure ToNe (A : ToA) : Prop where
  pr : A.p ≠ A.lr
  pw : A.p ≠ A.lw
  pt : A.p ≠ A.lt
  pf : A.p ≠ A.lf
  pb : A.p ≠ A.lb
  pd : A.p ≠ A.ld
  rw : A.lr ≠ A.lw
  rt : A.lr ≠ A.lt
  rf : A.lr ≠ A.lf
  rb : A.lr ≠ A.lb
  rd : A.lr ≠ A.ld
  wt : A.lw ≠ A.lt
  wf : A.lw ≠ A.lf
  wb : A.lw ≠ A.lb
  wd : A.lw ≠ A.ld
  tf : A.lt ≠ A.lf
  tb : A.lt ≠ A.lb
  td : A.lt ≠ A.ld
  fb : A.lf ≠ A.lb
  fd : A.lf ≠ A.ld
  bd : A.lb ≠ A.ld
theorem ToNe.of (h : A.all.Nodup) : ToNe A := by
  unfold ToA.all at h
  simp only [List.nodup_cons, List.mem_cons, not_or, List.not_mem_nil, not_false_eq_true, and_true, List.nodup_nil] at h
  obtain ⟨⟨a1, a2, a3, a4, a5, a6⟩, ⟨b1, b2, b3, b4, b5⟩, ⟨c1, c2, c3, c4⟩, ⟨d1, d2, d3⟩, ⟨e1, e2⟩, f1⟩ := h
  exact ⟨a1, a2, a3, a4, a5, a6, b1, b2, b3, b4, b5, c1, c2, c3, c4, d1, d2, d3, e1, e2, f1⟩
theorem TownAt.setRows (h : TownAt C tabs al H st A n) {vs : List V} {rows : List Row} (a : All2 (RowAt H) rows vs) : TownAt C tabs al (upd H A.lr (.lst vs)) { st with rows := rows } A n := by
  have ne := ToNe.of h.nd
  have k : TK H (upd H A.lr (.lst vs)) := h.tkU (by simp [ToA.all])
  obtain ⟨tv, t1, t2⟩ := h.tab
  refine ⟨h.nd, ⟨tv, t1.mono k, by rw [upd_ne ne.pr]; exact t2⟩, ⟨vs, upd_same, a.imp fun _ _ z => z.mono k⟩, ?_, ?_, ?_, ?_, ?_⟩
  · unfold NatsL; rw [upd_ne ne.rw.symm]; exact h.wr
  · exact h.told.mono (upd_ne ne.rt.symm) fun _ _ z => z.mono k
  · exact h.falls.mono (upd_ne ne.rf.symm) fun _ _ z => z.mono k
  · rw [upd_ne ne.rb.symm]; exact h.begun
  · rw [upd_ne ne.rd.symm]; exact h.done
theorem TownAt.setTold (h : TownAt C tabs al H st A n) {vs : List V} {ts : List (Nat × Nat × Nat)} (a : All2 (ToldAt H) ts vs) : TownAt C tabs al (upd H A.lt (.lst vs)) { st with told := ts } A n := by
  have ne := ToNe.of h.nd
  have k : TK H (upd H A.lt (.lst vs)) := h.tkU (by simp [ToA.all])
  obtain ⟨tv, t1, t2⟩ := h.tab
  refine ⟨h.nd, ⟨tv, t1.mono k, by rw [upd_ne ne.pt]; exact t2⟩, ?_, ?_, ⟨vs, upd_same, a.imp fun _ _ z => z.mono k⟩, ?_, ?_, ?_⟩
  · exact h.rows.mono (upd_ne ne.rt) fun _ _ z => z.mono k
  · unfold NatsL; rw [upd_ne ne.wt]; exact h.wr
  · exact h.falls.mono (upd_ne ne.tf.symm) fun _ _ z => z.mono k
  · rw [upd_ne ne.tb.symm]; exact h.begun
  · rw [upd_ne ne.td.symm]; exact h.done
theorem TownAt.setFalls (h : TownAt C tabs al H st A n) {vs : List V} {fs : List (List Nat)} (a : All2 (FallAt H) fs vs) : TownAt C tabs al (upd H A.lf (.lst vs)) { st with falls := fs } A n := by
  have ne := ToNe.of h.nd
  have k : TK H (upd H A.lf (.lst vs)) := h.tkU (by simp [ToA.all])
  obtain ⟨tv, t1, t2⟩ := h.tab
  refine ⟨h.nd, ⟨tv, t1.mono k, by rw [upd_ne ne.pf]; exact t2⟩, ?_, ?_, ?_, ⟨vs, upd_same, a.imp fun _ _ z => z.mono k⟩, ?_, ?_⟩
  · exact h.rows.mono (upd_ne ne.rf) fun _ _ z => z.mono k
  · unfold NatsL; rw [upd_ne ne.wf]; exact h.wr
  · exact h.told.mono (upd_ne ne.tf) fun _ _ z => z.mono k
  · rw [upd_ne ne.fb.symm]; exact h.begun
  · rw [upd_ne ne.fd.symm]; exact h.done
theorem TownAt.setWr (h : TownAt C tabs al H st A n) {ns : List Nat} : TownAt C tabs al (upd H A.lw (.lst (ns.map iN))) { st with wr := ns } A n := by
  have ne := ToNe.of h.nd
  have k : TK H (upd H A.lw (.lst (ns.map iN))) := h.tkU (by simp [ToA.all])
  obtain ⟨tv, t1, t2⟩ := h.tab
  refine ⟨h.nd, ⟨tv, t1.mono k, by rw [upd_ne ne.pw]; exact t2⟩, ?_, upd_same, ?_, ?_, ?_, ?_⟩
  · exact h.rows.mono (upd_ne ne.rw) fun _ _ z => z.mono k
  · exact h.told.mono (upd_ne ne.wt.symm) fun _ _ z => z.mono k
  · exact h.falls.mono (upd_ne ne.wf.symm) fun _ _ z => z.mono k
  · rw [upd_ne ne.wb.symm]; exact h.begun
  · rw [upd_ne ne.wd.symm]; exact h.done
theorem TownAt.setDone (h : TownAt C tabs al H st A n) {vs : List V} (hl : vs.length ≤ n + 1) : TownAt C tabs al (upd H A.ld (.lst vs)) st A (n + 1) := by
  have ne := ToNe.of h.nd
  have k : TK H (upd H A.ld (.lst vs)) := h.tkU (by simp [ToA.all])
  obtain ⟨tv, t1, t2⟩ := h.tab
  refine ⟨h.nd, ⟨tv, t1.mono k, by rw [upd_ne ne.pd]; exact t2⟩, ?_, ?_, ?_, ?_, ?_, ⟨vs, upd_same, hl⟩⟩
  · exact h.rows.mono (upd_ne ne.rd) fun _ _ z => z.mono k
  · unfold NatsL; rw [upd_ne ne.wd]; exact h.wr
  · exact h.told.mono (upd_ne ne.td) fun _ _ z => z.mono k
  · exact h.falls.mono (upd_ne ne.fd) fun _ _ z => z.mono k
  · rw [upd_ne ne.bd]; exact h.begun
/-- a row is put behind the others -/
theorem TownAt.addRow (h : TownAt C tabs al H st A n) {r : Row} {v : V} {vs : List V} (e : H A.lr = some (.lst vs)) (ra : RowAt H r v) : TownAt C tabs al (upd H A.lr (.lst (vs ++ [v]))) { st with rows := st.rows ++ [r] } A n := by
  obtain ⟨vs', e', a⟩ := h.rows
  rw [e] at e'
  cases e'
  exact h.setRows (a.snoc ra)
theorem TownAt.addTold (h : TownAt C tabs al H st A n) {r : Nat × Nat × Nat} {v : V} {vs : List V} (e : H A.lt = some (.lst vs)) (ra : ToldAt H r v) : TownAt C tabs al (upd H A.lt (.lst (vs ++ [v]))) { st with told := st.told ++ [r] } A n := by
  obtain ⟨vs', e', a⟩ := h.told
  rw [e] at e'
  cases e'
  exact h.setTold (a.snoc ra)
end
theorem mayTell_ls {many : Nat} {b : Bs} {ta : List (Nm × Nm)} {ls : List (Nm × Ltr)} {wr : List Nat} {own : Nm} {q : Nm × Nm} (h : mayTell many b ta ls wr own q = true) : ∃ l, aget ls q.1 = some l := by
  unfold mayTell at h
  cases e : aget ls q.1 with
  | some l => exact ⟨l, rfl⟩
  | none => rw [e] at h; simp at h
theorem first_ls {many : Nat} {b : Bs} {ta : List (Nm × Nm)} {ls : List (Nm × Ltr)} {wr : List Nat} {own l : Nm} (h : firstUntold many b ta ls wr own = some l) : ∃ x, aget ls l = some x := by
  unfold firstUntold at h
  obtain ⟨q, e, e2⟩ := Option.map_eq_some_iff.mp h
  subst e2
  exact mayTell_ls (List.find?_some e)
theorem tellStep_len {many : Nat} {b : Bs} {ls : List (Nm × Ltr)} {wr : List Nat} (t : Tl) (r : Row) : (tellStep many b ls wr t r).rows.length ≤ t.rows.length + 1 ∧ (tellStep many b ls wr t r).told.length ≤ t.told.length + 1 ∧ (tellStep many b ls wr t r).ta.length ≤ t.ta.length + 1 := by
  unfold tellStep
  split
  · split
    · split
      · exact ⟨by simp, by simp, aput_len _ _ _⟩
      · exact ⟨Nat.le_succ _, Nat.le_succ _, Nat.le_succ _⟩
    · exact ⟨Nat.le_succ _, Nat.le_succ _, Nat.le_succ _⟩
  · exact ⟨Nat.le_succ _, Nat.le_succ _, Nat.le_succ _⟩
theorem tellStep_none {many h to s : Nat} {b : Bs} {ls : List (Nm × Ltr)} {wr : List Nat} {t : Tl} (c : to = many) (e : firstUntold many b t.ta ls wr (h, s) = none) : tellStep many b ls wr t (.send h to, s) = t := by
  unfold tellStep
  show (if to = many then _ else t) = t
  rw [if_pos c]
  simp only [e]
theorem tellStep_some {many h to s : Nat} {b : Bs} {ls : List (Nm × Ltr)} {wr : List Nat} {t : Tl} {l : Nm} {x : Ltr} (c : to = many) (e : firstUntold many b t.ta ls wr (h, s) = some l) (hx : aget ls l = some x) :
    tellStep many b ls wr t (.send h to, s) = ⟨t.rows ++ [(.take many l.1 l.2, 0)], t.told ++ [(l.1, l.2, x.wo)], aput t.ta l (many, 0)⟩ := by
  unfold tellStep
  show (if to = many then _ else t) = _
  rw [if_pos c]
  simp only [e, hx]
def tellTo (many : Nat) (rows : List Row) (wr : List Nat) (told : List (Nat × Nat × Nat)) (i : Nat) : Tl :=
  (rows.take i).foldl (tellStep many (bearing many rows) (going (many + 1) rows).ls wr) ⟨rows, told, (bearing many rows).ta⟩
theorem tellTo_succ {many : Nat} {rows : List Row} {wr : List Nat} {told : List (Nat × Nat × Nat)} {i : Nat} {r : Row} (h : rows[i]? = some r) :
    tellTo many rows wr told (i + 1) = tellStep many (bearing many rows) (going (many + 1) rows).ls wr (tellTo many rows wr told i) r := by
  unfold tellTo
  rw [take_snoc h, List.foldl_append]
  rfl
theorem tellTo_len {many : Nat} {rows : List Row} {wr : List Nat} {told : List (Nat × Nat × Nat)} : ∀ i, i ≤ rows.length → (tellTo many rows wr told i).rows.length ≤ rows.length + i ∧ (tellTo many rows wr told i).told.length ≤ told.length + i ∧ (tellTo many rows wr told i).ta.length ≤ (bearing many rows).ta.length + i
  | 0, _ => ⟨Nat.le_refl _, Nat.le_refl _, Nat.le_refl _⟩
  | i + 1, h => by
    have e : rows[i]? = some rows[i] := List.getElem?_eq_getElem h
    rw [tellTo_succ e]
    obtain ⟨a, b, c⟩ := tellTo_len (many := many) (wr := wr) (told := told) i (Nat.le_of_lt h)
    obtain ⟨a', b', c'⟩ := tellStep_len (many := many) (b := bearing many rows) (ls := (going (many + 1) rows).ls) (wr := wr) (tellTo many rows wr told i) rows[i]
    omega
section
variable {P : Program} {w : World} {K : PySem.W.Frag} {mg : Str → Option Value} {base : Heap} {C CG CB : Addr} {tabs : Tabs} {al : Bool}
/-! ### Town.tell -/
def spTell (C : Addr) (tabs : Tabs) (al : Bool) : Sp := fun vs H Q _ => ∃ (A : ToA) (st : TS) (n : Nat), vs = [.ref A.p] ∧ TownAt C tabs al H st A n ∧ tabs.length ≤ 4 ∧ Fit tabs.length st.rows ∧ st.wr.length = tabs.length ∧ st.told.length ≤ 1000 ∧
  ∀ (H' : Hp), Mv A.all H H' → TownAt C tabs al H' (tellS tabs.length st) A n → Q .non H'
theorem sc3012 : FnScope ["self", "bearing", "written", "going", "deed", "step", "letter"] ["self"] (defScope (inClass (top 30) 12)) := ⟨rfl, rfl, rfl, by decide +kernel, rfl, by decide +kernel, by decide +kernel⟩
theorem ok_tell (D : MethAt K C "tell" "Town.tell" (inClass (top 30) 12)) (B : Bl mg) (T : ToC K C) (TG : GoC K CG) (TB : BeC K CB) (GB : LMet P w K mg base 3 C "bearing" (spBearing C CB tabs al)) (GG : LMet P w K mg base 3 C "going" (spGoing C CG tabs al)) (GF : LMet P w K mg base 1 C "first_untold" (spFirst C CG CB tabs al)) :
    LMet P w K mg base 4 C "tell" (spTell C tabs al) := by
  refine met_of T.cl D sc3012 (fun _ _ _ _ _ _ us hl => match us, hl with | [_], _ => rfl) (fun vs H Q E h => ?_) (fun fa cdv Ar outer s H vs Q E hr h => ?_)
  · obtain ⟨A, st, n, rfl, _⟩ := h
    rfl
  · obtain ⟨A, st, n, rfl, hT, h4, hf, hwl, htl, kq⟩ := h
    have nd := sc3012.nd
    refine ⟨_, (pss_cons (ps_set (i := 1) nd rfl (Or.inl rfl) (pe_m0' GB hr (by decide) (pv 0)))
 (pss_cons (ps_set (i := 2) nd rfl (Or.inl rfl) (pe_fld (pv 0) rfl))
 (pss_cons (ps_set (i := 3) nd rfl (Or.inl rfl) (pe_m0' GG hr (by decide) (pv 0)))
 (pss_one (ps_for PassesOwn.never rfl (pi_list (pe_callTy call_list_of (by rfl) B.list (by decide +kernel) (pa_cons (pe_fld (pv 0) rfl) pa_nil))) (pg_tup (n := 2) rfl (pgs_cons (pg_name (i := 4) nd rfl (Or.inl rfl)) (pgs_cons (pg_name (i := 5) nd rfl (Or.inl rfl)) pgs_nil)))
 (pss_one (ps_if (PW.pt (pw_and (pt_cmpR op_eq (pe_ix ix_tup (pv 4) pe_int (fun _ _ => rfl)) pe_str (nomark _)) (pw_and1 (pt_cmpR op_eq (pe_ix ix_tup (pv 4) pe_int (fun _ _ => rfl)) (pe_fld (pv 0) rfl) (nomark _)))))
 (pss_cons (ps_set (i := 6) nd rfl (Or.inl rfl) (pe_m GF hr (by decide) (pv 0) (pa_cons (pv 1) (pa_cons (pe_ix ix_tup (pv 4) pe_int (fun _ _ => rfl)) (pa_cons (pv 5) (pa_cons (pv 2) (pa_cons (pv 3) pa_nil)))))))
 (pss_one (ps_if (pt_cmp (pc_notN (pv 6)))
 (pss_cons (ps_expr (pe_bm PySem.F.plainAttrs_list PySem.F.slot_list_append PySem.F.type_list_append mt_append (pe_fld (pv 0) rfl) (pa_cons (pe_tup (pa_cons (pe_tup (pa_cons pe_str (pa_cons (pe_fld (pv 0) rfl) (pa_cons (pe_ix ix_tup (pv 6) pe_int (fun _ _ => rfl)) (pa_cons (pe_ix ix_tup (pv 6) pe_int (fun _ _ => rfl)) pa_nil))))) (pa_cons pe_int pa_nil))) pa_nil)))
 (pss_cons (ps_expr (pe_bm PySem.F.plainAttrs_list PySem.F.slot_list_append PySem.F.type_list_append mt_append (pe_fld (pv 0) rfl) (pa_cons (pe_tup (pa_cons (pe_ix ix_tup (pv 6) pe_int (fun _ _ => rfl)) (pa_cons (pe_ix ix_tup (pv 6) pe_int (fun _ _ => rfl)) (pa_cons (pe_ix ix_tup (pe_dget (hu_of hr) (pe_fld (pv 3) rfl) (pv 6) (fun _ _ => rfl)) pe_int (fun _ _ => rfl)) pa_nil)))) pa_nil)))
 (pss_one (ps_dput (hu_of hr) (pe_fld (pv 1) rfl) (pv 6) (pe_tup (pa_cons (pe_fld (pv 0) rfl) (pa_cons pe_int pa_nil))) rfl))))
 pss_nil)))
 pss_nil))))))), ?_⟩
    obtain ⟨tv, _, ob⟩ := hT.tab
    refine ⟨_, rfl, _, _, _, rfl, ob, rfl, A, st, n, rfl, hT, h4, hf, fun Bb H1 hbn m1 hB => ?_⟩
    refine ⟨_, rfl, _, _, _, _, _, rfl, m1.at ob (by simp), T.cl, T.nWr, rfl, ?_⟩
    refine ⟨_, rfl, _, _, _, rfl, m1.at ob (by simp), rfl, A, st, n, rfl, hT.mv m1, h4, hf, fun G H2 i0 hgn m2 hG => ?_⟩
    have m12 := m1.trans m2
    have hT2 := hT.mv m12
    have hB2 := hB.mv m2
    have hdj : ∀ a ∈ Bb.all, a ∉ G.all := fun a ha z => by
      obtain ⟨o, e, _⟩ := hB.live a ha
      rw [hgn a z] at e; cases e
    obtain ⟨vs, hv, hA⟩ := hT2.rows
    refine ⟨_, rfl, _, _, _, _, _, rfl, m12.at ob (by simp), T.cl, T.nRows, rfl, A.lr, _, rfl, .inl (SqL.of hv), fun L nL => ?_⟩
    have eL : upd H2 L (.lst vs) L = some (.lst vs) := upd_same
    have m3 : Mv [] H2 (upd H2 L (.lst vs)) := Mv.new nL
    have hT3 := hT2.mv m3
    have hB3 := hB2.mv m3
    have hG3 := hG.same m3.same
    have m13 := m12.trans m3
    generalize upd H2 L (.lst vs) = H3 at *
    have bi := binv hf.valid
    have LA : L ∉ A.all := fun z => by
      obtain ⟨o, e, _⟩ := hT2.live L z
      rw [e] at nL; cases nL
    have LB : L ∉ Bb.all := fun z => by
      obtain ⟨o, e, _⟩ := hB2.live L z
      rw [e] at nL; cases nL
    have AB : ∀ a ∈ A.all, a ∉ Bb.all := fun a ha z => by
      obtain ⟨o, e, _⟩ := hT.live a ha
      have := hbn a z
      rw [e] at this; cases this
    have AG : ∀ a ∈ A.all, a ∉ G.all := fun a ha z => by
      obtain ⟨o, e, _⟩ := (hT.mv m1).live a ha
      have := hgn a z
      rw [e] at this; cases this
    have hA3 : All2 (RowAt H3) st.rows vs := hA.imp fun _ _ z => z.mono m3.tk0
    have tl0 := tellTo_len (many := tabs.length) (rows := st.rows) (wr := st.wr) (told := st.told)
    have bt := bi.tal
    have few := hf.few
    refine ⟨L, rfl, ⟨_, SqL.of eL⟩, ?_⟩
    refine for_list (xs := vs) (fun i σ H' => (∃ a b c, σ = [some (.ref A.p), some (.ref Bb.p), some (.ref A.lw), some (.ref G.p), a, b, c]) ∧ TownAt C tabs al H' { st with rows := (tellTo tabs.length st.rows st.wr st.told i).rows, told := (tellTo tabs.length st.rows st.wr st.told i).told } A n ∧
      BearAt CB H' { bearing tabs.length st.rows with ta := (tellTo tabs.length st.rows st.wr st.told i).ta } Bb ∧ GoingAt CG H' (going (tabs.length + 1) st.rows) G i0 ∧ Mv (A.all ++ Bb.all) H3 H' ∧ TK H3 H') ?_ ?_ ?_ ?_
    · exact ⟨⟨_, _, _, rfl⟩, hT3, hB3, hG3, Mv.refl _ _, TK.refl _⟩
    · exact fun i σ H' _ q => SqL.of (q.2.2.2.2.1.at eL (by simp [LA, LB]))
    · intro i x σ H' hx ⟨⟨u1, u2, u3, hσ⟩, hT', hB', hG', hm, hk⟩
      subst hσ
      obtain ⟨r, hr', ha⟩ := hA3.getR hx
      obtain ⟨ta, tb, rfl, h1, h2⟩ := ha.mono hk
      have hi := lt_of_get hr'
      have hl3 := tl0 i (Nat.le_of_lt hi)
      rw [tellTo_succ hr']
      generalize tellTo tabs.length st.rows st.wr st.told i = t at *
      obtain ⟨d, s⟩ := r
      obtain ⟨tv', _, ob'⟩ := hT'.tab
      refine ⟨ta, _, rfl, SqT.of h1, rfl, _, _, rfl, _, _, rfl, rfl, ?_⟩
      cases d with
      | own h x => exact ⟨_, rfl, _, _, _, _, rfl, rfl, SqT.of h2, atI_nat (j := 0) rfl, rfl, _, rfl, str_no (by decide) ⟨⟨_, _, _, rfl⟩, hT', hB', hG', hm, hk⟩⟩
      | take h f k => exact ⟨_, rfl, _, _, _, _, rfl, rfl, SqT.of h2, atI_nat (j := 0) rfl, rfl, _, rfl, str_no (by decide) ⟨⟨_, _, _, rfl⟩, hT', hB', hG', hm, hk⟩⟩
      | keep h => exact ⟨_, rfl, _, _, _, _, rfl, rfl, SqT.of h2, atI_nat (j := 0) rfl, rfl, _, rfl, str_no (by decide) ⟨⟨_, _, _, rfl⟩, hT', hB', hG', hm, hk⟩⟩
      | send h to =>
        refine ⟨_, rfl, _, _, _, _, rfl, rfl, SqT.of h2, atI_nat (j := 0) rfl, rfl, _, rfl, str_yes ?_⟩
        refine ⟨_, rfl, _, _, _, _, rfl, rfl, SqT.of h2, atI_nat (j := 2) rfl, ?_⟩
        refine ⟨_, rfl, _, _, _, _, _, rfl, ob', T.cl, T.nMany, rfl, rfl, _, rfl, ?_⟩
        refine ite2 (fun c => ?_) (fun c => ?_)
        rotate_left
        · have c' : ¬ to = tabs.length := fun z => c (decide_eq_true (by rw [z]))
          refine ⟨⟨_, _, _, rfl⟩, ?_⟩
          have e : tellStep tabs.length (bearing tabs.length st.rows) (going (tabs.length + 1) st.rows).ls st.wr t (.send h to, s) = t := by
            show (if to = tabs.length then _ else t) = t
            rw [if_neg c']
          rw [e]
          exact ⟨hT', hB', hG', hm, hk⟩
        have c' : to = tabs.length := iN_inj (of_decide_eq_true c)
        refine ⟨_, rfl, _, _, _, rfl, ob', rfl, _, rfl, _, rfl, _, _, _, _, rfl, rfl, SqT.of h2, atI_nat (j := 1) rfl, _, rfl, _, rfl, _, rfl, ?_⟩
        refine ⟨A, _, n, Bb, _, G, _, i0, h, s, A.lw, st.wr, rfl, hT', hB', hG', hdj, hT'.wr, hwl, h4, fun k e => by rw [← bi.so]; exact e, fun k e => by rw [bi.has, ← bi.so]; exact e, bi.bo, fun H4 v m4 hv4 => ?_⟩
        have hT4 := hT'.mv m4
        have hB4 := hB'.mv m4
        have hG4 := hG'.same m4.same
        have hm4 := hm.trans (m4.mono (by simp))
        have hk4 := hk.trans m4.tk0
        replace hv4 : match firstUntold tabs.length (bearing tabs.length st.rows) t.ta (going (tabs.length + 1) st.rows).ls st.wr (h, s) with | none => v = .non | some l => ∃ t, v = .ref t ∧ H4 t = some (.tup [iN l.1, iN l.2]) := hv4
        cases hfu : firstUntold tabs.length (bearing tabs.length st.rows) t.ta (going (tabs.length + 1) st.rows).ls st.wr (h, s) with
        | none =>
          rw [hfu] at hv4
          replace hv4 : v = .non := hv4
          subst hv4
          rw [tellStep_none c' hfu]
          refine ⟨_, rfl, _, rfl, ?_⟩
          exact ⟨⟨_, _, _, rfl⟩, hT4, hB4, hG4, hm4, hk4⟩
        | some l =>
          rw [hfu] at hv4
          obtain ⟨tl, rfl, htl⟩ := hv4
          obtain ⟨x, hx⟩ := first_ls hfu
          rw [tellStep_some c' hfu hx]
          refine ⟨_, rfl, _, rfl, ?_⟩
          clear hT' hB' hG' hm hk ob' h1 h2 ha
          obtain ⟨tv4, _, ob4⟩ := hT4.tab
          obtain ⟨rvs, hrv, hrA⟩ := hT4.rows
          refine ⟨_, rfl, _, _, _, _, _, rfl, ob4, T.cl, T.nRows, rfl, .inl ⟨rfl, _, SqL.of hrv⟩, ?_⟩
          refine ⟨_, rfl, _, _, _, _, _, rfl, ob4, T.cl, T.nMany, rfl, _, rfl, _, _, _, _, rfl, rfl, SqT.of htl, atI_nat (j := 0) rfl, _, rfl, _, _, _, _, rfl, rfl, SqT.of htl, atI_nat (j := 1) rfl, (by show 4 ≤ sizeLine; decide), fun p1 n1 => ?_⟩
          have ep1 : upd H4 p1 (.tup [.str "take", iN tabs.length, iN l.1, iN l.2]) p1 = some (.tup [.str "take", iN tabs.length, iN l.1, iN l.2]) := upd_same
          have m5 : Mv [] H4 (upd H4 p1 (.tup [.str "take", iN tabs.length, iN l.1, iN l.2])) := Mv.new n1
          have htl5 := m5.at htl (by simp)
          have hT5 := hT4.mv m5
          have hB5 := hB4.mv m5
          have hG5 := hG4.same m5.same
          have hrv5 := m5.at hrv (by simp)
          generalize upd H4 p1 (.tup [.str "take", iN tabs.length, iN l.1, iN l.2]) = H5 at *
          refine ⟨(by show 2 ≤ sizeLine; decide), fun p2 n2 => ?_⟩
          have m6 : Mv [] H5 (upd H5 p2 (.tup [.ref p1, .int 0])) := Mv.new n2
          have hT6 := hT5.mv m6
          have hB6 := hB5.mv m6
          have hG6 := hG5.same m6.same
          have htl6 := m6.at htl5 (by simp)
          have hrv6 := m6.at hrv5 (by simp)
          have hra : RowAt (upd H5 p2 (.tup [.ref p1, .int 0])) (.take tabs.length l.1 l.2, 0) (.ref p2) := ⟨p2, p1, rfl, upd_same, m6.at ep1 (by simp)⟩
          have hrl : rvs.length = t.rows.length := hrA.len.symm
          have hm6 := hm4.trans ((m5.trans m6).mono (by simp))
          refine ⟨_, _, _, rfl, rfl, hrv6, by rw [hrl]; exact Nat.lt_of_le_of_lt (by omega : _ ≤ 2000) (by decide), ?_⟩
          have hT7 := hT6.addRow hrv6 hra
          have m7 : Mv (A.all ++ Bb.all) (upd H5 p2 (.tup [.ref p1, .int 0])) (upd (upd H5 p2 (.tup [.ref p1, .int 0])) A.lr (.lst (rvs ++ [.ref p2]))) := Mv.upd (by simp [ToA.all])
          have k7 : TK (upd H5 p2 (.tup [.ref p1, .int 0])) (upd (upd H5 p2 (.tup [.ref p1, .int 0])) A.lr (.lst (rvs ++ [.ref p2]))) := hT6.tkU (by simp [ToA.all])
          have lrB : A.lr ∉ Bb.all := AB _ (by simp [ToA.all])
          have hB7 := hB6.frame (S := [A.lr]) (Mv.upd (o := .lst (rvs ++ [.ref p2])) (by simp)) k7 fun a ha => by
            rw [List.mem_singleton] at ha
            subst ha
            exact ⟨lrB, fun U z => by rw [hrv6] at z; cases z⟩
          have hG7 : GoingAt CG _ (going (tabs.length + 1) st.rows) G i0 := hG6.frame k7 fun a ha => upd_ne fun z => AG A.lr (by simp [ToA.all]) (z ▸ ha)
          have htl7 := k7 _ _ htl6
          have hm7 := hm6.trans m7
          have hk7 := (hk4.trans (m5.trans m6).tk0).trans k7
          generalize upd (upd H5 p2 (.tup [.ref p1, .int 0])) A.lr (.lst (rvs ++ [.ref p2])) = H7 at *
          obtain ⟨tv7, _, ob7⟩ := hT7.tab
          obtain ⟨tvs, htv, htA⟩ := hT7.told
          obtain ⟨gvs, hGD, hGA⟩ := hG7.ls
          obtain ⟨lv, hlv, la, z, y, rfl, hla⟩ := kv_some hGA hx
          refine ⟨_, rfl, _, _, _, _, _, rfl, ob7, T.cl, T.nTold, rfl, .inl ⟨rfl, _, SqL.of htv⟩, ?_⟩
          refine ⟨_, rfl, _, _, _, _, rfl, rfl, SqT.of htl7, atI_nat (j := 0) rfl, _, rfl, _, _, _, _, rfl, rfl, SqT.of htl7, atI_nat (j := 1) rfl, ?_⟩
          refine ⟨_, rfl, _, _, _, _, _, rfl, hG7.ob, TG.cl, TG.nL, rfl, _, rfl, G.da, _, rfl, DGet.t (k := nk l) hGD htl7 |> fun x => by rw [hlv] at x; exact x, ?_⟩
          refine ⟨la, _, _, _, rfl, rfl, SqT.of hla, atI_nat (j := 1) rfl, (by show 3 ≤ sizeLine; decide), fun p3 n3 => ?_⟩
          have m8 : Mv [] H7 (upd H7 p3 (.tup [iN l.1, iN l.2, iN x.wo])) := Mv.new n3
          have hta : ToldAt (upd H7 p3 (.tup [iN l.1, iN l.2, iN x.wo])) (l.1, l.2, x.wo) (.ref p3) := ⟨p3, rfl, upd_same⟩
          have hT8 := hT7.mv m8
          have hB8 := hB7.mv m8
          have hG8 := hG7.same m8.same
          have htl8 := m8.at htl7 (by simp)
          have htv8 := m8.at htv (by simp)
          have hm8 := hm7.trans (m8.mono (by simp))
          have hk8 := hk7.trans m8.tk0
          generalize upd H7 p3 (.tup [iN l.1, iN l.2, iN x.wo]) = H8 at *
          have htvl : tvs.length = t.told.length := htA.len.symm
          refine ⟨_, _, _, rfl, rfl, htv8, by rw [htvl]; exact Nat.lt_of_le_of_lt (by omega : _ ≤ 2000) (by decide), ?_⟩
          have hT9 := hT8.addTold htv8 hta
          have m9 : Mv (A.all ++ Bb.all) H8 (upd H8 A.lt (.lst (tvs ++ [.ref p3]))) := Mv.upd (by simp [ToA.all])
          have k9 : TK H8 (upd H8 A.lt (.lst (tvs ++ [.ref p3]))) := hT8.tkU (by simp [ToA.all])
          have ltB : A.lt ∉ Bb.all := AB _ (by simp [ToA.all])
          have hB9 := hB8.frame (S := [A.lt]) (Mv.upd (o := .lst (tvs ++ [.ref p3])) (by simp)) k9 fun a ha => by
            rw [List.mem_singleton] at ha
            subst ha
            exact ⟨ltB, fun U z => by rw [htv8] at z; cases z⟩
          have hG9 : GoingAt CG _ (going (tabs.length + 1) st.rows) G i0 := hG8.frame k9 fun a ha => upd_ne fun z => AG A.lt (by simp [ToA.all]) (z ▸ ha)
          have htl9 := k9 _ _ htl8
          have hm9 := hm8.trans m9
          have hk9 := hk8.trans k9
          generalize upd H8 A.lt (.lst (tvs ++ [.ref p3])) = H9 at *
          obtain ⟨tv9, _, ob9⟩ := hT9.tab
          refine ⟨_, rfl, _, _, _, _, _, rfl, ob9, T.cl, T.nMany, rfl, (by show 2 ≤ sizeLine; decide), fun p4 n4 => ?_⟩
          have m10 : Mv [] H9 (upd H9 p4 (.tup [iN tabs.length, .int 0])) := Mv.new n4
          have ep4 : PairR (upd H9 p4 (.tup [iN tabs.length, .int 0])) (tabs.length, 0) (.ref p4) := ⟨p4, rfl, upd_same⟩
          have hT10 := hT9.mv m10
          have hB10 := hB9.mv m10
          have hG10 := hG9.same m10.same
          have htl10 := m10.at htl9 (by simp)
          have hm10 := hm9.trans (m10.mono (by simp))
          have hk10 := hk9.trans m10.tk0
          generalize upd H9 p4 (.tup [iN tabs.length, .int 0]) = H10 at *
          obtain ⟨kvs, hD, hAl⟩ := hB10.ta
          have htal : kvs.length = t.ta.length := hAl.len.symm
          refine ⟨_, rfl, _, _, _, _, _, rfl, hB10.ob, TB.cl, TB.nT, rfl, _, rfl, Bb.dt, _, rfl, DPut.t (k := nk l) hD htl10 (by rw [htal]; exact Nat.lt_of_le_of_lt (by omega : _ ≤ 2000) (by decide)), ?_⟩
          have hB11 := hB10.putTa (q := l) (x := (tabs.length, 0)) hD hAl ep4
          have k11 : TK H10 (upd H10 Bb.dt (.dT (putK kvs (nk l) (.ref p4)))) := hB10.tkU (by simp [BA.all])
          have dtA : ∀ a ∈ A.all, a ≠ Bb.dt := fun a ha z => AB a ha (by rw [z]; simp [BA.all])
          have hT11 := hT10.frame k11 fun a ha => upd_ne (dtA a ha)
          have hG11 : GoingAt CG _ (going (tabs.length + 1) st.rows) G i0 := hG10.frame k11 fun a ha => upd_ne fun z => hdj Bb.dt (by simp [BA.all]) (z ▸ ha)
          exact ⟨⟨_, _, _, rfl⟩, hT11, hB11, hG11, hm10.trans (Mv.upd (by simp [BA.all])), hk10.trans k11⟩
    · intro σ H' ⟨⟨u1, u2, u3, hσ⟩, hT', hB', hG', hm, hk⟩
      rw [← hA.len] at hT'
      have e : tellTo tabs.length st.rows st.wr st.told st.rows.length = tellGo tabs.length st.rows st.wr st.told := by
        unfold tellTo
        rw [List.take_length]; rfl
      rw [e] at hT'
      refine kq H' ?_ hT'
      exact ((m13.mono (S' := A.all ++ Bb.all) (by simp)).trans hm).weak fun a ha => by
        rcases List.mem_append.mp ha with h | h
        · exact .inl h
        · exact .inr (hbn a h)
end
end Lor
end

section
set_option Elab.async false
set_option linter.all false
set_option maxRecDepth 100000
set_option maxHeartbeats 4000000
namespace Lor
open PySem PySem.Spec PyProof.Rows L2
theorem sum_set_lt : ∀ {c : List Nat} {h x : Nat}, h < c.length → x < c.getD h 0 → (c.set h x).sum < c.sum
  | [], _, _, hl, _ => by cases hl
  | a :: r, 0, x, _, hx => by
    show x + r.sum < a + r.sum
    have : x < a := hx
    omega
  | a :: r, h + 1, x, hl, hx => by
    show a + (r.set h x).sum < a + r.sum
    have := sum_set_lt (c := r) (h := h) (x := x) (Nat.lt_of_succ_lt_succ hl) (by simpa using hx)
    omega
/-- a cut on its way down -/
structure Down (many : Nat) (ta so : List (Nm × Nm)) (most c : List Nat) : Prop where
  len : c.length = many
  under : ∀ h, h < many → c.getD h 0 ≤ most.getD h 0
  top : ∀ d : List Nat, (∀ h, h < many → d.getD h 0 ≤ most.getD h 0) → IsCutS many ta so d → ∀ h, h < many → d.getD h 0 ≤ c.getD h 0
theorem Down.step {many : Nat} {ta so : List (Nm × Nm)} {most c : List Nat} (D : Down many ta so most c) {l : Nm} {h s o n : Nat} (ht : (l, (h, s)) ∈ ta) (hs : aget so l = some (o, n)) (h1 : h < many) (hp : 1 ≤ s) (h2 : s ≤ c.getD h 0) (h3 : o < many) (h4 : c.getD o 0 < n) :
    Down many ta so most (c.set h (s - 1)) := by
  have hh : h < c.length := by rw [D.len]; exact h1
  refine ⟨List.length_set.trans D.len, fun x hx => ?_, fun d hd hc x hx => ?_⟩
  · rw [getD_set hh]
    split
    next e => subst e; have := D.under x hx; omega
    next => exact D.under x hx
  · rw [getD_set hh]
    split
    next e =>
      subst e
      by_cases c1 : s ≤ d.getD x 0
      · have a := hc l x s o n ht hs h1 c1 h3
        have b := D.top d hd hc o h3
        omega
      · omega
    next => exact D.top d hd hc x hx
/-- the constraint of one taken letter -/
def CutOne (many : Nat) (so : List (Nm × Nm)) (c : List Nat) (q : Nm × Nm) : Prop := ∀ o n, aget so q.1 = some (o, n) → q.2.1 < many → q.2.2 ≤ c.getD q.2.1 0 → o < many → n ≤ c.getD o 0
section
variable {P : Program} {w : World} {K : PySem.W.Frag} {mg : Str → Option Value} {base : Heap} {C CG CB : Addr} {tabs : Tabs} {al : Bool}
/-! ### Town.cut_down -/
def spCut (C CB : Addr) (tabs : Tabs) (al : Bool) : Sp := fun vs H Q _ => ∃ (A : ToA) (st : TS) (n : Nat) (Bb : BA) (b : Bs) (lm : Addr) (most : List Nat), vs = [.ref A.p, .ref Bb.p, .ref lm] ∧ TownAt C tabs al H st A n ∧ BearAt CB H b Bb ∧ NatsL H lm most ∧ most.length = tabs.length ∧
  (∀ p ∈ b.ta, ahas b.so p.1 = true) ∧ (∀ p ∈ b.ta, p.2.1 < tabs.length → 1 ≤ p.2.2) ∧ ∀ (H' : Hp) (L : Addr) (c : List Nat), H L = none → Mv [] H H' → NatsL H' L c → Great tabs.length b.ta b.so most c → Q (.ref L) H'
theorem sc3015 : FnScope ["self", "bearing", "most", "found", "is_new", "letter", "hand", "step", "other", "number"] ["self", "bearing", "most"] (defScope (inClass (top 30) 15)) := ⟨rfl, rfl, rfl, by decide +kernel, rfl, by decide +kernel, by decide +kernel⟩
theorem ok_cut (D : MethAt K C "cut_down" "Town.cut_down" (inClass (top 30) 15)) (B : Bl mg) (T : ToC K C) (TB : BeC K CB) : LMet P w K mg base 1 C "cut_down" (spCut C CB tabs al) := by
  refine met_of T.cl D sc3015 (fun _ _ _ _ _ _ us hl => match us, hl with | [_, _, _], _ => rfl) (fun vs H Q E h => ?_) (fun fa cdv Ar outer s H vs Q E hr h => ?_)
  · obtain ⟨A, st, n, Bb, b, lm, most, rfl, _⟩ := h
    rfl
  · obtain ⟨A, st, n, Bb, b, lm, most, rfl, hT, hB, hM, hml, hts, htp, kq⟩ := h
    have nd := sc3015.nd
    refine ⟨_, (pss_cons (ps_set (i := 3) nd rfl (Or.inl rfl) (pe_callTy call_list_of (by rfl) B.list (by decide +kernel) (pa_cons (pv 2) pa_nil)))
 (pss_cons (ps_set (i := 4) nd rfl (Or.inl rfl) pe_bl)
 (pss_cons (ps_while PassesOwn.never (pt_val (pv 4))
 (pss_cons (ps_set (i := 4) nd rfl (Or.inl rfl) pe_bl)
 (pss_one (ps_lock (ps_for PassesOwn.never rfl (pi_itemsT (pe_fld (pv 1) rfl)) (pg_tup (n := 2) rfl (pgs_cons (pg_name (i := 5) nd rfl (Or.inl rfl)) (pgs_cons (pg_tup (n := 2) rfl (pgs_cons (pg_name (i := 6) nd rfl (Or.inl rfl)) (pgs_cons (pg_name (i := 7) nd rfl (Or.inl rfl)) pgs_nil))) pgs_nil)))
 (pss_cons (ps_asg (pe_dget (hu_of hr) (pe_fld (pv 1) rfl) (pv 5) (fun _ _ => rfl)) (pg_tup (n := 2) rfl (pgs_cons (pg_name (i := 8) nd rfl (Or.inl rfl)) (pgs_cons (pg_name (i := 9) nd rfl (Or.inl rfl)) pgs_nil))))
 (pss_one (ps_if (PW.pt (pw_and (pt_cmpR op_lt (pv 6) (pe_fld (pv 0) rfl) (nomark _)) (pw_and (pt_cmpR op_le (pv 7) (pe_ix ix_list (pv 3) (pv 6) (fun _ _ => rfl)) (nomark _)) (pw_and (pt_cmpR op_lt (pv 8) (pe_fld (pv 0) rfl) (nomark _)) (pw_and1 (pt_cmpR op_gt (pv 9) (pe_ix ix_list (pv 3) (pv 8) (fun _ _ => rfl)) (nomark _)))))))
 (pss_cons (ps_asg (pe_op op_sub (pv 7) pe_int) (pg_sub (pv 3) (pv 6) set_list))
 (pss_one (ps_set (i := 4) nd rfl (Or.inl rfl) pe_bl)))
 pss_nil))))))))
 (pss_one (ps_ret (pv 3)))))), ?_⟩
    obtain ⟨tv, _, ob⟩ := hT.tab
    refine ⟨_, rfl, lm, _, rfl, .inl (SqL.of hM), fun L nL => ?_⟩
    have eL : NatsL (upd H L (.lst (most.map iN))) L most := upd_same
    have m1 : Mv [] H (upd H L (.lst (most.map iN))) := Mv.new nL
    generalize upd H L (.lst (most.map iN)) = H1 at *
    refine while_by (fun σ H' => ∃ c nw, (∃ x5 x6 x7 x8 x9, σ = [some (.ref A.p), some (.ref Bb.p), some (.ref lm), some (.ref L), some (.bl nw), x5, x6, x7, x8, x9]) ∧ Mv [] H H' ∧ NatsL H' L c ∧ Down tabs.length b.ta b.so most c ∧ (nw = false → IsCutS tabs.length b.ta b.so c))
      (fun σ H' => (match H' L with | some (.lst vs) => (vs.map fun v => match v with | .int i => i.toNat | _ => 0).sum | _ => 0) + (if σ[4]? = some (some (.bl true)) then 1 else 0)) ?_ ?_ ?_
    · exact ⟨most, true, ⟨_, _, _, _, _, rfl⟩, m1, eL, ⟨hml, fun _ _ => Nat.le_refl _, fun d hd _ => hd⟩, fun z => by cases z⟩
    · intro σ H' ⟨c, nw, ⟨x5, x6, x7, x8, x9, hσ⟩, hm, hc, hdn, hcut⟩
      subst hσ
      refine ⟨_, rfl, nw, rfl, ?_⟩
      refine ite2 (fun cn => ?_) (fun cn => ?_)
      rotate_left
      · have cn' : nw = false := by simpa using cn
        exact ⟨_, rfl, kq H' L c nL hm hc ⟨hdn.len, hdn.under, hcut cn', hdn.top⟩⟩
      subst cn
      have hB' := hB.mv hm
      have ob' := hm.at ob (by simp)
      have bn := BNe.of hB.nd
      obtain ⟨kvs, hD, hA⟩ := hB'.ta
      obtain ⟨svs, hSD, hSA⟩ := hB'.so
      have muE : ∀ {G : Hp} {cc : List Nat}, NatsL G L cc → (match G L with | some (.lst vs) => (vs.map fun v => match v with | .int i => i.toNat | _ => 0).sum | _ => 0) = cc.sum := fun h => by
        rw [h]
        show (List.map _ (List.map iN _)).sum = _
        rw [List.map_map]
        congr 1
        exact (List.map_congr_left fun x _ => Int.toNat_natCast x).trans (List.map_id _)
      rw [muE hc]
      refine ⟨Bb.dt, .dT kvs, hD, trivial, fun od => ?_⟩
      have M0 : Mv [Bb.dt] H' (upd H' Bb.dt (.frz od (.dT kvs))) := mv_frz
      have ed0 : upd H' Bb.dt (.frz od (.dT kvs)) Bb.dt = some (.frz od (.dT kvs)) := upd_same
      have Ldt : L ≠ Bb.dt := fun z => by
        obtain ⟨o, e, _⟩ := hB.live Bb.dt (by simp [BA.all])
        rw [z, e] at nL; cases nL
      have fin : ∀ {G}, Mv [L] (upd H' Bb.dt (.frz od (.dT kvs))) G → Mv [] H (upd G Bb.dt (.dT kvs)) := fun m => ((hm.mono (S' := [L]) (by simp)).trans (mv_lock hD m)).weak (by simp [nL])
      generalize upd H' Bb.dt (.frz od (.dT kvs)) = H0 at *
      have k0 : TK H' H0 := M0.tk fun a ha xs z => by
        rw [List.mem_singleton] at ha
        subst ha
        rw [hD] at z; cases z
      have ndT : ∀ {a : Addr} {C' dx : Addr} {fs : List (Str × V)}, H' a = some (.ins C' dx fs) → a ∉ [Bb.dt] := fun h z => by
        rw [List.mem_singleton] at z
        subst z
        rw [hD] at h; cases h
      have ob0 := M0.at ob' (ndT ob')
      have bob0 := M0.at hB'.ob (ndT hB'.ob)
      have hc0 : NatsL H0 L c := M0.at hc (by simp; exact Ldt)
      have hSD0 := M0.at hSD (by simp; exact bn.st)
      have hA0 := kv_imp hA fun _ _ z => z.mono k0
      have hSA0 := kv_imp hSA fun _ _ z => z.mono k0
      have pL : A.p ≠ L := ne_none (some_ne ob) nL
      have bpL : Bb.p ≠ L := ne_none (some_ne hB.ob) nL
      have dsL : Bb.ds ≠ L := fun z => by
        obtain ⟨o, e, _⟩ := hB.live Bb.ds (by simp [BA.all])
        rw [← z, e] at nL; cases nL
      have kL : ∀ {G : Hp}, Mv [L] H0 G → TK H0 G := fun m => m.tk (by
        intro a ha xs z
        rw [List.mem_singleton] at ha
        subst ha
        have := hc0.symm.trans z; cases this)
      clear hD hSD hA hSA hB' ob' M0 ndT k0 hm hc
      refine ⟨_, rfl, _, _, _, _, _, rfl, bob0, TB.cl, TB.nT, rfl, Bb.dt, od, kvs, rfl, ed0, ?_⟩
      refine for_it walk_itemsT (fun i σ G => ∃ c' nw, (∃ x5 x6 x7 x8 x9, σ = [some (.ref A.p), some (.ref Bb.p), some (.ref lm), some (.ref L), some (.bl nw), x5, x6, x7, x8, x9]) ∧ Mv [L] H0 G ∧ NatsL G L c' ∧ Down tabs.length b.ta b.so most c' ∧
        (nw = false → c' = c ∧ ∀ j x, j < i → b.ta[j]? = some x → CutOne tabs.length b.so c x) ∧ (nw = true → c'.sum < c.sum)) ?_ ?_ ?_ ?_
      · exact ⟨c, false, ⟨_, _, _, _, _, rfl⟩, Mv.refl _ _, hc0, hdn, fun _ => ⟨rfl, fun j x hj => absurd hj (Nat.not_lt_zero _)⟩, fun z => by cases z⟩
      · exact fun i σ G _ ⟨c', nw, _, m, _⟩ => m.at ed0 (by simp; exact Ldt.symm)
      · intro i x σ G1 G2 hi ⟨c', nw, ⟨x5, x6, x7, x8, x9, hσ⟩, m, hc', hdn', hf, ht⟩ ⟨T', k, v, q, hkv, hx, hT', hq, hH2⟩
        subst hσ hx
        obtain ⟨⟨nm, hh, ss⟩, hta, ek, ev⟩ := hA0.getR hkv
        replace ek : k = nk nm := ek
        replace ev : PairR H0 (hh, ss) v := ev
        subst ek
        obtain ⟨va, rfl, hva⟩ := ev
        have mem := List.mem_of_getElem? hta
        obtain ⟨⟨o, nn⟩, hso⟩ := Option.isSome_iff_exists.mp (hts _ mem)
        replace hso : aget b.so nm = some (o, nn) := hso
        have hpos : hh < tabs.length → 1 ≤ ss := htp _ mem
        obtain ⟨sv, hsv, sa, rfl, hsa⟩ := kv_some hSA0 hso
        have et : G2 T' = some (.tup [.ref q, .ref va]) := by rw [hH2, upd_same]
        have m1' : Mv [L] H0 G2 := m.trans (by rw [hH2]; exact Mv.new hT')
        have hc2 : NatsL G2 L c' := by
          unfold NatsL
          rw [hH2, upd_ne (ne_none (some_ne hc') hT')]; exact hc'
        have hq2 : G2 q = some (.tup [iN nm.1, iN nm.2]) := by rw [hH2, upd_ne (ne_none (some_ne hq) hT')]; exact hq
        clear hH2 hq hT' m hc'
        have kk := kL m1'
        have skip : CutOne tabs.length b.so c' (nm, hh, ss) → ∀ σ' : L2.St, (∃ x5 x6 x7 x8 x9, σ' = [some (.ref A.p), some (.ref Bb.p), some (.ref lm), some (.ref L), some (.bl nw), x5, x6, x7, x8, x9]) → ∃ c' nw, (∃ x5 x6 x7 x8 x9, σ' = [some (.ref A.p), some (.ref Bb.p), some (.ref lm), some (.ref L), some (.bl nw), x5, x6, x7, x8, x9]) ∧ Mv [L] H0 G2 ∧ NatsL G2 L c' ∧ Down tabs.length b.ta b.so most c' ∧
            (nw = false → c' = c ∧ ∀ j x, j < i + 1 → b.ta[j]? = some x → CutOne tabs.length b.so c x) ∧ (nw = true → c'.sum < c.sum) := fun co σ' hs => by
          refine ⟨c', nw, hs, m1', hc2, hdn', fun z => ⟨(hf z).1, fun j x hj hx => ?_⟩, ht⟩
          by_cases e : j = i
          · subst e
            rw [hta] at hx
            cases hx
            rw [← (hf z).1]; exact co
          · exact (hf z).2 j x (by omega) hx
        refine ⟨T', _, rfl, SqT.of et, rfl, _, _, rfl, _, _, rfl, va, _, rfl, SqT.of (kk _ _ hva), rfl, _, _, rfl, _, _, rfl, rfl, rfl, ?_⟩
        refine ⟨_, rfl, _, _, _, _, _, rfl, m1'.at bob0 (by simp; exact bpL), TB.cl, TB.nS, rfl, _, rfl, Bb.ds, _, rfl, DGet.t (k := nk nm) (m1'.at hSD0 (by simp; exact dsL)) hq2 |> fun x => by rw [hsv] at x; exact x, ?_⟩
        refine ⟨sa, _, rfl, SqT.of (kk _ _ hsa), rfl, _, _, rfl, _, _, rfl, rfl, ?_⟩
        have ob2 := m1'.at ob0 (by simp; exact pL)
        refine ⟨_, rfl, _, rfl, _, _, _, _, _, rfl, ob2, T.cl, T.nMany, rfl, _, _, rfl, rfl, _, rfl, ?_⟩
        refine ite2 (fun d1 => ?_) (fun d1 => ?_)
        rotate_left
        · have d1' : ¬ hh < tabs.length := fun z => d1 (decide_eq_true (Int.ofNat_lt.mpr z))
          exact skip (fun o' n' e1 e2 => absurd e2 d1') _ ⟨_, _, _, _, _, rfl⟩
        have d1' : hh < tabs.length := Int.ofNat_lt.mp (of_decide_eq_true d1)
        have hl1 : hh < c'.length := by rw [hdn'.len]; exact d1'
        refine ⟨_, rfl, _, rfl, _, rfl, _, _, _, _, rfl, rfl, SqL.of hc2, atI_nat (nats_get (getD_get hl1)), _, _, rfl, rfl, _, rfl, ?_⟩
        refine ite2 (fun d2 => ?_) (fun d2 => ?_)
        rotate_left
        · have d2' : ¬ ss ≤ c'.getD hh 0 := fun z => d2 (decide_eq_true (Int.ofNat_le.mpr z))
          exact skip (fun o' n' e1 e2 e3 => absurd e3 d2') _ ⟨_, _, _, _, _, rfl⟩
        have d2' : ss ≤ c'.getD hh 0 := Int.ofNat_le.mp (of_decide_eq_true d2)
        refine ⟨_, rfl, _, rfl, _, _, _, _, _, rfl, ob2, T.cl, T.nMany, rfl, _, _, rfl, rfl, _, rfl, ?_⟩
        refine ite2 (fun d3 => ?_) (fun d3 => ?_)
        rotate_left
        · have d3' : ¬ o < tabs.length := fun z => d3 (decide_eq_true (Int.ofNat_lt.mpr z))
          exact skip (fun o' n' e1 e2 e3 e4 => by
            rw [hso] at e1; cases e1
            exact absurd e4 d3') _ ⟨_, _, _, _, _, rfl⟩
        have d3' : o < tabs.length := Int.ofNat_lt.mp (of_decide_eq_true d3)
        have hl3 : o < c'.length := by rw [hdn'.len]; exact d3'
        refine ⟨_, rfl, _, rfl, _, rfl, _, _, _, _, rfl, rfl, SqL.of hc2, atI_nat (nats_get (getD_get hl3)), _, _, rfl, rfl, _, rfl, ?_⟩
        refine ite2 (fun d4 => ?_) (fun d4 => ?_)
        rotate_left
        · have d4' : ¬ c'.getD o 0 < nn := fun z => d4 (decide_eq_true (Int.ofNat_lt.mpr z))
          exact skip (fun o' n' e1 e2 e3 e4 => by
            rw [hso] at e1; cases e1
            omega) _ ⟨_, _, _, _, _, rfl⟩
        have d4' : c'.getD o 0 < nn := Int.ofNat_lt.mp (of_decide_eq_true d4)
        have hp := hpos d1'
        refine ⟨_, rfl, _, _, rfl, rfl, _, rfl, _, rfl, _, _, _, _, rfl, rfl, hc2, ixN_nat (by rw [List.length_map]; exact hl1), ?_⟩
        have e5 : (c'.map iN).set hh (.int ((ss : Int) - 1)) = (c'.set hh (ss - 1)).map iN := by
          rw [← set_iN]
          congr 2
          omega
        rw [e5]
        refine ⟨c'.set hh (ss - 1), true, ⟨_, _, _, _, _, rfl⟩, m1'.trans (Mv.upd (by simp)), upd_same, hdn'.step mem hso d1' hp d2' d3' d4', (fun z => by cases z), fun _ => ?_⟩
        have lt := sum_set_lt (c := c') (h := hh) (x := ss - 1) hl1 (by omega)
        cases hnw : nw with
        | true => have := ht hnw; omega
        | false => rw [(hf hnw).1] at lt; rw [(hf hnw).1]; exact lt
      · intro σ G ⟨c', nw, hσ, m, hc', hdn', hf, ht⟩
        have e0 := m.at ed0 (by simp; exact Ldt.symm)
        have hcU : NatsL (upd G Bb.dt (.dT kvs)) L c' := by
          unfold NatsL
          rw [upd_ne Ldt]; exact hc'
        refine ⟨e0, ⟨c', nw, hσ, fin m, hcU, hdn', fun z => ?_⟩, ?_⟩
        · obtain ⟨e1, e2⟩ := hf z
          subst e1
          intro l h s o n' hm' ho hh hs ho'
          obtain ⟨j, hj⟩ := List.getElem?_of_mem hm'
          exact e2 j _ (by rw [← hA0.len]; exact lt_of_get hj) hj o n' ho hh hs ho'
        · obtain ⟨x5, x6, x7, x8, x9, hσ⟩ := hσ
          subst hσ
          rw [muE hcU]
          cases nw with
          | true => have := ht rfl; simp; omega
          | false => rw [(hf rfl).1]; simp
    · intro σ H Q Q' hq ⟨v, h1, c, h2, h3⟩
      exact ⟨v, h1, c, h2, hq _ _ h3⟩
end
end Lor
end

section
set_option Elab.async false
set_option linter.all false
set_option maxRecDepth 100000
set_option maxHeartbeats 4000000
namespace Lor
open PySem PySem.Spec PyProof.Rows L2
theorem inV_nat (h : Nat) (l : List Nat) : inV (iN h) (l.map iN) = decide (h ∈ l) := by
  unfold inV
  rw [List.any_map]
  induction l with
  | nil => rfl
  | cons a r ih =>
    rw [List.any_cons, ih]
    by_cases c : a = h
    · subst c
      have : ((fun y => eqV y (iN a)) ∘ iN) a = true := by show ((a : Int) == (a : Int)) = true; simp
      rw [this]; simp
    · have : ((fun y => eqV y (iN h)) ∘ iN) a = false := by show ((a : Int) == (h : Int)) = false; simp; omega
      rw [this]
      simp [Ne.symm c]
theorem flat_nat (l : List Nat) : (l.map iN).all flatV = true := by
  rw [List.all_map, List.all_eq_true]
  intro x _
  rfl
theorem known_box {many : Nat} {b : Bs} (hl : b.kn.length = many + 1) (hb : ∀ S ∈ b.kn, Box many S) (fallen : List Nat) (kn : Bool) : ∀ i, i ≤ many → Box many ((List.range i).foldl (fun ks h => if kn = true ∧ h ∉ fallen then kupd ks (b.kn.getD h []) else ks) [])
  | 0, _ => Box.nil
  | i + 1, h => by
    rw [List.range_succ, List.foldl_append]
    show Box many (if _ then _ else _)
    have ih := known_box hl hb fallen kn i (Nat.le_of_succ_le h)
    split
    · exact ih.upd (hb _ (mem_getD (by omega)))
    · exact ih
theorem getD_snoc {l : List Nat} {a i h : Nat} (hl : l.length = i) : (l ++ [a]).getD h 0 = if h = i then a else l.getD h 0 := by
  rw [List.getD_eq_getElem?_getD, List.getD_eq_getElem?_getD, List.getElem?_append, hl]
  by_cases c : h = i
  · subst c
    rw [if_neg (Nat.lt_irrefl _), if_pos rfl]
    simp
  · rw [if_neg c]
    by_cases d : h < i
    · rw [if_pos d]
    · rw [if_neg d, List.getElem?_eq_none (by simp; omega), List.getElem?_eq_none (by omega)]
theorem all_snoc {ms : List Nat} {v i : Nat} {Pr : Nat → Nat → Prop} (hl : ms.length = i) (h : ∀ h, h < i → Pr h (ms.getD h 0)) (hv : Pr i v) : ∀ h, h < i + 1 → Pr h ((ms ++ [v]).getD h 0) := by
  intro x hx
  rw [getD_snoc hl]
  by_cases c : x = i
  · rw [if_pos c, c]; exact hv
  · rw [if_neg c]; exact h x (by omega)
section
variable {P : Program} {w : World} {K : PySem.W.Frag} {mg : Str → Option Value} {base : Heap} {C CG CB : Addr} {tabs : Tabs} {al : Bool}
/-! ### Town.kept_by -/
def spKept (C : Addr) (tabs : Tabs) (al : Bool) : Sp := fun vs H Q _ => ∃ (A : ToA) (st : TS) (n : Nat) (fa : Addr) (fl : List Nat) (kn : Bool), vs = [.ref A.p, .ref fa, .bl kn] ∧ TownAt C tabs al H st A n ∧ tabs.length ≤ 4 ∧ Fit tabs.length st.rows ∧ H fa = some (.tup (fl.map iN)) ∧ st.wr.length = tabs.length ∧
  (∀ h, h < tabs.length → st.wr.getD h 0 ≤ 1000) ∧ ∀ (H' : Hp) (L : Addr) (c : List Nat), H L = none → Mv [] H H' → NatsL H' L c → Kept tabs.length st fl kn c → Q (.ref L) H'
theorem sc3014 : FnScope ["self", "fallen", "knowing", "bearing", "known", "hand", "found", "many", "first", "some", "step"] ["self", "fallen", "knowing"] (defScope (inClass (top 30) 14)) := ⟨rfl, rfl, rfl, by decide +kernel, rfl, by decide +kernel, by decide +kernel⟩
theorem ok_kept (D : MethAt K C "kept_by" "Town.kept_by" (inClass (top 30) 14)) (B : Bl mg) (T : ToC K C) (TB : BeC K CB) (GB : LMet P w K mg base 3 C "bearing" (spBearing C CB tabs al)) (GC : LMet P w K mg base 1 C "count_of" (spCount C tabs al)) (GU : LMet P w K mg base 1 C "cut_down" (spCut C CB tabs al)) :
    LMet P w K mg base 4 C "kept_by" (spKept C tabs al) := by
  refine met_of T.cl D sc3014 (fun _ _ _ _ _ _ us hl => match us, hl with | [_, _, _], _ => rfl) (fun vs H Q E h => ?_) (fun fa' cdv Ar outer s H vs Q E hr h => ?_)
  · obtain ⟨A, st, n, fa, fl, kn, rfl, _⟩ := h
    rfl
  · obtain ⟨A, st, n, fa, fl, kn, rfl, hT, h4, hf, hfa, hwl, hwb, kq⟩ := h
    have nd := sc3014.nd
    refine ⟨_, (pss_cons (ps_set (i := 3) nd rfl (Or.inl rfl) (pe_m0' GB hr (by decide) (pv 0)))
 (pss_cons (ps_set (i := 4) nd rfl (Or.inr rfl) pe_dnewT)
 (pss_cons (ps_for PassesOwn.never rfl (pi_range1 (by rfl) B.range (pa_cons (pe_fld (pv 0) rfl) pa_nil)) (pg_name (i := 5) nd rfl (Or.inr rfl))
 (pss_one (ps_if (PW.pt (pw_and (pt_val (pv 2)) (pw_and1 (pt_cmpR op_notIn_seq (pv 5) (pv 1) rfl))))
 (pss_one (ps_expr (pe_bm PySem.F.plainAttrs_dict PySem.F.slot_dict_update PySem.F.type_dict_update (mt_updT (hu_of hr)) (pv 4) (pa_cons (pe_ix ix_list (pe_fld (pv 3) rfl) (pv 5) (fun _ _ => rfl)) pa_nil))))
 pss_nil)))
 (pss_cons (ps_set (i := 6) nd rfl (Or.inl rfl) (pe_lst pa_nil))
 (pss_cons (ps_for PassesOwn.never rfl (pi_range1 (by rfl) B.range (pa_cons (pe_fld (pv 0) rfl) pa_nil)) (pg_name (i := 5) nd rfl (Or.inr rfl))
 (pss_cons (ps_set (i := 7) nd rfl (Or.inl rfl) (pe_m GC hr (by decide) (pv 0) (pa_cons (pv 5) pa_nil)))
 (pss_cons (ps_if (pt_cmpR op_in_seq (pv 5) (pv 1) rfl)
 (pss_cons (ps_set (i := 8) nd rfl (Or.inl rfl) (pe_op op_add (pe_ix ix_list (pe_fld (pv 0) rfl) (pv 5) (fun _ _ => rfl)) pe_int))
 (pss_cons (ps_setLc (i := 9) (own := [("step", 10)]) (g := gName 10) rfl nd rfl rfl (sw_true rfl rfl rfl (by decide +kernel)) (pi_range2 (by rfl) B.range (pa_cons (pv 8) (pa_cons (pe_op op_add (pv 7) pe_int) pa_nil))) (blkOk_by (own := [("step", 10)]) (N := ["self", "fallen", "knowing", "bearing", "known", "hand", "found", "many", "first", "some", "step"]) (sc := defScope (inClass (top 30) 14)) (by decide +kernel)) (fun _ _ _ _ _ => (pg_name (i := 10) nd rfl (Or.inl rfl))) (fun _ _ _ _ _ => pts_one (pt_cmp (pc_dnotin (hu_of hr) (pe_tup (pa_cons (pv 5) (pa_cons (pv 10) pa_nil))) (pv 4)))) (fun _ _ _ _ _ => (pv 10)))
 (pss_one (ps_set (i := 7) nd rfl (Or.inl rfl) (pe_op op_sub (pe_callBK (cr_minD rfl) (by rfl) B.min boot_min (pa_cons (pv 9) pa_nil) (pk_cons (pe_op op_add (pv 7) pe_int) pk_nil)) pe_int)))))
 pss_nil)
 (pss_one (ps_expr (pe_bm PySem.F.plainAttrs_list PySem.F.slot_list_append PySem.F.type_list_append mt_append (pv 6) (pa_cons (pv 7) pa_nil)))))))
 (pss_one (ps_ret (pe_m GU hr (by decide) (pv 0) (pa_cons (pv 3) (pa_cons (pv 6) pa_nil)))))))))), ?_⟩
    obtain ⟨tv, _, ob⟩ := hT.tab
    have bi := binv hf.valid
    have ti := ta_inv hf.valid
    refine ⟨_, rfl, _, _, _, rfl, ob, rfl, A, st, n, rfl, hT, h4, hf, fun Bb H1 hbn m1 hB => ?_⟩
    generalize hbb : bearing tabs.length st.rows = b at *
    have hT1 := hT.mv m1
    have ob1 := m1.at ob (by simp)
    have hfa1 := m1.at hfa (by simp)
    refine fun d ndd => ?_
    have ed : upd H1 d (.dT []) d = some (.dT (setD [])) := upd_same
    have m2 : Mv [] H1 (upd H1 d (.dT [])) := Mv.new ndd
    generalize upd H1 d (.dT []) = H2 at *
    refine ⟨_, rfl, _, _, _, _, _, rfl, m2.at ob1 (by simp), T.cl, T.nMany, rfl, tabs.length, rfl, by omega, by omega, ?_⟩
    refine for_range (lo := 0) (n := tabs.length) (fun i σ H' => (∃ x5 x6 x7 x8 x9 x10, σ = [some (.ref A.p), some (.ref fa), some (.bl kn), some (.ref Bb.p), some (.ref d), x5, x6, x7, x8, x9, x10]) ∧ Mv [] H1 H' ∧ H' d = some (.dT (setD ((List.range i).foldl (fun ks h => if kn = true ∧ h ∉ fl then kupd ks (b.kn.getD h []) else ks) [])))) ?_ ?_ ?_
    · exact ⟨⟨_, _, _, _, _, _, rfl⟩, m2, ed⟩
    · intro i σ H' hi ⟨⟨x5, x6, x7, x8, x9, x10, hσ⟩, hm, hd⟩
      subst hσ
      have hB' := hB.mv hm
      have bxk := known_box bi.kl bi.kn fl kn i (Nat.le_of_lt hi)
      generalize hks : (List.range i).foldl (fun ks h => if kn = true ∧ h ∉ fl then kupd ks (b.kn.getD h []) else ks) [] = ks at *
      have ers : (List.range (i + 1)).foldl (fun ks h => if kn = true ∧ h ∉ fl then kupd ks (b.kn.getD h []) else ks) [] = if kn = true ∧ i ∉ fl then kupd ks (b.kn.getD i []) else ks := by
        rw [List.range_succ, List.foldl_append, hks]; rfl
      rw [ers]
      rw [show ((0 : Int) + (i : Nat)) = (i : Nat) from Int.zero_add _]
      refine ⟨_, rfl, _, rfl, ?_⟩
      refine ite2 (fun c1 => ?_) (fun c1 => ?_)
      rotate_left
      · rw [if_neg fun z => c1 z.1]
        exact ⟨⟨_, _, _, _, _, _, rfl⟩, hm, hd⟩
      refine ⟨_, rfl, _, rfl, fa, _, rfl, .inr (SqT.of (hm.at hfa1 (by simp))), rfl, flat_nat _, _, rfl, ?_⟩
      rw [if_pos rfl, inV_nat]
      refine ite2 (fun c2 => ?_) (fun c2 => ?_)
      rotate_left
      · have c2' : i ∈ fl := by simpa using c2
        rw [if_neg fun z => z.2 c2']
        exact ⟨⟨_, _, _, _, _, _, rfl⟩, hm, hd⟩
      have c2' : i ∉ fl := by simpa using c2
      rw [if_pos ⟨c1, c2'⟩]
      have hn : i < Bb.ks.length := by rw [← hB'.kn.len, bi.kl]; omega
      have ea : Bb.ks[i]? = some Bb.ks[i] := List.getElem?_eq_getElem hn
      obtain ⟨S, hS, eS⟩ := hB'.kn.getR ea
      have eS2 : b.kn.getD i [] = S := by rw [List.getD_eq_getElem?_getD, hS]; rfl
      have bx := bi.kn S (List.mem_of_getElem? hS)
      have hne : d ≠ Bb.ks[i] := fun z => by
        obtain ⟨S1, _, e⟩ := hB.kn.memR Bb.ks[i] (List.getElem_mem hn)
        rw [← z, ndd] at e; cases e
      refine ⟨_, rfl, .inr (.inr (.inl ⟨rfl, .inr ⟨_, hd⟩⟩)), ?_⟩
      refine ⟨_, rfl, _, _, _, _, _, rfl, hB'.ob, TB.cl, TB.nK, rfl, _, rfl, _, _, _, _, rfl, rfl, SqL.of hB'.kl, atI_nat (v := V.ref Bb.ks[i]) (by rw [List.getElem?_map, ea]; rfl), ?_⟩
      refine ⟨d, Bb.ks[i], _, _, rfl, rfl, hne, hd, eS, .inr (box_apart bx h4), ?_, ?_⟩
      · rw [setD_len, setD_len]
        have x1 := box_few bx h4
        have x2 := box_few bxk h4
        exact Nat.le_trans (by omega : _ ≤ 340) (by decide)
      rw [setD_upd, eS2]
      exact ⟨⟨_, _, _, _, _, _, rfl⟩, hm.own ndd, upd_same⟩
    · intro σ H' ⟨⟨x5, x6, x7, x8, x9, x10, hσ⟩, hm, hd⟩
      subst hσ
      replace hd : H' d = some (.dT (setD (knownBy b tabs.length fl kn))) := hd
      refine ⟨by decide, fun L nL => ?_⟩
      have eL : NatsL (upd H' L (.lst [])) L [] := upd_same
      have m3 : Mv [] H' (upd H' L (.lst [])) := Mv.new nL
      have hd3 := m3.at hd (by simp)
      have hm3 := hm.trans m3
      have nL1 := hm.none nL
      generalize upd H' L (.lst []) = H3 at *
      refine ⟨_, rfl, _, _, _, _, _, rfl, hm3.at ob1 (by simp), T.cl, T.nMany, rfl, tabs.length, rfl, by omega, by omega, ?_⟩
      refine for_range (lo := 0) (n := tabs.length) (fun i σ H' => (∃ x5 x7 x8 x9 x10, σ = [some (.ref A.p), some (.ref fa), some (.bl kn), some (.ref Bb.p), some (.ref d), x5, some (.ref L), x7, x8, x9, x10]) ∧ Mv [] H1 H' ∧ H' d = some (.dT (setD (knownBy b tabs.length fl kn))) ∧
        ∃ ms, NatsL H' L ms ∧ ms.length = i ∧ ∀ h, h < i → (h ∉ fl → ms.getD h 0 = count st.rows h) ∧ (h ∈ fl → IsMinD (unknown (knownBy b tabs.length fl kn) h (st.wr.getD h 0 + 1) (count st.rows h)) (count st.rows h + 1) (ms.getD h 0 + 1))) ?_ ?_ ?_
      · exact ⟨⟨_, _, _, _, _, rfl⟩, hm3, hd3, [], eL, rfl, fun h hh => absurd hh (Nat.not_lt_zero _)⟩
      · intro i σ G hi ⟨⟨x5, x7, x8, x9, x10, hσ⟩, m, hd, ms, hms, hml, hmo⟩
        subst hσ
        have hTG := hT1.mv m
        rw [show ((0 : Int) + (i : Nat)) = (i : Nat) from Int.zero_add _]
        refine ⟨_, rfl, _, _, _, rfl, m.at ob1 (by simp), rfl, _, rfl, A, st, n, i, rfl, hTG, hf.few, fun G1 mG1 => ?_⟩
        have m' := m.trans mG1
        have hd1 := mG1.at hd (by simp)
        have hms1 := mG1.at hms (by simp)
        clear m hd hms hTG mG1
        have cl : count st.rows i ≤ 1000 := Nat.le_trans (List.length_filter_le _ _) hf.few
        refine ⟨_, rfl, _, rfl, fa, _, rfl, .inr (SqT.of (m'.at hfa1 (by simp))), rfl, flat_nat _, _, rfl, ?_⟩
        rw [if_neg Bool.false_ne_true, inV_nat]
        refine ite2 (fun c2 => ?_) (fun c2 => ?_)
        rotate_left
        · have c2' : i ∉ fl := by simpa using c2
          refine ⟨_, rfl, .inl ⟨rfl, _, SqL.of hms1⟩, _, rfl, L, _, _, rfl, rfl, hms1, by rw [List.length_map, hml]; exact Nat.lt_of_lt_of_le hi (Nat.le_trans h4 (by decide)), ?_⟩
          refine ⟨⟨_, _, _, _, _, rfl⟩, m'.own nL1, by rw [upd_ne (fun z => by rw [z, hms1] at hd1; cases hd1)]; exact hd1, ms ++ [count st.rows i], by unfold NatsL; rw [upd_same, List.map_append]; rfl, by rw [List.length_append, hml]; rfl, all_snoc (Pr := fun h m => (h ∉ fl → m = count st.rows h) ∧ (h ∈ fl → IsMinD (unknown (knownBy b tabs.length fl kn) h (st.wr.getD h 0 + 1) (count st.rows h)) (count st.rows h + 1) (m + 1))) hml hmo ⟨fun _ => rfl, fun z => absurd z c2'⟩⟩
        have c2' : i ∈ fl := by simpa using c2
        have hTG := hT1.mv m'
        obtain ⟨tv', _, ob'⟩ := hTG.tab
        have hw := hwb i hi
        have hwi : st.wr[i]? = some (st.wr.getD i 0) := getD_get (by rw [hwl]; exact hi)
        refine ⟨_, rfl, _, _, _, _, _, rfl, ob', T.cl, T.nWr, rfl, _, rfl, _, _, _, _, rfl, rfl, SqL.of hTG.wr, atI_nat (nats_get hwi), _, _, rfl, rfl, ?_⟩
        generalize hwd : st.wr.getD i 0 = wi at *
        generalize hct : count st.rows i = ct at *
        refine ⟨_, rfl, _, rfl, _, _, rfl, rfl, (wi : Int) + 1, (ct : Int) + 1, rfl, ⟨by omega, by omega, by omega, by omega⟩, fun D nD => ?_⟩
        have en : (((ct : Int) + 1 - ((wi : Int) + 1)).toNat) = ct + 1 - (wi + 1) := by omega
        refine lc_range (lo := (wi : Int) + 1) (n := ((ct : Int) + 1 - ((wi : Int) + 1)).toNat) (fun j H' => Mv [] G1 H' ∧ H' D = some (.lst ((((List.range j).map (· + (wi + 1))).filter fun s => decide ((i, s) ∉ knownBy b tabs.length fl kn)).map iN))) ⟨Mv.new nD, upd_same⟩ ?_ ?_
        · intro j H' hj ⟨hm', hD⟩
          have ej : ((wi : Int) + 1 + (j : Nat)) = ((j + (wi + 1) : Nat) : Int) := by omega
          rw [ej]
          refine ⟨rfl, ?_⟩
          refine ⟨_, rfl, _, rfl, (by show 2 ≤ sizeLine; decide), fun t nt => ?_⟩
          have et : upd H' t (.tup [iN i, iN (j + (wi + 1))]) t = some (.tup [iN i, iN (j + (wi + 1))]) := upd_same
          have mt : Mv [] H' (upd H' t (.tup [iN i, iN (j + (wi + 1))])) := Mv.new nt
          have hdt := mt.at (hm'.at hd1 (by simp)) (by simp)
          have hDt := mt.at hD (by simp)
          generalize upd H' t (.tup [iN i, iN (j + (wi + 1))]) = G2 at *
          refine ⟨_, rfl, d, _, rfl, DGet.t (k := nk (i, j + (wi + 1))) hdt et, _, rfl, ?_⟩
          rw [setD_val]
          have es : (((List.range (j + 1)).map (· + (wi + 1))).filter fun s => decide ((i, s) ∉ knownBy b tabs.length fl kn)) = (((List.range j).map (· + (wi + 1))).filter fun s => decide ((i, s) ∉ knownBy b tabs.length fl kn)) ++ (if (i, j + (wi + 1)) ∉ knownBy b tabs.length fl kn then [j + (wi + 1)] else []) := by
            rw [List.range_succ, List.map_append, List.filter_append]
            congr 1
            show List.filter _ [j + (wi + 1)] = _
            rw [List.filter_cons, List.filter_nil]
            by_cases z : (i, j + (wi + 1)) ∉ knownBy b tabs.length fl kn
            · rw [if_pos (decide_eq_true z), if_pos z]
            · rw [if_neg (by simpa using z), if_neg z]
          rw [es]
          refine ite2 (fun z => ?_) (fun z => ?_)
          · have z' : (i, j + (wi + 1)) ∉ knownBy b tabs.length fl kn := by simpa using z
            rw [if_pos z']
            refine ⟨_, rfl, _, hDt, ?_, ?_, ?_⟩
            · rw [List.length_map]
              refine Nat.lt_of_le_of_lt (List.length_filter_le _ _) ?_
              rw [List.length_map, List.length_range]
              exact Nat.lt_of_lt_of_le hj (by rw [en]; exact Nat.le_trans (by omega : _ ≤ 1000) (by decide))
            · exact (hm'.trans mt).own nD
            · rw [upd_same, List.map_append]; rfl
          · have z' : ¬ (i, j + (wi + 1)) ∉ knownBy b tabs.length fl kn := by simpa using z
            rw [if_neg z', List.append_nil]
            exact ⟨hm'.trans mt, hDt⟩
        · intro G2 ⟨hm', hD⟩
          rw [en] at hD
          have m2' := m'.trans hm'
          have hd2 := hm'.at hd1 (by simp)
          have hms2 := hm'.at hms1 (by simp)
          have eun : (((List.range (ct + 1 - (wi + 1))).map (· + (wi + 1))).filter fun s => decide ((i, s) ∉ knownBy b tabs.length fl kn)) = unknown (knownBy b tabs.length fl kn) i (wi + 1) ct := rfl
          rw [eun] at hD
          generalize hun : unknown (knownBy b tabs.length fl kn) i (wi + 1) ct = un at *
          have hun1 : ∀ y ∈ un, wi + 1 ≤ y := by
            intro y hy
            rw [← hun] at hy
            obtain ⟨z, _, e⟩ := List.mem_map.mp (List.mem_filter.mp hy).1
            omega
          refine ⟨_, rfl, _, rfl, _, _, rfl, rfl, D, un.map (fun x : Nat => (x : Int)), (ct : Int) + 1, rfl, rfl, SqL.of (by rw [hD, List.map_map]; rfl), fun m hm1 hm2 => ?_⟩
          obtain ⟨mn, hmn, hmin⟩ : ∃ mn : Nat, m = (mn : Int) + 1 ∧ IsMinD un (ct + 1) (mn + 1) := by
            by_cases e : un = []
            · refine ⟨ct, hm1 (by rw [e]; rfl), fun _ => rfl, fun z => absurd e z⟩
            · obtain ⟨h1, h2⟩ := hm2 (by simpa using e)
              obtain ⟨x, hx, ex⟩ := List.mem_map.mp h1
              have := hun1 x hx
              refine ⟨x - 1, by omega, fun z => absurd z e, fun _ => ⟨by rw [Nat.sub_add_cancel (by omega)]; exact hx, fun y hy => ?_⟩⟩
              have := h2 (y : Int) (List.mem_map.mpr ⟨y, hy, rfl⟩)
              omega
          subst hmn
          refine ⟨_, _, rfl, rfl, ?_⟩
          refine ⟨_, rfl, .inl ⟨rfl, _, SqL.of hms2⟩, _, rfl, L, _, _, rfl, rfl, hms2, by rw [List.length_map, hml]; exact Nat.lt_of_lt_of_le hi (Nat.le_trans h4 (by decide)), ?_⟩
          refine ⟨⟨_, _, _, _, _, rfl⟩, m2'.own nL1, by rw [upd_ne (fun z => by rw [z, hms2] at hd2; cases hd2)]; exact hd2, ms ++ [mn], by unfold NatsL; rw [upd_same, List.map_append]; show some (HO.lst (ms.map iN ++ [V.int ((mn : Int) + 1 - 1)])) = some (HO.lst (ms.map iN ++ [V.int (mn : Int)])); rw [show ((mn : Int) + 1 - 1) = (mn : Int) from by omega], by rw [List.length_append, hml]; rfl, all_snoc (Pr := fun h m => (h ∉ fl → m = count st.rows h) ∧ (h ∈ fl → IsMinD (unknown (knownBy b tabs.length fl kn) h (st.wr.getD h 0 + 1) (count st.rows h)) (count st.rows h + 1) (m + 1))) hml hmo ⟨fun z => absurd c2' z, fun _ => ?_⟩⟩
          rw [hwd, hct, hun]; exact hmin
      · intro σ G ⟨⟨x5, x7, x8, x9, x10, hσ⟩, m, hd, ms, hms, hml, hmo⟩
        subst hσ
        refine ⟨_, rfl, _, _, _, rfl, m.at ob1 (by simp), rfl, _, rfl, _, rfl, A, st, n, Bb, b, L, ms, rfl, hT1.mv m, hB.mv m, hms, hml, fun p hp => (ti p hp).1, fun p hp => (ti p hp).2, fun G' L' c nL' mG' hc hg => ?_⟩
        refine kq G' L' c (m1.none (m.none nL')) ((m1.trans m).trans mG') hc ⟨ms, ⟨hml, fun h hh hf => (hmo h hh).1 hf, fun h hh hf => ?_⟩, ?_⟩
        · rw [hbb]; exact (hmo h hh).2 hf
        · rw [hbb]; exact hg
end
end Lor
end

section
set_option Elab.async false
set_option linter.all false
set_option maxRecDepth 100000
set_option maxHeartbeats 4000000
namespace Lor
open PySem PySem.Spec PyProof.Rows L2
theorem way_dec (al : Bool) : decide (V.str (wayS al) = V.str "along") = al := by cases al <;> decide
theorem kept_le {many : Nat} {st : TS} {fl : List Nat} {kn : Bool} {c : List Nat} (h : Kept many st fl kn c) : c.length = many ∧ ∀ x, x < many → c.getD x 0 ≤ count st.rows x := by
  obtain ⟨most, hm, hg⟩ := h
  refine ⟨hg.len, fun x hx => Nat.le_trans (hg.under x hx) ?_⟩
  by_cases c1 : x ∈ fl
  · have := hm.down x hx c1
    by_cases e : unknown (knownBy (bearing many st.rows) many fl kn) x (st.wr.getD x 0 + 1) (count st.rows x) = []
    · have := this.1 e; omega
    · obtain ⟨a, _⟩ := this.2 e
      unfold unknown at a
      obtain ⟨z, hz, e2⟩ := List.mem_map.mp (List.mem_filter.mp a).1
      rw [List.mem_range] at hz
      omega
  · rw [hm.up x hx c1]; exact Nat.le_refl _
section
variable {C : Addr} {tabs : Tabs} {al : Bool} {H H' : Hp} {st : TS} {A : ToA} {n : Nat}
theorem ToA.notin {L : Addr} (h : L ∉ A.all) : A.p ≠ L ∧ A.lr ≠ L ∧ A.lw ≠ L ∧ A.lt ≠ L ∧ A.lf ≠ L ∧ A.lb ≠ L ∧ A.ld ≠ L := by
  simp only [ToA.all, List.mem_cons, not_or, List.not_mem_nil, not_false_eq_true, and_true] at h
  obtain ⟨a, b, c, d, e, f, g⟩ := h
  exact ⟨Ne.symm a, Ne.symm b, Ne.symm c, Ne.symm d, Ne.symm e, Ne.symm f, Ne.symm g⟩
/-- the rows are another list -/
theorem TownAt.newRows (h : TownAt C tabs al H st A n) {L : Addr} {vs : List V} {rows : List Row} {tv : V} (hv : TabsAt H tabs tv) (e : H L = some (.lst vs)) (hL : L ∉ A.all) (a : All2 (RowAt H) rows vs) :
    TownAt C tabs al (upd H A.p (.ins C A.dx (tF { A with lr := L } tv al tabs.length))) { st with rows := rows } { A with lr := L } n := by
  have ne := ToNe.of h.nd
  have k : TK H (upd H A.p (.ins C A.dx (tF { A with lr := L } tv al tabs.length))) := h.tkU (by simp [ToA.all])
  obtain ⟨n1, n2, n3, n4, n5, n6, n7⟩ := ToA.notin hL
  refine ⟨?_, ⟨tv, hv.mono k, upd_same⟩, ⟨vs, ?_, a.imp fun _ _ z => z.mono k⟩, ?_, ?_, ?_, ?_, ?_⟩
  · have := h.nd
    simp only [ToA.all, List.nodup_cons, List.mem_cons, not_or, List.not_mem_nil, not_false_eq_true, and_true, List.nodup_nil] at this ⊢
    obtain ⟨⟨a1, a2, a3, a4, a5, a6⟩, ⟨b1, b2, b3, b4, b5⟩, cc⟩ := this
    exact ⟨⟨n1, a2, a3, a4, a5, a6⟩, ⟨n3.symm, n4.symm, n5.symm, n6.symm, n7.symm⟩, cc⟩
  · show upd _ _ _ L = _
    rw [upd_ne n1.symm]; exact e
  · unfold NatsL; show upd _ _ _ A.lw = _; rw [upd_ne ne.pw.symm]; exact h.wr
  · exact h.told.mono (upd_ne ne.pt.symm) fun _ _ z => z.mono k
  · exact h.falls.mono (upd_ne ne.pf.symm) fun _ _ z => z.mono k
  · show ∃ vs, upd _ _ _ A.lb = _; rw [upd_ne ne.pb.symm]; exact h.begun
  · show ∃ vs, upd _ _ _ A.ld = _ ∧ _; rw [upd_ne ne.pd.symm]; exact h.done
theorem TownAt.newWr (h : TownAt C tabs al H st A n) {L : Addr} {ns : List Nat} {tv : V} (hv : TabsAt H tabs tv) (e : NatsL H L ns) (hL : L ∉ A.all) :
    TownAt C tabs al (upd H A.p (.ins C A.dx (tF { A with lw := L } tv al tabs.length))) { st with wr := ns } { A with lw := L } n := by
  have ne := ToNe.of h.nd
  have k : TK H (upd H A.p (.ins C A.dx (tF { A with lw := L } tv al tabs.length))) := h.tkU (by simp [ToA.all])
  obtain ⟨n1, n2, n3, n4, n5, n6, n7⟩ := ToA.notin hL
  refine ⟨?_, ⟨tv, hv.mono k, upd_same⟩, ?_, ?_, ?_, ?_, ?_, ?_⟩
  · have := h.nd
    simp only [ToA.all, List.nodup_cons, List.mem_cons, not_or, List.not_mem_nil, not_false_eq_true, and_true, List.nodup_nil] at this ⊢
    obtain ⟨⟨a1, a2, a3, a4, a5, a6⟩, ⟨b1, b2, b3, b4, b5⟩, cc, dd⟩ := this
    exact ⟨⟨a1, n1, a3, a4, a5, a6⟩, ⟨n2, b2, b3, b4, b5⟩, ⟨n4.symm, n5.symm, n6.symm, n7.symm⟩, dd⟩
  · exact h.rows.mono (upd_ne ne.pr.symm) fun _ _ z => z.mono k
  · unfold NatsL; show upd _ _ _ L = _; rw [upd_ne n1.symm]; exact e
  · exact h.told.mono (upd_ne ne.pt.symm) fun _ _ z => z.mono k
  · exact h.falls.mono (upd_ne ne.pf.symm) fun _ _ z => z.mono k
  · show ∃ vs, upd _ _ _ A.lb = _; rw [upd_ne ne.pb.symm]; exact h.begun
  · show ∃ vs, upd _ _ _ A.ld = _ ∧ _; rw [upd_ne ne.pd.symm]; exact h.done
theorem TownAt.addFall (h : TownAt C tabs al H st A n) {r : List Nat} {v : V} {vs : List V} (e : H A.lf = some (.lst vs)) (ra : FallAt H r v) : TownAt C tabs al (upd H A.lf (.lst (vs ++ [v]))) { st with falls := st.falls ++ [r] } A n := by
  obtain ⟨vs', e', a⟩ := h.falls
  rw [e] at e'
  cases e'
  exact h.setFalls (a.snoc ra)
theorem TownAt.fresh (h : TownAt C tabs al H st A n) {L : Addr} (e : H L = none) : L ∉ A.all := fun z => by
  obtain ⟨o, e2, _⟩ := h.live L z
  rw [e2] at e; cases e
end
section
variable {P : Program} {w : World} {K : PySem.W.Frag} {mg : Str → Option Value} {base : Heap} {C CG CB : Addr} {tabs : Tabs} {al : Bool}
/-! ### Town.back_by -/
def spBack (C : Addr) (tabs : Tabs) (al : Bool) : Sp := fun vs H Q _ => ∃ (A : ToA) (st : TS) (n : Nat) (lk : Addr) (c : List Nat), vs = [.ref A.p, .ref lk] ∧ TownAt C tabs al H st A n ∧ st.rows.length ≤ 1000 ∧ NatsL H lk c ∧ c.length ≤ 10 ∧ (∀ h, h < c.length → c.getD h 0 ≤ count st.rows h) ∧
  ∀ (H' : Hp) (t : Addr), Mv [] H H' → H' t = some (.tup (((List.range c.length).map fun h => count st.rows h - c.getD h 0).map iN)) → Q (.ref t) H'
theorem sc3016 : FnScope ["self", "kept", "hand", "many"] ["self", "kept"] (defScope (inClass (top 30) 16)) := ⟨rfl, rfl, rfl, by decide +kernel, rfl, by decide +kernel, by decide +kernel⟩
theorem ok_back (D : MethAt K C "back_by" "Town.back_by" (inClass (top 30) 16)) (B : Bl mg) (T : ToC K C) (GC : LMet P w K mg base 1 C "count_of" (spCount C tabs al)) : LMet P w K mg base 2 C "back_by" (spBack C tabs al) := by
  refine met_of T.cl D sc3016 (fun _ _ _ _ _ _ us hl => match us, hl with | [_, _], _ => rfl) (fun vs H Q E h => ?_) (fun fa' cdv Ar outer s H vs Q E hr h => ?_)
  · obtain ⟨A, st, n, lk, c, rfl, _⟩ := h
    rfl
  · obtain ⟨A, st, n, lk, c, rfl, hT, hf, hc, hcl, hle, kq⟩ := h
    have nd := sc3016.nd
    refine ⟨_, (pss_one (ps_ret (pe_callTy call_tuple_of (by rfl) B.tuple (by decide +kernel) (pa_cons (pe_lc (own := [("hand", 2), ("many", 3)]) (g := gTup K 2 (gCons (gName 2) (gCons (gName 3) gNil))) (tt := tYes) rfl nd (pi_enum (by rfl) B.enumerate (pa_cons (pv 1) pa_nil)) (blkOk_by (own := [("hand", 2), ("many", 3)]) (N := ["self", "kept", "hand", "many"]) (sc := defScope (inClass (top 30) 16)) (by decide +kernel)) (fun _ _ _ _ _ => (pg_tupK (K := K) (n := 2) rfl (pgs_cons (pg_name (i := 2) nd rfl (Or.inl rfl)) (pgs_cons (pg_name (i := 3) nd rfl (Or.inl rfl)) pgs_nil)))) (fun _ _ _ _ _ => pts_nil) (fun _ _ _ _ _ => (pe_op op_sub (pe_m GC hr (by decide) (pv 0) (pa_cons (pv 2) pa_nil)) (pv 3)))) pa_nil)))), ?_⟩
    obtain ⟨tv, _, ob⟩ := hT.tab
    refine ⟨_, rfl, lk, _, rfl, SqL.of hc, fun D nD => ?_⟩
    refine lc_it walk_enum (fun i H' => Mv [] H H' ∧ H' D = some (.lst (((List.range i).map fun h => count st.rows h - c.getD h 0).map iN))) ⟨Mv.new nD, upd_same⟩ (fun i H' _ p => SqL.of (p.1.at hc (by simp))) ?_ ?_
    · intro i x H1 H2 hi ⟨hm, hD⟩ ⟨T', x1, y1, hx, nT, hH2, e1, e2⟩
      subst hx
      have hi' : i < c.length := by rw [List.length_map] at hi; exact hi
      have e2' : y1 = iN (c.getD i 0) := by
        have := nats_get (getD_get hi')
        replace e2 : (c.map iN)[i]? = some y1 := e2
        rw [this] at e2; exact (Option.some.inj e2).symm
      have e1' : x1 = iN i := (Option.some.inj e1).symm
      subst e1' e2'
      have et : H2 T' = some (.tup [iN i, iN (c.getD i 0)]) := by rw [hH2, upd_same]
      have m2 : Mv [] H1 H2 := by rw [hH2]; exact Mv.new nT
      have hm2 := hm.trans m2
      have hD2 := m2.at hD (by simp)
      refine ⟨T', _, rfl, SqT.of et, rfl, _, _, rfl, _, _, rfl, rfl, rfl, ?_⟩
      refine ⟨_, rfl, _, _, _, rfl, hm2.at ob (by simp), rfl, _, rfl, A, st, n, i, rfl, hT.mv hm2, hf, fun H3 m3 => ?_⟩
      refine ⟨_, rfl, _, _, rfl, rfl, _, m3.at hD2 (by simp), ?_, (hm2.trans m3).own nD, ?_⟩
      · rw [List.length_map, List.length_map, List.length_range]
        exact Nat.lt_of_lt_of_le hi' (Nat.le_trans hcl (by decide))
      · rw [upd_same, List.range_succ, List.map_append, List.map_append]
        have := hle i hi'
        show some (HO.lst (_ ++ [V.int ((count st.rows i : Int) - (c.getD i 0 : Nat))])) = some (HO.lst (_ ++ [iN (count st.rows i - c.getD i 0)]))
        rw [show ((count st.rows i : Int) - (c.getD i 0 : Nat)) = ((count st.rows i - c.getD i 0 : Nat) : Int) from by omega]
    · intro H1 ⟨hm, hD⟩
      rw [List.length_map] at hD
      exact ⟨D, _, rfl, .inl ⟨SqL.of hD, fun t nt => kq _ t (hm.trans (Mv.new nt)) upd_same⟩⟩
/-! ### Town.fall -/
def spFall (C : Addr) (tabs : Tabs) (al : Bool) : Sp := fun vs H Q _ => ∃ (A : ToA) (st : TS) (n : Nat) (fa : Addr) (fl : List Nat), vs = [.ref A.p, .ref fa] ∧ TownAt C tabs al H st A n ∧ tabs.length ≤ 4 ∧ Fit tabs.length st.rows ∧ H fa = some (.tup (fl.map iN)) ∧ st.wr.length = tabs.length ∧
  (∀ h, h < tabs.length → st.wr.getD h 0 ≤ 1000) ∧ st.falls.length ≤ 1000 ∧
  ∀ (A' : ToA) (H' : Hp) (c : List Nat), A'.p = A.p → (∀ a ∈ A'.all, a ∈ A.all ∨ H a = none) → Mv A.all H H' → Kept tabs.length st fl al c → TownAt C tabs al H' (fallS tabs.length st c) A' n → Q .non H'
theorem sc3017 : FnScope ["self", "fallen", "kept", "deed", "step", "own", "many"] ["self", "fallen"] (defScope (inClass (top 30) 17)) := ⟨rfl, rfl, rfl, by decide +kernel, rfl, by decide +kernel, by decide +kernel⟩
theorem ok_fall (D : MethAt K C "fall" "Town.fall" (inClass (top 30) 17)) (B : Bl mg) (T : ToC K C) (AL : Val mg "ALONG" (.str "along")) (GK : LMet P w K mg base 4 C "kept_by" (spKept C tabs al)) (GB : LMet P w K mg base 2 C "back_by" (spBack C tabs al)) : LMet P w K mg base 5 C "fall" (spFall C tabs al) := by
  refine met_of T.cl D sc3017 (fun _ _ _ _ _ _ us hl => match us, hl with | [_, _], _ => rfl) (fun vs H Q E h => ?_) (fun fa' cdv Ar outer s H vs Q E hr h => ?_)
  · obtain ⟨A, st, n, fa, fl, rfl, _⟩ := h
    rfl
  · obtain ⟨A, st, n, fa, fl, rfl, hT, h4, hf, hfa, hwl, hwb, hfl, kq⟩ := h
    have nd := sc3017.nd
    refine ⟨_, (pss_cons (ps_set (i := 2) nd rfl (Or.inr rfl) (pe_m GK hr (by decide) (pv 0) (pa_cons (pv 1) (pa_cons (pe_cmpR op_eq (pe_fld (pv 0) rfl) (pe_k AL) (nomark _)) pa_nil))))
 (pss_cons (ps_expr (pe_bm PySem.F.plainAttrs_list PySem.F.slot_list_append PySem.F.type_list_append mt_append (pe_fld (pv 0) rfl) (pa_cons (pe_tup (pa_cons (pv 1) (pa_cons (pe_m GB hr (by decide) (pv 0) (pa_cons (pv 2) pa_nil)) pa_nil))) pa_nil)))
 (pss_cons (ps_fld (pv 0) (pe_lc (own := [("deed", 3), ("step", 4)]) (g := gTup K 2 (gCons (gName 3) (gCons (gName 4) gNil))) rfl nd (pi_list (pe_fld (pv 0) rfl)) (blkOk_by (own := [("deed", 3), ("step", 4)]) (N := ["self", "fallen", "kept", "deed", "step", "own", "many"]) (sc := defScope (inClass (top 30) 17)) (by decide +kernel)) (fun _ _ _ _ _ => (pg_tupK (K := K) (n := 2) rfl (pgs_cons (pg_name (i := 3) nd rfl (Or.inl rfl)) (pgs_cons (pg_name (i := 4) nd rfl (Or.inl rfl)) pgs_nil)))) (fun _ _ _ _ _ => pts_one (PW.pt (pw_or (pt_cmpR op_eq (pe_ix (ix_tupK (K := K)) (pv 3) pe_int (fun _ _ => rfl)) (pe_fldK (K := K) (pv 0) rfl) (nomark _)) (pw_or1 (pt_cmpR op_le (pv 4) (pe_ix (ix_listK (K := K)) (pv 2) (pe_ix (ix_tupK (K := K)) (pv 3) pe_int (fun _ _ => rfl)) (fun _ _ => rfl)) (nomark _)))))) (fun _ _ _ _ _ => (pe_tup (pa_cons (pv 3) (pa_cons (pv 4) pa_nil))))) rfl)
 (pss_one (ps_fld (pv 0) (pe_lc (own := [("own", 5), ("many", 6)]) (g := gTup K 2 (gCons (gName 5) (gCons (gName 6) gNil))) (tt := tYes) rfl nd (pi_zip (by rfl) B.zip (pa_cons (pe_fld (pv 0) rfl) (pa_cons (pv 2) pa_nil))) (blkOk_by (own := [("own", 5), ("many", 6)]) (N := ["self", "fallen", "kept", "deed", "step", "own", "many"]) (sc := defScope (inClass (top 30) 17)) (by decide +kernel)) (fun _ _ _ _ _ => (pg_tupK (K := K) (n := 2) rfl (pgs_cons (pg_name (i := 5) nd rfl (Or.inl rfl)) (pgs_cons (pg_name (i := 6) nd rfl (Or.inl rfl)) pgs_nil)))) (fun _ _ _ _ _ => pts_nil) (fun _ _ _ _ _ => (pe_callB (call_min2 rfl) (by rfl) B.min (by decide +kernel) (pa_cons (pv 5) (pa_cons (pv 6) pa_nil))))) rfl))))), ?_⟩
    obtain ⟨tv, htv, ob⟩ := hT.tab
    refine ⟨_, rfl, _, _, _, rfl, ob, rfl, _, rfl, _, rfl, _, _, _, _, _, rfl, ob, T.cl, T.nWay, rfl, rfl, ?_⟩
    refine ⟨A, st, n, fa, fl, al, by rw [way_dec]; rfl, hT, h4, hf, hfa, hwl, hwb, fun H1 L c nL m1 hc hk => ?_⟩
    have kl := kept_le hk
    have hT1 := hT.mv m1
    have ob1 := m1.at ob (by simp)
    have htv1 := htv.mono m1.tk0
    have LA : L ∉ A.all := hT.fresh nL
    obtain ⟨fvs, hfv, hfA⟩ := hT1.falls
    refine ⟨_, rfl, _, _, _, _, _, rfl, ob1, T.cl, T.nFall, rfl, .inl ⟨rfl, _, SqL.of hfv⟩, ?_⟩
    refine ⟨_, rfl, _, rfl, _, _, _, rfl, ob1, rfl, _, rfl, A, st, n, L, c, rfl, hT1, hf.few, hc, by rw [kl.1]; omega, fun h hh => kl.2 h (by rw [← kl.1]; exact hh), fun H2 t m2 ht => ?_⟩
    rw [kl.1] at ht
    refine ⟨(by show 2 ≤ sizeLine; decide), fun t2 nt2 => ?_⟩
    have m3 : Mv [] H2 (upd H2 t2 (.tup [.ref fa, .ref t])) := Mv.new nt2
    have hra : FallAt (upd H2 t2 (.tup [.ref fa, .ref t])) ((List.range tabs.length).map fun h => count st.rows h - c.getD h 0) (.ref t2) := ⟨t2, _, t, rfl, upd_same, m3.at ht (by simp)⟩
    have m23 := m2.trans m3
    have hT3 := hT1.mv m23
    have htv3 := htv1.mono m23.tk0
    have hfv3 := m23.at hfv (by simp)
    have hc3 := m23.at hc (by simp)
    have m13 := m1.trans m23
    clear m3 ht
    generalize upd H2 t2 (.tup [.ref fa, .ref t]) = H3 at *
    refine ⟨_, _, _, rfl, rfl, hfv3, by rw [← hfA.len]; exact Nat.lt_of_le_of_lt hfl (by decide), ?_⟩
    have hT4 := hT3.addFall hfv3 hra
    have k4 : TK H3 (upd H3 A.lf (.lst (fvs ++ [.ref t2]))) := hT3.tkU (by simp [ToA.all])
    have htv4 := htv3.mono k4
    have hc4 : NatsL (upd H3 A.lf (.lst (fvs ++ [.ref t2]))) L c := by
      unfold NatsL
      rw [upd_ne (ToA.notin LA).2.2.2.2.1.symm]; exact hc3
    have m4 : Mv A.all H (upd H3 A.lf (.lst (fvs ++ [.ref t2]))) := (m13.mono (by simp)).trans (Mv.upd (by simp [ToA.all]))
    clear hT3 hra
    generalize upd H3 A.lf (.lst (fvs ++ [.ref t2])) = H4 at *
    obtain ⟨tv4, htv4', ob4⟩ := hT4.tab
    obtain ⟨vs, hv, hA⟩ := hT4.rows
    refine ⟨_, rfl, _, _, _, _, _, rfl, ob4, T.cl, T.nRows, rfl, A.lr, rfl, ⟨_, SqL.of hv⟩, fun D nD => ?_⟩
    refine lc_list (xs := vs) (fun i H' => Mv [] H4 H' ∧ ∃ acc, H' D = some (.lst acc) ∧ All2 (RowAt H') ((st.rows.take i).filter (keepRow tabs.length c)) acc) ⟨Mv.new nD, [], upd_same, .nil⟩ (fun i H' _ p => SqL.of (p.1.at hv (by simp))) ?_ ?_
    · intro i x H' hx ⟨hm, acc, hacc, hra⟩
      obtain ⟨r, hr', ha⟩ := hA.getR hx
      replace hr' : st.rows[i]? = some r := hr'
      obtain ⟨ta, tb, rfl, h1, h2⟩ := ha.mono hm.tk0
      have hi := lt_of_get hr'
      have few := hf.few
      have ok := hf.valid i r hr'
      have hacc2 : acc.length < sizeLine := by
        rw [← hra.len]
        refine Nat.lt_of_le_of_lt (List.length_filter_le _ _) ?_
        rw [List.length_take]
        exact Nat.lt_of_le_of_lt (by omega : _ ≤ 1000) (by decide)
      rw [take_snoc hr', List.filter_append]
      refine ⟨ta, _, rfl, SqT.of h1, rfl, _, _, rfl, _, _, rfl, rfl, rfl, ?_⟩
      refine ⟨_, rfl, _, _, _, _, rfl, rfl, SqT.of h2, atI_nat (v := iN r.1.hand) (j := 1) (by cases r.1 <;> rfl), ?_⟩
      refine ⟨_, rfl, _, _, _, _, _, rfl, hm.at ob4 (by simp), T.cl, T.nMany, rfl, rfl, _, rfl, ?_⟩
      have yes : keepRow tabs.length c r = true → tTup (tCons (tVar 3) (tCons (tVar 4) tNil)) [some (.ref A.p), some (.ref fa), some (.ref L), some (.ref tb), some (iN r.2), none, none] H' fun y H4' => ∃ acc, H4' D = some (.lst acc) ∧ acc.length < sizeLine ∧ Mv [] H4 (upd H4' D (.lst (acc ++ [y]))) ∧ ∃ acc_1, upd H4' D (.lst (acc ++ [y])) D = some (.lst acc_1) ∧ All2 (RowAt (upd H4' D (.lst (acc ++ [y])))) ((st.rows.take i).filter (keepRow tabs.length c) ++ [r].filter (keepRow tabs.length c)) acc_1 := by
        intro e
        refine ⟨_, rfl, _, rfl, (by show 2 ≤ sizeLine; decide), fun p np => ⟨acc, ?_, hacc2, ?_, _, upd_same, ?_⟩⟩
        · rw [upd_ne (ne_none (some_ne hacc) np)]; exact hacc
        · exact (hm.trans (Mv.new np)).own nD
        · have kk : TK H' (upd (upd H' p (.tup [.ref tb, iN r.2])) D (.lst (acc ++ [.ref p]))) := (TK.new np).trans (TK.upd fun xs z => by
            rw [upd_ne (ne_none (some_ne hacc) np), hacc] at z; cases z)
          rw [show [r].filter (keepRow tabs.length c) = [r] from by rw [List.filter_cons, if_pos e]; rfl]
          refine All2.snoc ?_ (hra.imp fun _ _ z => z.mono kk)
          exact ⟨p, tb, rfl, by rw [upd_ne (ne_none (some_ne hacc) np).symm, upd_same], kk _ _ h2⟩
      refine ite2 (fun c1 => ?_) (fun c1 => ?_)
      · have c1' : r.1.hand = tabs.length := iN_inj (of_decide_eq_true c1)
        exact yes (by unfold keepRow; rw [decide_eq_true c1']; rfl)
      · have c1' : ¬ r.1.hand = tabs.length := fun z => c1 (decide_eq_true (by rw [z]))
        have hlt : r.1.hand < c.length := by have := ok.hand; rw [kl.1]; omega
        refine ⟨_, rfl, _, rfl, _, rfl, _, _, _, _, rfl, rfl, SqT.of h2, atI_nat (v := iN r.1.hand) (j := 1) (by cases r.1 <;> rfl), _, _, _, _, rfl, rfl, SqL.of (hm.at hc4 (by simp)), atI_nat (nats_get (getD_get hlt)), _, _, rfl, rfl, _, rfl, ?_⟩
        refine ite2 (fun c2 => ?_) (fun c2 => ?_)
        · have c2' : r.2 ≤ c.getD r.1.hand 0 := Int.ofNat_le.mp (of_decide_eq_true c2)
          exact yes (by unfold keepRow; rw [decide_eq_true c2']; simp)
        · have c2' : ¬ r.2 ≤ c.getD r.1.hand 0 := fun z => c2 (decide_eq_true (Int.ofNat_le.mpr z))
          rw [show [r].filter (keepRow tabs.length c) = [] from by
            rw [List.filter_cons, if_neg (by unfold keepRow; rw [decide_eq_false c1', decide_eq_false c2']; simp)]; rfl, List.append_nil]
          exact ⟨hm, acc, hacc, hra⟩
    · intro H5 ⟨m5, acc, hacc, hra⟩
      rw [List.take_of_length_le (Nat.le_of_eq hA.len)] at hra
      have hT5 := hT4.mv m5
      have DA : D ∉ A.all := hT4.fresh nD
      have htv5 := htv4'.mono m5.tk0
      refine ⟨_, rfl, _, _, _, _, rfl, m5.at ob4 (by simp), T.cl, T.nRows, (by show 9 < 1000; decide), ?_⟩
      have hT6 := hT5.newRows htv5 hacc DA hra
      have k6 : TK H5 (upd H5 A.p (.ins C A.dx (tF { A with lr := D } tv4 al tabs.length))) := hT5.tkU (by simp [ToA.all])
      have m6 : Mv A.all H (upd H5 A.p (.ins C A.dx (tF { A with lr := D } tv4 al tabs.length))) := (m4.trans (m5.mono (by simp))).trans (Mv.upd (by simp [ToA.all]))
      have hc6 : NatsL (upd H5 A.p (.ins C A.dx (tF { A with lr := D } tv4 al tabs.length))) L c := by
        unfold NatsL
        rw [upd_ne (ToA.notin LA).1.symm]; exact m5.at hc4 (by simp)
      have eput : putF "rows" (.ref D) (tF A tv4 al tabs.length) = tF { A with lr := D } tv4 al tabs.length := rfl
      rw [eput]
      have htv6 := htv5.mono k6
      have ob6 : upd H5 A.p (.ins C A.dx (tF { A with lr := D } tv4 al tabs.length)) A.p = some (.ins C A.dx (tF { A with lr := D } tv4 al tabs.length)) := upd_same
      have nD0 : H D = none := m4.none nD
      generalize upd H5 A.p (.ins C A.dx (tF { A with lr := D } tv4 al tabs.length)) = H6 at *
      refine ⟨_, rfl, _, _, _, _, _, rfl, ob6, T.cl, T.nWr, rfl, _, rfl, _, _, _, _, rfl, SqL.of hT6.wr, SqL.of hc6, fun D2 nD2 => ?_⟩
      have hwr6 : NatsL H6 A.lw st.wr := hT6.wr
      refine lc_it (walk_zip (n := tabs.length) (by rw [List.length_map, List.length_map, kl.1, hwl]; exact (Nat.min_self _).symm)) (fun i H' => Mv [] H6 H' ∧ H' D2 = some (.lst (((List.range i).map fun h => min (st.wr.getD h 0) (c.getD h 0)).map iN))) ⟨Mv.new nD2, upd_same⟩ (fun i H' _ p => ⟨SqL.of (p.1.at hwr6 (by simp)), SqL.of (p.1.at hc6 (by simp))⟩) ?_ ?_
      · intro i x G1 G2 hi ⟨hm, hD⟩ ⟨T', x1, y1, hx, nT, hH2, e1, e2⟩
        subst hx
        replace e1 : (st.wr.map iN)[i]? = some x1 := e1
        replace e2 : (c.map iN)[i]? = some y1 := e2
        rw [nats_get (getD_get (by rw [hwl]; exact hi))] at e1
        rw [nats_get (getD_get (by rw [kl.1]; exact hi))] at e2
        cases e1
        cases e2
        have et : G2 T' = some (.tup [iN (st.wr.getD i 0), iN (c.getD i 0)]) := by rw [hH2, upd_same]
        have m2' : Mv [] G1 G2 := by rw [hH2]; exact Mv.new nT
        have hD2 := m2'.at hD (by simp)
        refine ⟨T', _, rfl, SqT.of et, rfl, _, _, rfl, _, _, rfl, rfl, rfl, ?_⟩
        refine ⟨_, rfl, _, rfl, _, _, rfl, _, hD2, ?_, (hm.trans m2').own nD2, ?_⟩
        · rw [List.length_map, List.length_map, List.length_range]
          exact Nat.lt_of_lt_of_le hi (Nat.le_trans h4 (by decide))
        · rw [upd_same, List.range_succ, List.map_append, List.map_append]
          have e : (if ((c.getD i 0 : Nat) : Int) < (st.wr.getD i 0 : Nat) then ((c.getD i 0 : Nat) : Int) else ((st.wr.getD i 0 : Nat) : Int)) = ((min (st.wr.getD i 0) (c.getD i 0) : Nat) : Int) := by
            by_cases z : c.getD i 0 < st.wr.getD i 0
            · rw [if_pos (Int.ofNat_lt.mpr z), Nat.min_eq_right (Nat.le_of_lt z)]
            · rw [if_neg (fun y => z (Int.ofNat_lt.mp y)), Nat.min_eq_left (Nat.le_of_not_lt z)]
          show some (HO.lst (_ ++ [V.int (if ((c.getD i 0 : Nat) : Int) < (st.wr.getD i 0 : Nat) then ((c.getD i 0 : Nat) : Int) else ((st.wr.getD i 0 : Nat) : Int))])) = some (HO.lst (_ ++ [iN (min (st.wr.getD i 0) (c.getD i 0))]))
          rw [e]
      · intro H7 ⟨m7, hD2⟩
        have hT7 := hT6.mv m7
        have htv7 := htv6.mono m7.tk0
        have D2A : D2 ∉ ({ A with lr := D } : ToA).all := hT6.fresh nD2
        refine ⟨_, rfl, _, _, _, _, rfl, m7.at ob6 (by simp), T.cl, T.nWr, (by show 9 < 1000; decide), ?_⟩
        have hT8 := hT7.newWr htv7 (ns := (List.range tabs.length).map fun h => min (st.wr.getD h 0) (c.getD h 0)) hD2 D2A
        refine kq { A with lr := D, lw := D2 } _ c rfl ?_ ((m6.trans (m7.mono (by simp))).trans (Mv.upd (by simp [ToA.all]))) hk hT8
        intro a ha
        simp only [ToA.all, List.mem_cons, List.not_mem_nil, or_false] at ha ⊢
        rcases ha with h | h | h | h | h | h | h
        · exact .inl (.inl h)
        · exact .inr (by rw [h]; exact nD0)
        · exact .inr (by rw [h]; exact m6.none nD2)
        · exact .inl (.inr (.inr (.inr (.inl h))))
        · exact .inl (.inr (.inr (.inr (.inr (.inl h)))))
        · exact .inl (.inr (.inr (.inr (.inr (.inr (.inl h))))))
        · exact .inl (.inr (.inr (.inr (.inr (.inr (.inr h))))))
end
end Lor
end

section
set_option Elab.async false
set_option linter.all false
set_option maxRecDepth 100000
set_option maxHeartbeats 4000000
namespace Lor
open PySem PySem.Spec PyProof.Rows L2
theorem walk_zipT {K : PySem.W.Frag} {a b : Addr} {xs ys : List V} {n : Nat} (hn : n = min xs.length ys.length) : Walk (RZ.ItzT K a b) n (fun H => SqT K H a xs ∧ SqT K H b ys) (YPair (fun i => xs[i]?) (fun i => ys[i]?)) where
  goes := fun i H hi h => ⟨xs, ys, xs[i], ys[i], h.1, h.2, List.getElem?_eq_getElem (by omega), List.getElem?_eq_getElem (by omega)⟩
  stops := fun H h => ⟨xs, ys, h.1, h.2, by omega⟩
  yields := fun i H x H' _ h y => by
    obtain ⟨T, z, z2, e1, e2, e3, e4, e5⟩ := y
    exact ⟨T, z, z2, e1, e2, e3, e4 xs h.1, e5 ys h.2⟩
section
variable {P : Program} {w : World} {K : PySem.W.Frag} {mg : Str → Option Value} {base : Heap} {C CG CB : Addr} {tabs : Tabs} {al : Bool}
def spTgts : Sp := fun vs H Q _ => ∃ (many hand : Nat) (ts : List Nat) (v : V), vs = [iN many, iN hand, v] ∧ TgtAt H ts v ∧ ts.length ≤ 3 ∧ (∀ t ∈ ts, t ≤ many ∧ t ≠ hand) ∧ ∀ H', Mv [] H H' → Q (.bl true) H'
theorem sc26 : FnScope ["many", "hand", "thing", "one"] ["many", "hand", "thing"] (defScope (top 26)) := ⟨rfl, rfl, rfl, by decide +kernel, rfl, by decide +kernel, by decide +kernel⟩
theorem bl_true {p : Prop} [Decidable p] (h : p) : V.bl (decide p) = .bl true := by rw [decide_eq_true h]
theorem all_true : ∀ n, (List.replicate n true).all id = true
  | 0 => rfl
  | n + 1 => all_true n
theorem ok_tgts (D : DefAt K mg "are_targets" (top 26)) (B : Bl mg) (MT : Val mg "MOST_TARGETS" (.int 3)) (W : LCal P w K mg base 2 "is_within" spWithin) : LCal P w K mg base 3 "are_targets" spTgts := by
  refine cal_of D sc26 (fun _ _ _ _ _ _ us hl => match us, hl with | [_, _, _], _ => rfl) (fun vs H Q E h => ?_) (fun f cdv A outer s H vs Q E hr h => ?_)
  · obtain ⟨many, hand, ts, v, rfl, _⟩ := h
    rfl
  · obtain ⟨many, hand, ts, v, rfl, ⟨b, rfl, hb⟩, hl, ht, kq⟩ := h
    have nd := sc26.nd
    refine ⟨_, (pss_cons (ps_if (PW.pt (pw_or (pt_not (pt_val (pe_callB call_isi (by rfl) B.isinstance boot_isinstance (pa_cons (pv 2) (pa_cons (pe_bltn (v := .ty "tuple") (by rfl) B.tuple (by decide +kernel) rfl) pa_nil))))) (pw_or1 (pt_cmpR op_gt (pe_callB call_len_seq (by rfl) B.len PySem.boot_len (pa_cons (pv 2) pa_nil)) (pe_k MT) (nomark _)))))
 (pss_one (ps_ret pe_bl))
 pss_nil)
 (pss_one (ps_ret (pe_callB (cr_all rfl) (by rfl) B.all (by decide +kernel) (pa_cons (pe_lc (own := [("one", 3)]) (g := gName 3) (tt := tYes) rfl nd (pi_tup (pv 2)) (blkOk_by (own := [("one", 3)]) (N := ["many", "hand", "thing", "one"]) (sc := defScope (top 26)) (by decide +kernel)) (fun _ _ _ _ _ => (pg_name (i := 3) nd rfl (Or.inl rfl))) (fun _ _ _ _ _ => pts_nil) (fun _ _ _ _ _ => (pe_and (pe_f W hr (by decide) (pa_cons (pv 3) (pa_cons pe_int (pa_cons (pv 0) pa_nil)))) (pe_one (pe_cmpR op_ne (pv 3) (pv 1) (nomark _)))))) pa_nil))))), ?_⟩
    refine ⟨_, rfl, .ref b, .ty "tuple", .type "tuple", .type "tuple", true, rfl, .ty _, .base (.tup hb), kit_ty (by decide +kernel), true, rfl, ?_⟩
    refine ⟨_, rfl, b, _, rfl, .inr (SqT.of hb), _, _, rfl, rfl, _, rfl, ?_⟩
    refine ifF (by rw [List.length_map]; simp; omega) ?_
    refine ⟨_, rfl, b, rfl, ⟨_, SqT.of hb⟩, fun D' nD => ?_⟩
    refine lc_tup (xs := ts.map iN) (fun i H' => Mv [] H H' ∧ H' D' = some (.lst ((List.replicate i true).map V.bl))) ⟨Mv.new nD, upd_same⟩ (fun i H' _ p => SqT.of (p.1.at hb (by simp))) ?_ ?_
    · intro i x H' hx ⟨hm, hD⟩
      obtain ⟨t, ht', rfl⟩ : ∃ t, ts[i]? = some t ∧ x = iN t := by
        rw [List.getElem?_map] at hx
        cases e : ts[i]? with
        | none => rw [e] at hx; cases hx
        | some t => rw [e] at hx; exact ⟨t, rfl, (Option.some.inj hx).symm⟩
      have hi := lt_of_get ht'
      obtain ⟨h1, h2⟩ := ht t (List.mem_of_getElem? ht')
      refine ⟨rfl, _, rfl, _, rfl, t, 0, many, rfl, true, by rw [decide_eq_true (by omega)], ?_⟩
      refine iteT ⟨_, rfl, _, rfl, rfl, ?_⟩
      refine ⟨_, hD, ?_, hm.own nD, ?_⟩
      · rw [List.length_map, List.length_replicate]; exact Nat.lt_of_lt_of_le hi (Nat.le_trans hl (by decide))
      · have e : (!decide (iN t = iN hand)) = true := by rw [dec_iN, decide_eq_false h2]; rfl
        rw [upd_same, e, List.replicate_succ', List.map_append]; rfl
    · intro H' ⟨hm, hD⟩
      refine ⟨D', _, rfl, SqL.of hD, ?_⟩
      rw [all_true]
      exact kq H' hm
/-! ### are_tables -/
def spTabs (tabs : Tabs) : Sp := fun vs H Q _ => ∃ (v : V), vs = [v] ∧ TabsAt H tabs v ∧ TabsOk tabs ∧ ∀ H', Mv [] H H' → Q (.bl true) H'
theorem sc27 : FnScope ["thing", "hand", "own", "one"] ["thing"] (defScope (top 27)) := ⟨rfl, rfl, rfl, by decide +kernel, rfl, by decide +kernel, by decide +kernel⟩
theorem ok_tabs (D : DefAt K mg "are_tables" (top 27)) (B : Bl mg) (FW : Val mg "FEWEST" (.int 2)) (MO : Val mg "MOST" (.int 6)) (MU : Val mg "MOST_TUPLES" (.int 4)) (GT : LCal P w K mg base 3 "are_targets" spTgts) : LCal P w K mg base 4 "are_tables" (spTabs tabs) := by
  refine cal_of D sc27 (fun _ _ _ _ _ _ us hl => match us, hl with | [_], _ => rfl) (fun vs H Q E h => ?_) (fun f cdv A outer s H vs Q E hr h => ?_)
  · obtain ⟨v, rfl, _⟩ := h
    rfl
  · obtain ⟨v, rfl, ⟨b, vs, rfl, hb, hA⟩, ok, kq⟩ := h
    have nd := sc27.nd
    have h2 := ok.two
    have h4 := ok.four
    have hvl : vs.length = tabs.length := hA.len.symm
    refine ⟨_, (pss_cons (ps_if (PW.pt (pw_or (pt_not (pt_val (pe_callB call_isi (by rfl) B.isinstance boot_isinstance (pa_cons (pv 0) (pa_cons (pe_bltn (v := .ty "tuple") (by rfl) B.tuple (by decide +kernel) rfl) pa_nil))))) (pw_or1 (pt_not (pt_chain op_le op_le (pe_k FW) (pe_callB call_len_seq (by rfl) B.len PySem.boot_len (pa_cons (pv 0) pa_nil)) (pe_k MO))))))
 pss_never
 pss_nil)
 (pss_cons (ps_for PassesOwn.never rfl (pi_enumT (by rfl) B.enumerate (pa_cons (pv 0) pa_nil)) (pg_tup (n := 2) rfl (pgs_cons (pg_name (i := 1) nd rfl (Or.inr rfl)) (pgs_cons (pg_name (i := 2) nd rfl (Or.inl rfl)) pgs_nil)))
 (pss_cons (ps_if (PW.pt (pw_or (pt_not (pt_val (pe_callB call_isi (by rfl) B.isinstance boot_isinstance (pa_cons (pv 2) (pa_cons (pe_bltn (v := .ty "tuple") (by rfl) B.tuple (by decide +kernel) rfl) pa_nil))))) (pw_or1 (pt_not (pt_chain op_le op_le pe_int (pe_callB call_len_seq (by rfl) B.len PySem.boot_len (pa_cons (pv 2) pa_nil)) (pe_k MU))))))
 pss_never
 pss_nil)
 (pss_one (ps_if (pt_not (pt_val (pe_callB (cr_all rfl) (by rfl) B.all (by decide +kernel) (pa_cons (pe_lc (own := [("one", 3)]) (g := gName 3) (tt := tYes) rfl nd (pi_tup (pv 2)) (blkOk_by (own := [("one", 3)]) (N := ["thing", "hand", "own", "one"]) (sc := defScope (top 27)) (by decide +kernel)) (fun _ _ _ _ _ => (pg_name (i := 3) nd rfl (Or.inl rfl))) (fun _ _ _ _ _ => pts_nil) (fun _ _ _ _ _ => (pe_f GT hr (by decide) (pa_cons (pe_callB (call_len_seqK (K := K)) (by rfl) B.len PySem.boot_len (pa_cons (pv 0) pa_nil)) (pa_cons (pv 1) (pa_cons (pv 3) pa_nil)))))) pa_nil))))
 pss_never
 pss_nil))))
 (pss_one (ps_ret pe_bl)))), ?_⟩
    refine ⟨_, rfl, .ref b, .ty "tuple", .type "tuple", .type "tuple", true, rfl, .ty _, .base (.tup hb), kit_ty (by decide +kernel), true, rfl, ?_⟩
    refine ⟨_, rfl, b, _, rfl, .inr (SqT.of hb), _, _, rfl, rfl, true, bl_true (by rw [hvl]; omega), ?_⟩
    refine ⟨_, _, rfl, rfl, true, bl_true (by rw [hvl]; omega), ?_⟩
    refine ⟨_, rfl, b, vs, rfl, SqT.of hb, ?_⟩
    refine for_it walk_enumT (fun i σ H' => (∃ x1 x2 x3, σ = [some (.ref b), x1, x2, x3]) ∧ Mv [] H H') ⟨⟨_, _, _, rfl⟩, Mv.refl _ _⟩ (fun i σ H' _ p => SqT.of (p.2.at hb (by simp))) ?_ ?_
    · intro i x σ H1 H2 hi ⟨⟨x1, x2, x3, hσ⟩, hm⟩ ⟨T', y1, y2, hx, nT, hH2, e1, e2⟩
      subst hσ hx
      replace e1 : some (V.int (i : Nat)) = some y1 := e1
      cases e1
      replace e2 : vs[i]? = some y2 := e2
      obtain ⟨own, ho, ha⟩ := hA.getR e2
      have hok := ok.own i own ho
      have m2 : Mv [] H1 H2 := by rw [hH2]; exact Mv.new nT
      have et : H2 T' = some (.tup [iN i, y2]) := by rw [hH2, upd_same]
      have hm2 := hm.trans m2
      obtain ⟨ob, os, rfl, hob, hoA⟩ := ha.mono hm2.tk0
      have hol : os.length = own.length := hoA.len.symm
      clear hH2
      refine ⟨T', _, rfl, SqT.of et, rfl, _, _, rfl, _, _, rfl, rfl, ?_⟩
      refine ⟨_, rfl, .ref ob, .ty "tuple", .type "tuple", .type "tuple", true, rfl, .ty _, .base (.tup hob), kit_ty (by decide +kernel), true, rfl, ?_⟩
      refine ⟨_, rfl, ob, _, rfl, .inr (SqT.of hob), _, _, rfl, rfl, true, bl_true (by rw [hol]; omega), ?_⟩
      refine ⟨_, _, rfl, rfl, true, bl_true (by rw [hol]; omega), ?_⟩
      refine ⟨_, rfl, ob, rfl, ⟨_, SqT.of hob⟩, fun D' nD => ?_⟩
      refine lc_tup (xs := os) (fun j H' => Mv [] H2 H' ∧ H' D' = some (.lst ((List.replicate j true).map V.bl))) ⟨Mv.new nD, upd_same⟩ (fun j H' _ p => SqT.of (p.1.at hob (by simp))) ?_ ?_
      · intro j x H' hx ⟨hm', hD⟩
        obtain ⟨ts, hts, hta⟩ := hoA.getR hx
        obtain ⟨h1, h3, h5⟩ := hok
        have hj := lt_of_get hts
        have h6 := h5 ts (List.mem_of_getElem? hts)
        refine ⟨rfl, _, rfl, b, _, rfl, .inr (SqT.of ((hm2.trans hm').at hb (by simp))), _, rfl, _, rfl, ?_⟩
        refine ⟨tabs.length, i, ts, x, by rw [hvl]; rfl, hta.mono hm'.tk0, h6.1, h6.2, fun H3 m3 => ?_⟩
        refine ⟨_, m3.at hD (by simp), ?_, (hm'.trans m3).own nD, ?_⟩
        · rw [List.length_map, List.length_replicate]; exact Nat.lt_of_lt_of_le hj (Nat.le_trans h3 (by decide))
        · rw [upd_same, List.replicate_succ', List.map_append]; rfl
      · intro H' ⟨hm', hD⟩
        refine ⟨D', _, rfl, SqL.of hD, true, by rw [all_true], ?_⟩
        exact ⟨⟨_, _, _, rfl⟩, hm2.trans hm'⟩
    · intro σ H' ⟨_, hm⟩
      exact kq H' hm
/-! ### are_fallen -/
theorem dp_nats {H : Hp} : ∀ l : List Nat, DpAll K H (l.map iN) (l.map fun x : Nat => PyData.int x)
  | [] => .nil
  | a :: r => .cons (.int _) (dp_nats r)
theorem can_nats : ∀ l : List Nat, PyData.canLayAll0 (l.map fun x : Nat => PyData.int x) = true
  | [] => rfl
  | a :: r => by
    show PyData.canLayAll0 (PyData.int a :: _) = true
    rw [PyData.canLayAll0, can_nats r]; rfl
theorem depth_nats : ∀ l : List Nat, PyData.depthAll (l.map fun x : Nat => PyData.int x) ≤ 1
  | [] => by decide
  | a :: r => by
    show PyData.depthAll (PyData.int a :: _) ≤ 1
    rw [PyData.depthAll]
    exact Nat.max_le.mpr ⟨by simp [PyData.depth], depth_nats r⟩
theorem shaped_nats (l : List Nat) : SeqAt.shaped (.tuple (l.map fun x : Nat => PyData.int x)) = true := by
  unfold SeqAt.shaped
  rw [Bool.and_eq_true]
  refine ⟨?_, decide_eq_true ?_⟩
  · rw [PyData.canLay0]; exact can_nats l
  · rw [PyData.depth]; have := depth_nats l; omega
theorem eqv_nil {l : List Nat} (h : l ≠ []) : PyData.eqv (.tuple (l.map fun x : Nat => PyData.int x)) (.tuple []) = false := by
  cases l with
  | nil => exact absurd rfl h
  | cons a r => rw [PyData.eqv]; rfl

def spFln : Sp := fun vs H Q _ => ∃ (many : Nat) (a : Addr) (fl : List Nat), vs = [iN many, .ref a] ∧ H a = some (.tup (fl.map iN)) ∧ LotOk many fl ∧ fl.length ≤ 10 ∧ ∀ H', Mv [] H H' → Q (.bl true) H'
theorem sc28 : FnScope ["many", "thing", "one", "other"] ["many", "thing"] (defScope (top 28)) := ⟨rfl, rfl, rfl, by decide +kernel, rfl, by decide +kernel, by decide +kernel⟩
theorem ok_fln (D : DefAt K mg "are_fallen" (top 28)) (B : Bl mg) (W : LCal P w K mg base 2 "is_within" spWithin) : LCal P w K mg base 3 "are_fallen" spFln := by
  refine cal_of D sc28 (fun _ _ _ _ _ _ us hl => match us, hl with | [_, _], _ => rfl) (fun vs H Q E h => ?_) (fun f cdv A outer s H vs Q E hr h => ?_)
  · obtain ⟨many, a, fl, rfl, _⟩ := h
    rfl
  · obtain ⟨many, a, fl, rfl, hb, ok, hl, kq⟩ := h
    have nd := sc28.nd
    refine ⟨_, (pss_cons (ps_if (PW.pt (pw_or (pt_not (pt_val (pe_callB call_isi (by rfl) B.isinstance boot_isinstance (pa_cons (pv 1) (pa_cons (pe_bltn (v := .ty "tuple") (by rfl) B.tuple (by decide +kernel) rfl) pa_nil))))) (pw_or (pt_cmpR (op_eqD hr.units) (pv 1) (pe_tup pa_nil) (nomark _)) (pw_or1 (pt_not (pt_val (pe_callB (cr_all rfl) (by rfl) B.all (by decide +kernel) (pa_cons (pe_lc (own := [("one", 2)]) (g := gName 2) (tt := tYes) rfl nd (pi_tup (pv 1)) (blkOk_by (own := [("one", 2)]) (N := ["many", "thing", "one", "other"]) (sc := defScope (top 28)) (by decide +kernel)) (fun _ _ _ _ _ => (pg_name (i := 2) nd rfl (Or.inl rfl))) (fun _ _ _ _ _ => pts_nil) (fun _ _ _ _ _ => (pe_f W hr (by decide) (pa_cons (pv 2) (pa_cons pe_int (pa_cons (pe_op op_sub (pv 0) pe_int) pa_nil)))))) pa_nil))))))))
 pss_never
 pss_nil)
 (pss_one (ps_ret (pe_callB (cr_all rfl) (by rfl) B.all (by decide +kernel) (pa_cons (pe_lc (own := [("one", 2), ("other", 3)]) (g := gTup K 2 (gCons (gName 2) (gCons (gName 3) gNil))) (tt := tYes) rfl nd (RZ.pi_zipA (by rfl) B.zip (pa_cons (pv 1) (pa_cons (pe_slice sl_tup (pv 1) (po_some pe_int) po_none) pa_nil))) (blkOk_by (own := [("one", 2), ("other", 3)]) (N := ["many", "thing", "one", "other"]) (sc := defScope (top 28)) (by decide +kernel)) (fun _ _ _ _ _ => (pg_tupK (K := K) (n := 2) rfl (pgs_cons (pg_name (i := 2) nd rfl (Or.inl rfl)) (pgs_cons (pg_name (i := 3) nd rfl (Or.inl rfl)) pgs_nil)))) (fun _ _ _ _ _ => pts_nil) (fun _ _ _ _ _ => (pe_cmpR op_lt (pv 2) (pv 3) (nomark _)))) pa_nil))))), ?_⟩
    have hne : fl ≠ [] := ok.some
    refine ⟨_, rfl, .ref a, .ty "tuple", .type "tuple", .type "tuple", true, rfl, .ty _, .base (.tup hb), kit_ty (by decide +kernel), true, rfl, ?_⟩
    refine ⟨_, rfl, (by decide), fun e ne => ?_⟩
    have ee : upd H e (.tup []) e = some (.tup []) := upd_same
    have m1 : Mv [] H (upd H e (.tup [])) := Mv.new ne
    have hb1 := m1.at hb (by simp)
    generalize upd H e (.tup []) = H1 at *
    refine ⟨.tuple (fl.map fun x : Nat => PyData.int x), .tuple [], .tup (SqT.of hb1) (dp_nats fl), .tup (SqT.of ee) .nil, shaped_nats fl, rfl, _, rfl, ?_⟩
    rw [eqv_nil hne]
    refine ⟨_, rfl, a, rfl, ⟨_, SqT.of hb1⟩, fun D' nD => ?_⟩
    refine lc_tup (xs := fl.map iN) (fun i H' => Mv [] H1 H' ∧ H' D' = some (.lst ((List.replicate i true).map V.bl))) ⟨Mv.new nD, upd_same⟩ (fun i H' _ p => SqT.of (p.1.at hb1 (by simp))) ?_ ?_
    · intro i x H' hx ⟨hm, hD⟩
      obtain ⟨t, ht', rfl⟩ : ∃ t, fl[i]? = some t ∧ x = iN t := by
        rw [List.getElem?_map] at hx
        cases e : fl[i]? with
        | none => rw [e] at hx; cases hx
        | some t => rw [e] at hx; exact ⟨t, rfl, (Option.some.inj hx).symm⟩
      have hi := lt_of_get ht'
      have h1 := ok.low t (List.mem_of_getElem? ht')
      refine ⟨rfl, _, rfl, _, rfl, _, _, rfl, rfl, t, 0, (many : Int) - 1, rfl, ?_⟩
      rw [decide_eq_true (by omega)]
      refine ⟨_, hD, ?_, hm.own nD, ?_⟩
      · rw [List.length_map, List.length_replicate]; exact Nat.lt_of_lt_of_le hi (Nat.le_trans hl (by decide))
      · rw [upd_same, List.replicate_succ', List.map_append]; rfl
    · intro H2 ⟨hm, hD⟩
      refine ⟨D', _, rfl, SqL.of hD, true, by rw [all_true], ?_⟩
      have m2 := m1.trans hm
      have hb2 := m2.at hb (by simp)
      clear hD
      have hlen : 1 ≤ fl.length := by
        cases fl with
        | nil => exact absurd rfl hne
        | cons a r => simp
      refine ⟨_, rfl, _, rfl, 1, rfl, a, _, rfl, SqT.of hb2, ?_, fun c nc => ?_⟩
      · rw [List.length_map]
        intro z
        have : HT.sIx fl.length 0 (some 1) = 1 := by simp [HT.sIx]; omega
        rw [this] at z
        exact absurd z.1 (by decide)
      have ec : cutV (fl.map iN) (some 1) none = (fl.drop 1).map iN := by
        unfold cutV
        have e1 : HT.sIx (fl.map iN).length 0 (some 1) = 1 := by rw [List.length_map]; simp [HT.sIx]; omega
        have e2 : HT.sIx (fl.map iN).length (fl.map iN).length none = fl.length := by rw [List.length_map]; rfl
        rw [e1, e2, List.take_of_length_le (by rw [List.length_drop, List.length_map]; omega), List.map_drop]
      rw [ec]
      have et : upd H2 c (.tup ((fl.drop 1).map iN)) c = some (.tup ((fl.drop 1).map iN)) := upd_same
      have m3 : Mv [] H2 (upd H2 c (.tup ((fl.drop 1).map iN))) := Mv.new nc
      have hb3 := m3.at hb2 (by simp)
      have m13 := m2.trans m3
      generalize upd H2 c (.tup ((fl.drop 1).map iN)) = H3 at *
      refine ⟨a, c, _, _, rfl, .inr ⟨SqT.of hb3, SqT.of et, fun D2 nD2 => ?_⟩⟩
      refine lc_it (walk_zipT (n := fl.length - 1) (by rw [List.length_map, List.length_map, List.length_drop]; omega)) (fun i H' => Mv [] H3 H' ∧ H' D2 = some (.lst ((List.replicate i true).map V.bl))) ⟨Mv.new nD2, upd_same⟩ (fun i H' _ p => ⟨SqT.of (p.1.at hb3 (by simp)), SqT.of (p.1.at et (by simp))⟩) ?_ ?_
      · intro i x G1 G2 hi ⟨hm', hD⟩ ⟨T', x1, y1, hx, nT, hH2, e1, e2⟩
        subst hx
        replace e1 : (fl.map iN)[i]? = some x1 := e1
        replace e2 : ((fl.drop 1).map iN)[i]? = some y1 := e2
        have g1 : fl[i]? = some fl[i] := List.getElem?_eq_getElem (by omega)
        have g2 : (fl.drop 1)[i]? = some fl[1 + i] := by rw [List.getElem?_drop]; exact List.getElem?_eq_getElem (by omega)
        rw [List.getElem?_map, g1] at e1
        rw [List.getElem?_map, g2] at e2
        cases e1
        cases e2
        have hlt : fl[i] < fl[1 + i] := List.pairwise_iff_getElem.mp ok.up i (1 + i) (by omega) (by omega) (by omega)
        have et2 : G2 T' = some (.tup [iN fl[i], iN fl[1 + i]]) := by rw [hH2, upd_same]
        have m2' : Mv [] G1 G2 := by rw [hH2]; exact Mv.new nT
        have hD2 := m2'.at hD (by simp)
        refine ⟨T', _, rfl, SqT.of et2, rfl, _, _, rfl, _, _, rfl, rfl, rfl, ?_⟩
        refine ⟨_, rfl, _, rfl, _, _, rfl, rfl, _, hD2, ?_, (hm'.trans m2').own nD2, ?_⟩
        · rw [List.length_map, List.length_replicate]; exact Nat.lt_of_lt_of_le hi (Nat.le_trans (by omega : _ ≤ 10) (by decide))
        · rw [upd_same]
          show some (HO.lst (_ ++ [V.bl (decide ((fl[i] : Int) < (fl[1 + i] : Nat)))])) = _
          rw [decide_eq_true (Int.ofNat_lt.mpr hlt), List.replicate_succ', List.map_append]; rfl
      · intro H4 ⟨hm', hD⟩
        refine ⟨D2, _, rfl, SqL.of hD, ?_⟩
        rw [all_true]
        exact kq H4 (m13.trans hm')
end
end Lor
end

section
set_option Elab.async false
set_option linter.all false
set_option maxRecDepth 100000
set_option maxHeartbeats 4000000
namespace Lor
open PySem PySem.Spec PyProof.Rows L2
/-- a class that is made with one keyword -/
structure LMakK (P : Program) (w : World) (K : PySem.W.Frag) (mg : Str → Option Value) (base : Heap) (k : Nat) (x kw : Str) (n : Nat) (C : Addr) (sp : Sp) : Prop where
  ex : ∃ (f : Addr) (fd : FuncData) (ps : List Str), Mk K C f ∧ mg x = some (.ref C) ∧ FnOk P w K mg base CX0 k f fd ps sp ∧ KBn K fd ps (n + 1) [kw] (fun us ws => us ++ ws) (fun vs zs => vs ++ zs)
theorem pe_nk {X : Cx} {k j n : Nat} {C : Addr} {x kw : Str} {sp : Sp} {p pos : Pos} {e : Expr} {es : List Expr} {kws : List Keyword} {t tk : TA} (c : LMakK X.prog X.w X.K X.mg X.base k x kw n C sp) (hr : Room j X.A) (hk : k + 1 ≤ j) (ha : PA X (e :: es) t) (hkw : PK X kws tk) (hg : Gl X x := by rfl)
    (hall : (backToKw pos (keywordEach kws X.env)).all (·.1.isSome) = true := by rfl) (hks : (backToKw pos (keywordEach kws X.env)).filterMap (·.1) = [kw] := by rfl) (hdb : (x == ("__debug__" : Str)) = false := by decide)
    (he : starEach (e :: es) X.env = (false, eval e X.env) :: starEach es X.env := by rfl) (hpl : ((backTo pos (starEach (e :: es) X.env)).any (·.1) || (backToKw pos (keywordEach kws X.env)).any (·.1.isNone)) = false := by rfl) :
    PE X (.Call (.Name x p) (e :: es) kws pos) (tMakeK C n 1 sp (fun vs zs => vs ++ zs) E0 t tk) := by
  obtain ⟨f, fd, ps, M, hm, F, b⟩ := c.ex
  exact pe_makeK (ks := [kw]) M F (hr.mono hk) hg hm b pass0 ha hkw hall hks hdb he hpl
section
variable {P : Program} {w : World} {K : PySem.W.Frag} {mg : Str → Option Value} {base : Heap}
theorem makk_of {x kw : Str} {C : Addr} {qual : Str} {st : Stmt} {N ps : List Str} {k n : Nat} {sp : Sp} (D : MkAt K mg x C qual st) (S : FnScope N ps (defScope st))
    (hb : ∀ (kV doc pm : Value) (an : Option Addr) (cdv ct : Value) (us ws : List Value), us.length = n + 1 → ws.length = 1 → bindArgs (PySem.W.fnOf "__init__" qual (defArgs st) (defBody st) (defScope st) .none kV doc pm an cdv ct) ⟨us, [kw].zip ws⟩ = pure (ps.zip (us ++ ws)))
    (len : ∀ vs H Q E, sp vs H Q E → vs.length = ps.length)
    (hbody : ∀ (f : Addr) (cdv : Value) (A : Around) (outer : List Env) (s : Shared) (H : Hp) (vs : List V) (Q : VK) (E : XK), Room k (A.deeper (envOfC qual (defScope st) s.heap.objs.size f cdv)) → sp vs H Q E →
      ∃ t, PSs (cxOf CX0 P w K mg base N qual (defScope st) f cdv A outer s H E).nox (defBody st) t ∧ t { nx := fun _ H' => Q .non H', rt := Q } (start N vs) H) : LMakK P w K mg base (k + 1) x kw n C sp := by
  obtain ⟨f, fd, hm, M, F⟩ := D
  refine ⟨f, fd, ps, M, hm, F.ok S len (hbody f), ⟨fun s us ws _ l1 l2 => ?_, fun r1 r2 => r1.append r2⟩⟩
  obtain ⟨oc, od, kV, doc, pm, an, cdv, ct, osl, rfl, lk, hcd⟩ := F.ex
  exact BindsTo.of_eq (hb kV doc pm an cdv ct us ws l1 l2)
/-- a name of the module that holds a tuple -/
def TupAt (K : PySem.W.Frag) (mg : Str → Option Value) (x : Str) (xs : List V) : Prop := ∃ a, Val mg x (.ref a) ∧ ∀ H, SqT K H a xs
variable {C CG CB : Addr} {tabs : Tabs} {al : Bool}
theorem rd_rep2 {v : V} {m : Nat} {ty : TE} {σ : L2.St} {H : Hp} {Q : VK} (hs : ∀ (H' : Hp) (Q : VK), Mv [] H H' → Q (iN m) H' → ty σ H' Q) (hm : m ≤ 1000) (k : ∀ (a : Addr) (H' : Hp), H a = none → H' a = some (.lst (List.replicate m v)) → Mv [] H H' → Q (.ref a) H') :
    tOp rRep (tLst (tCons (tC v) tNil)) ty σ H Q := by
  refine ⟨(by decide : 1 ≤ sizeLine), fun l0 n0 => hs _ _ (Mv.new n0) ⟨l0, m, _, rfl, rfl, upd_same, by omega, by omega, by show 1 * ((m : Int)).toNat ≤ sizeLine; rw [Int.toNat_natCast]; exact Nat.le_trans (by omega : 1 * m ≤ 1000) (by decide), fun lw nw => ?_⟩⟩
  rw [rep_flat]
  exact k lw _ ((Mv.new (S := []) n0).none nw) upd_same ((Mv.new n0).trans (Mv.new nw))
/-! ### Town.__init__ -/
def spTInit (C : Addr) (tabs : Tabs) (al : Bool) : Sp := fun vs H Q _ => ∃ (p dx : Addr) (v : V), vs = [.ref p, v, .str (wayS al)] ∧ H p = some (.ins C dx []) ∧ TabsAt H tabs v ∧ TabsOk tabs ∧
  ∀ (A : ToA) (H' : Hp), A.p = p → (∀ a ∈ A.all, a = p ∨ H a = none) → Mv [p] H H' → TownAt C tabs al H' (tstart tabs.length) A 0 → Q .non H'
theorem sc300 : FnScope ["self", "tables", "way"] ["self", "tables", "way"] (defScope (inClass (top 30) 0)) := ⟨rfl, rfl, rfl, by decide +kernel, rfl, by decide +kernel, by decide +kernel⟩
theorem ok_tinit (D : MkAt K mg "Town" C "Town.__init__" (inClass (top 30) 0)) (B : Bl mg) (T : ToC K C) (WY' : TupAt K mg "WAYS" [.str "wait", .str "free", .str "along"]) (GA : LCal P w K mg base 4 "are_tables" (spTabs tabs)) : LMakK P w K mg base 5 "Town" "way" 1 C (spTInit C tabs al) := by
  refine makk_of D sc300 (fun _ _ _ _ _ _ us ws hl hw => match us, ws, hl, hw with | [_, _], [_], _, _ => rfl) (fun vs H Q E h => ?_) (fun f cdv Ar outer s H vs Q E hr h => ?_)
  · obtain ⟨p, dx, v, rfl, _⟩ := h
    rfl
  · obtain ⟨p, dx, v, rfl, hp, htv, ok, kq⟩ := h
    obtain ⟨wa, WY, hwa⟩ := WY'
    have nd := sc300.nd
    refine ⟨_, (pss_cons (ps_if (pt_not (pt_val (pe_f GA hr (by decide) (pa_cons (pv 1) pa_nil))))
 pss_never
 pss_nil)
 (pss_cons (ps_if (PW.pt (pw_or (pt_not (pt_val (pe_callB call_isi (by rfl) B.isinstance boot_isinstance (pa_cons (pv 2) (pa_cons (pe_bltn (v := .ty "str") (by rfl) B.str (by decide +kernel) rfl) pa_nil))))) (pw_or1 (pt_cmpR op_notIn_seq (pv 2) (pe_k WY) rfl))))
 pss_never
 pss_nil)
 (pss_cons (ps_fld (pv 0) (pv 1) rfl)
 (pss_cons (ps_fld (pv 0) (pv 2) rfl)
 (pss_cons (ps_fld (pv 0) (pe_callB call_len_seq (by rfl) B.len PySem.boot_len (pa_cons (pv 1) pa_nil)) rfl)
 (pss_cons (ps_fld (pv 0) (pe_lst pa_nil) rfl)
 (pss_cons (ps_fld (pv 0) (pe_op op_rep (pe_lst (pa_cons pe_int pa_nil)) (pe_fld (pv 0) rfl)) rfl)
 (pss_cons (ps_fld (pv 0) (pe_lst pa_nil) rfl)
 (pss_cons (ps_fld (pv 0) (pe_lst pa_nil) rfl)
 (pss_cons (ps_fld (pv 0) (pe_op op_rep (pe_lst (pa_cons pe_int pa_nil)) (pe_fld (pv 0) rfl)) rfl)
 (pss_one (ps_fld (pv 0) (pe_lst pa_nil) rfl)))))))))))), ?_⟩
    have np : ∀ {a : Addr}, H a = none → a ≠ p := fun n => (ne_none (some_ne hp) n).symm
    have pl : ∀ {a : Addr}, H a = none → a ∉ [p] := fun n => by simp; exact np n
    obtain ⟨tb, tvs, rfl, htb, htA⟩ := htv
    refine ⟨_, rfl, .ref tb, rfl, ⟨tb, tvs, rfl, htb, htA⟩, ok, fun H0 m0 => ⟨true, rfl, ?_⟩⟩
    refine ⟨_, rfl, .str (wayS al), .ty "str", .type "str", .type "str", true, rfl, .ty _, .base (.str _), kit_ty (by decide +kernel), true, rfl, ?_⟩
    refine ⟨_, rfl, wa, _, rfl, .inr (hwa _), rfl, rfl, false, by cases al <;> rfl, ?_⟩
    have hp0 := m0.at hp (by simp)
    have h4 := ok.four
    have hvl : tvs.length = tabs.length := htA.len.symm
    have htb0 := m0.at htb (by simp)
    refine ⟨_, rfl, ?_⟩
    refine rd_setf rfl hp0 T.cl T.nTab (fs' := [("own_tables", .ref tb)]) rfl fun H1 hp1 N1 => ?_
    refine ⟨_, rfl, ?_⟩
    refine rd_setf rfl hp1 T.cl T.nWay (fs' := [("own_tables", .ref tb), ("own_way", .str (wayS al))]) rfl fun H2 hp2 N2 => ?_
    have ptb : tb ∉ [p] := fun z => by
      rw [List.mem_singleton] at z
      rw [z, hp] at htb; cases htb
    have M02 : Mv [p] H H2 := ((m0.mono (by simp)).trans N1).trans N2
    refine ⟨_, rfl, tb, _, rfl, .inr (SqT.of (M02.at htb ptb)), ?_⟩
    rw [hvl]
    refine rd_setf rfl hp2 T.cl T.nMany (fs' := [("own_tables", .ref tb), ("own_way", .str (wayS al)), ("own_many", iN tabs.length)]) rfl fun H3 hp3 N3 => ?_
    have M3 := M02.trans N3
    clear N1 N2 N3 hp0 hp1 hp2 M02 htb0
    refine ⟨by decide, fun lr nlr => ?_⟩
    refine rd_setf rfl ((Mv.new (S := []) nlr).at hp3 (by simp)) T.cl T.nRows (fs' := [("own_tables", .ref tb), ("own_way", .str (wayS al)), ("own_many", iN tabs.length), ("rows", .ref lr)]) rfl fun H4 hp4 N4 => ?_
    have er := N4.at (upd_same (H := H3) (a := lr)) (pl (M3.none nlr))
    have M4 : Mv [p] H3 H4 := (Mv.new nlr).trans N4
    clear N4
    have nr0 := M3.none nlr
    have M4' := M3.trans M4
    refine rd_rep2 (m := tabs.length) (fun H' Q m q => ⟨_, rfl, _, _, _, _, _, rfl, m.at hp4 (by simp), T.cl, T.nMany, rfl, q⟩) (by omega) fun lw G5 nlw ew M5 => ?_
    refine rd_setf rfl (M5.at hp4 (by simp)) T.cl T.nWr (fs' := [("own_tables", .ref tb), ("own_way", .str (wayS al)), ("own_many", iN tabs.length), ("rows", .ref lr), ("own_written", .ref lw)]) rfl fun H5 hp5 N5 => ?_
    have nw0 := M4'.none nlw
    have ew5 := N5.at ew (pl nw0)
    have M5' : Mv [p] H4 H5 := (M5.mono (by simp)).trans N5
    clear ew M5 N5
    refine ⟨by decide, fun lt nlt => ?_⟩
    refine rd_setf rfl ((Mv.new (S := []) nlt).at hp5 (by simp)) T.cl T.nTold (fs' := [("own_tables", .ref tb), ("own_way", .str (wayS al)), ("own_many", iN tabs.length), ("rows", .ref lr), ("own_written", .ref lw), ("told_rows", .ref lt)]) rfl fun H6 hp6 N6 => ?_
    have nt0 := M4'.none (M5'.none nlt)
    have et := N6.at (upd_same (H := H5) (a := lt)) (pl nt0)
    have M6' : Mv [p] H5 H6 := (Mv.new nlt).trans N6
    clear N6
    refine ⟨by decide, fun lf nlf => ?_⟩
    refine rd_setf rfl ((Mv.new (S := []) nlf).at hp6 (by simp)) T.cl T.nFall (fs' := [("own_tables", .ref tb), ("own_way", .str (wayS al)), ("own_many", iN tabs.length), ("rows", .ref lr), ("own_written", .ref lw), ("told_rows", .ref lt), ("fall_rows", .ref lf)]) rfl fun H7 hp7 N7 => ?_
    have nf0 := M4'.none (M5'.none (M6'.none nlf))
    have ef := N7.at (upd_same (H := H6) (a := lf)) (pl nf0)
    have M7' : Mv [p] H6 H7 := (Mv.new nlf).trans N7
    clear N7
    refine rd_rep2 (m := tabs.length) (fun H' Q m q => ⟨_, rfl, _, _, _, _, _, rfl, m.at hp7 (by simp), T.cl, T.nMany, rfl, q⟩) (by omega) fun lb G8 nlb eb M8 => ?_
    refine rd_setf rfl (M8.at hp7 (by simp)) T.cl T.nFrom (fs' := [("own_tables", .ref tb), ("own_way", .str (wayS al)), ("own_many", iN tabs.length), ("rows", .ref lr), ("own_written", .ref lw), ("told_rows", .ref lt), ("fall_rows", .ref lf), ("begun_from", .ref lb)]) rfl fun H8 hp8 N8 => ?_
    have nb0 := M4'.none (M5'.none (M6'.none (M7'.none nlb)))
    have eb8 := N8.at eb (pl nb0)
    have M8' : Mv [p] H7 H8 := (M8.mono (by simp)).trans N8
    clear eb M8 N8
    refine ⟨by decide, fun ld nld => ?_⟩
    refine rd_setf rfl ((Mv.new (S := []) nld).at hp8 (by simp)) T.cl T.nDone (fs' := [("own_tables", .ref tb), ("own_way", .str (wayS al)), ("own_many", iN tabs.length), ("rows", .ref lr), ("own_written", .ref lw), ("told_rows", .ref lt), ("fall_rows", .ref lf), ("begun_from", .ref lb), ("done", .ref ld)]) rfl fun H9 hp9 N9 => ?_
    have nd0 := M4'.none (M5'.none (M6'.none (M7'.none (M8'.none nld))))
    have ed := N9.at (upd_same (H := H8) (a := ld)) (pl nd0)
    have M9' : Mv [p] H8 H9 := (Mv.new nld).trans N9
    clear N9
    have M89 := M9'
    have M79 := M8'.trans M89
    have M69 := M7'.trans M79
    have M59 := M6'.trans M69
    have M49 := M5'.trans M59
    have M09 := M4'.trans M49
    refine kq ⟨p, dx, lr, lw, lt, lf, lb, ld⟩ H9 rfl ?_ M09 ?_
    · simp [ToA.all, nr0, nw0, nt0, nf0, nb0, nd0]
    · refine ⟨?_, ⟨.ref tb, ⟨tb, tvs, rfl, M09.at htb ptb, htA.imp fun _ _ z => z.mono (M09.tk (by simp [hp]))⟩, hp9⟩, ⟨[], M49.at er (pl nr0), .nil⟩, ?_, ⟨[], M69.at et (pl nt0), .nil⟩, ⟨[], M79.at ef (pl nf0), .nil⟩, ⟨_, M89.at eb8 (pl nb0)⟩, ⟨[], ed, Nat.le_refl _⟩⟩
      · have x4 : ∀ b, H4 b = none → b ≠ lr := fun b n => (ne_none (some_ne er) n).symm
        have x5 : ∀ b, H5 b = none → b ≠ lw := fun b n => (ne_none (some_ne ew5) n).symm
        have x6 : ∀ b, H6 b = none → b ≠ lt := fun b n => (ne_none (some_ne et) n).symm
        have x7 : ∀ b, H7 b = none → b ≠ lf := fun b n => (ne_none (some_ne ef) n).symm
        have x8 : ∀ b, H8 b = none → b ≠ lb := fun b n => (ne_none (some_ne eb8) n).symm
        simp only [ToA.all, List.nodup_cons, List.mem_cons, not_or, List.not_mem_nil, not_false_eq_true, and_true, List.nodup_nil]
        exact ⟨⟨(np nr0).symm, (np nw0).symm, (np nt0).symm, (np nf0).symm, (np nb0).symm, (np nd0).symm⟩,
          ⟨(x4 _ nlw).symm, (x4 _ (M5'.none nlt)).symm, (x4 _ (M5'.none (M6'.none nlf))).symm, (x4 _ (M5'.none (M6'.none (M7'.none nlb)))).symm, (x4 _ (M5'.none (M6'.none (M7'.none (M8'.none nld))))).symm⟩,
          ⟨(x5 _ nlt).symm, (x5 _ (M6'.none nlf)).symm, (x5 _ (M6'.none (M7'.none nlb))).symm, (x5 _ (M6'.none (M7'.none (M8'.none nld)))).symm⟩,
          ⟨(x6 _ nlf).symm, (x6 _ (M7'.none nlb)).symm, (x6 _ (M7'.none (M8'.none nld))).symm⟩, ⟨(x7 _ nlb).symm, (x7 _ (M8'.none nld)).symm⟩, (x8 _ nld).symm⟩
      · have := M59.at ew5 (pl nw0)
        show H9 lw = some (.lst ((List.replicate tabs.length 0).map iN))
        rw [List.map_replicate]; exact this
end
end Lor
end

section
set_option Elab.async false
set_option linter.all false
set_option maxRecDepth 100000
set_option maxHeartbeats 4000000
namespace Lor
open PySem PySem.Spec PyProof.Rows L2
/-- a list of things that stays as it is, elsewhere -/
theorem LstR.copy {α : Type} {H H' : Hp} {l l' : Addr} {R S : α → V → Prop} {xs : List α} {vs : List V} (h : LstR H l R xs) (e : H l = some (.lst vs)) (e' : H' l' = some (.lst vs)) (f : ∀ a v, R a v → S a v) : LstR H' l' S xs := by
  obtain ⟨vs', a, b⟩ := h
  rw [e] at a
  cases a
  exact ⟨vs, e', b.imp f⟩
section
variable {P : Program} {w : World} {K : PySem.W.Frag} {mg : Str → Option Value} {base : Heap}
variable {C CG CB : Addr} {tabs : Tabs} {al : Bool}
/-! ### Town.take_over -/
def spOver (C : Addr) (tabs : Tabs) (al : Bool) : Sp := fun vs H Q _ => ∃ (A A2 : ToA) (st0 st : TS) (n0 n : Nat), vs = [.ref A.p, .ref A2.p] ∧ TownAt C tabs al H st0 A n0 ∧ TownAt C tabs al H st A2 n ∧ A.p ∉ A2.all ∧
  ∀ (A' : ToA) (H' : Hp), A'.p = A.p → (∀ a ∈ A'.all, a = A.p ∨ H a = none) → Mv [A.p] H H' → TownAt C tabs al H' st A' n → Q .non H'
theorem sc3029 : FnScope ["self", "other"] ["self", "other"] (defScope (inClass (top 30) 29)) := ⟨rfl, rfl, rfl, by decide +kernel, rfl, by decide +kernel, by decide +kernel⟩
theorem ok_over (D : MethAt K C "take_over" "Town.take_over" (inClass (top 30) 29)) (B : Bl mg) (T : ToC K C) : LMet P w K mg base 1 C "take_over" (spOver C tabs al) := by
  refine met_of T.cl D sc3029 (fun _ _ _ _ _ _ us hl => match us, hl with | [_, _], _ => rfl) (fun vs H Q E h => ?_) (fun f cdv Ar outer s H vs Q E hr h => ?_)
  · obtain ⟨A, A2, st0, st, n0, n, rfl, _⟩ := h
    rfl
  · obtain ⟨A, A2, st0, st, n0, n, rfl, hT0, hT, hap, kq⟩ := h
    have nd := sc3029.nd
    refine ⟨_, (pss_cons (ps_asg (pe_tup (pa_cons (pe_callTy call_list_of (by rfl) B.list (by decide +kernel) (pa_cons (pe_fld (pv 1) rfl) pa_nil)) (pa_cons (pe_callTy call_list_of (by rfl) B.list (by decide +kernel) (pa_cons (pe_fld (pv 1) rfl) pa_nil)) pa_nil))) (pg_tup (n := 2) rfl (pgs_cons (pg_fld (pv 0)) (pgs_cons (pg_fld (pv 0)) pgs_nil))))
 (pss_cons (ps_asg (pe_tup (pa_cons (pe_callTy call_list_of (by rfl) B.list (by decide +kernel) (pa_cons (pe_fld (pv 1) rfl) pa_nil)) (pa_cons (pe_callTy call_list_of (by rfl) B.list (by decide +kernel) (pa_cons (pe_fld (pv 1) rfl) pa_nil)) pa_nil))) (pg_tup (n := 2) rfl (pgs_cons (pg_fld (pv 0)) (pgs_cons (pg_fld (pv 0)) pgs_nil))))
 (pss_one (ps_asg (pe_tup (pa_cons (pe_callTy call_list_of (by rfl) B.list (by decide +kernel) (pa_cons (pe_fld (pv 1) rfl) pa_nil)) (pa_cons (pe_callTy call_list_of (by rfl) B.list (by decide +kernel) (pa_cons (pe_fld (pv 1) rfl) pa_nil)) pa_nil))) (pg_tup (n := 2) rfl (pgs_cons (pg_fld (pv 0)) (pgs_cons (pg_fld (pv 0)) pgs_nil))))))), ?_⟩
    obtain ⟨tv0, htv0, ob0⟩ := hT0.tab
    obtain ⟨tv, htv, ob⟩ := hT.tab
    have p2 : A2.p ≠ A.p := fun z => hap (by rw [← z]; simp [ToA.all])
    obtain ⟨q1, q2, q3, q4, q5, q6, q7⟩ := ToA.notin hap
    obtain ⟨rvs, hrv, hrA⟩ := hT.rows
    obtain ⟨tvs, htv1, htA⟩ := hT.told
    obtain ⟨fvs, hfv, hfA⟩ := hT.falls
    obtain ⟨bvs, hbv⟩ := hT.begun
    obtain ⟨dvs, hdv, hdl⟩ := hT.done
    have tkp : ∀ {H'}, Mv [A.p] H H' → TK H H' := fun m => m.tk (by simp [ob0])
    have np : ∀ {a : Addr}, H a = none → a ≠ A.p := fun n => (ne_none (some_ne ob0) n).symm
    have pl : ∀ {a : Addr}, H a = none → a ∉ [A.p] := fun n => by simp; exact np n
    have pn : ∀ {a : Addr}, a ≠ A.p → a ∉ [A.p] := fun n => by simp; exact n
    have m00 : Mv [A.p] H H := Mv.refl _ _
    refine ⟨_, rfl, _, _, _, _, _, rfl, m00.at ob (pn p2), T.cl, T.nRows, rfl, _, _, rfl, .inl (SqL.of (m00.at hrv (pn q2))), fun l1 nl1 => ?_⟩
    have el1 : upd H l1 (.lst rvs) l1 = some (.lst rvs) := upd_same
    have mml1 : Mv [A.p] H (upd H l1 (.lst rvs)) := Mv.new nl1
    have cl1 := m00.none nl1
    have rl1 := m00.trans mml1
    have xl1 := (Mv.new (S := []) (o := .lst rvs) nl1).at ob0 (by simp)
    generalize upd H l1 (.lst rvs) = H1 at *
    refine ⟨_, rfl, _, _, _, _, _, rfl, rl1.at ob (pn p2), T.cl, T.nWr, rfl, _, _, rfl, .inl (SqL.of (rl1.at hT.wr (pn q3))), fun l2 nl2 => ?_⟩
    have el2 : upd H1 l2 (.lst (st.wr.map iN)) l2 = some (.lst (st.wr.map iN)) := upd_same
    have mml2 : Mv [A.p] H1 (upd H1 l2 (.lst (st.wr.map iN))) := Mv.new nl2
    have cl2 := rl1.none nl2
    have rl2 := rl1.trans mml2
    have xl2 := (Mv.new (S := []) (o := .lst (st.wr.map iN)) nl2).at xl1 (by simp)
    generalize upd H1 l2 (.lst (st.wr.map iN)) = H2 at *
    refine ⟨(by show 2 ≤ sizeLine; decide), fun tl1 ntl1 => ?_⟩
    have etl1 : upd H2 tl1 (.tup [.ref l1, .ref l2]) tl1 = some (.tup [.ref l1, .ref l2]) := upd_same
    have mtl1 : Mv [A.p] H2 (upd H2 tl1 (.tup [.ref l1, .ref l2])) := Mv.new ntl1
    have rtl1 := rl2.trans mtl1
    have obl1 : upd H2 tl1 (.tup [.ref l1, .ref l2]) A.p = some (.ins C A.dx (tF A tv0 al tabs.length)) := (Mv.new (S := []) ntl1).at xl2 (by simp)
    generalize upd H2 tl1 (.tup [.ref l1, .ref l2]) = H3 at *
    refine ⟨tl1, _, rfl, SqT.of etl1, rfl, _, _, rfl, ?_⟩
    refine ⟨_, rfl, _, _, _, _, rfl, obl1, T.cl, T.nRows, (by show 9 < 1000; decide), ?_⟩
    have oH4 : upd H3 A.p (.ins C A.dx (tF { A with lr := l1 } tv0 al tabs.length)) A.p = some (.ins C A.dx (tF { A with lr := l1 } tv0 al tabs.length)) := upd_same
    have mH4 : Mv [A.p] H3 (upd H3 A.p (.ins C A.dx (tF { A with lr := l1 } tv0 al tabs.length))) := Mv.upd (by simp)
    rw [show putF "rows" (.ref l1) (tF A tv0 al tabs.length) = tF { A with lr := l1 } tv0 al tabs.length from rfl]
    generalize upd H3 A.p (.ins C A.dx (tF { A with lr := l1 } tv0 al tabs.length)) = H4 at *
    refine ⟨_, _, rfl, _, rfl, _, _, _, _, rfl, oH4, T.cl, T.nWr, (by show 9 < 1000; decide), rfl, ?_⟩
    have oH5 : upd H4 A.p (.ins C A.dx (tF { A with lr := l1, lw := l2 } tv0 al tabs.length)) A.p = some (.ins C A.dx (tF { A with lr := l1, lw := l2 } tv0 al tabs.length)) := upd_same
    have mH5 : Mv [A.p] H4 (upd H4 A.p (.ins C A.dx (tF { A with lr := l1, lw := l2 } tv0 al tabs.length))) := Mv.upd (by simp)
    rw [show putF "own_written" (.ref l2) (tF { A with lr := l1 } tv0 al tabs.length) = tF { A with lr := l1, lw := l2 } tv0 al tabs.length from rfl]
    generalize upd H4 A.p (.ins C A.dx (tF { A with lr := l1, lw := l2 } tv0 al tabs.length)) = H5 at *
    have sl1 := (rtl1.trans mH4).trans mH5
    have ul1 := ((mml2.trans mtl1).trans mH4).trans mH5
    have ul2 := (mtl1.trans mH4).trans mH5
    refine ⟨_, rfl, _, _, _, _, _, rfl, sl1.at ob (pn p2), T.cl, T.nTold, rfl, _, _, rfl, .inl (SqL.of (sl1.at htv1 (pn q4))), fun l3 nl3 => ?_⟩
    have el3 : upd H5 l3 (.lst tvs) l3 = some (.lst tvs) := upd_same
    have mml3 : Mv [A.p] H5 (upd H5 l3 (.lst tvs)) := Mv.new nl3
    have cl3 := sl1.none nl3
    have rl3 := sl1.trans mml3
    have xl3 := (Mv.new (S := []) (o := .lst tvs) nl3).at oH5 (by simp)
    generalize upd H5 l3 (.lst tvs) = H6 at *
    refine ⟨_, rfl, _, _, _, _, _, rfl, rl3.at ob (pn p2), T.cl, T.nFall, rfl, _, _, rfl, .inl (SqL.of (rl3.at hfv (pn q5))), fun l4 nl4 => ?_⟩
    have el4 : upd H6 l4 (.lst fvs) l4 = some (.lst fvs) := upd_same
    have mml4 : Mv [A.p] H6 (upd H6 l4 (.lst fvs)) := Mv.new nl4
    have cl4 := rl3.none nl4
    have rl4 := rl3.trans mml4
    have xl4 := (Mv.new (S := []) (o := .lst fvs) nl4).at xl3 (by simp)
    generalize upd H6 l4 (.lst fvs) = H7 at *
    refine ⟨(by show 2 ≤ sizeLine; decide), fun tl3 ntl3 => ?_⟩
    have etl3 : upd H7 tl3 (.tup [.ref l3, .ref l4]) tl3 = some (.tup [.ref l3, .ref l4]) := upd_same
    have mtl3 : Mv [A.p] H7 (upd H7 tl3 (.tup [.ref l3, .ref l4])) := Mv.new ntl3
    have rtl3 := rl4.trans mtl3
    have obl3 : upd H7 tl3 (.tup [.ref l3, .ref l4]) A.p = some (.ins C A.dx (tF { A with lr := l1, lw := l2 } tv0 al tabs.length)) := (Mv.new (S := []) ntl3).at xl4 (by simp)
    generalize upd H7 tl3 (.tup [.ref l3, .ref l4]) = H8 at *
    refine ⟨tl3, _, rfl, SqT.of etl3, rfl, _, _, rfl, ?_⟩
    refine ⟨_, rfl, _, _, _, _, rfl, obl3, T.cl, T.nTold, (by show 9 < 1000; decide), ?_⟩
    have oH9 : upd H8 A.p (.ins C A.dx (tF { A with lr := l1, lw := l2, lt := l3 } tv0 al tabs.length)) A.p = some (.ins C A.dx (tF { A with lr := l1, lw := l2, lt := l3 } tv0 al tabs.length)) := upd_same
    have mH9 : Mv [A.p] H8 (upd H8 A.p (.ins C A.dx (tF { A with lr := l1, lw := l2, lt := l3 } tv0 al tabs.length))) := Mv.upd (by simp)
    rw [show putF "told_rows" (.ref l3) (tF { A with lr := l1, lw := l2 } tv0 al tabs.length) = tF { A with lr := l1, lw := l2, lt := l3 } tv0 al tabs.length from rfl]
    generalize upd H8 A.p (.ins C A.dx (tF { A with lr := l1, lw := l2, lt := l3 } tv0 al tabs.length)) = H9 at *
    refine ⟨_, _, rfl, _, rfl, _, _, _, _, rfl, oH9, T.cl, T.nFall, (by show 9 < 1000; decide), rfl, ?_⟩
    have oH10 : upd H9 A.p (.ins C A.dx (tF { A with lr := l1, lw := l2, lt := l3, lf := l4 } tv0 al tabs.length)) A.p = some (.ins C A.dx (tF { A with lr := l1, lw := l2, lt := l3, lf := l4 } tv0 al tabs.length)) := upd_same
    have mH10 : Mv [A.p] H9 (upd H9 A.p (.ins C A.dx (tF { A with lr := l1, lw := l2, lt := l3, lf := l4 } tv0 al tabs.length))) := Mv.upd (by simp)
    rw [show putF "fall_rows" (.ref l4) (tF { A with lr := l1, lw := l2, lt := l3 } tv0 al tabs.length) = tF { A with lr := l1, lw := l2, lt := l3, lf := l4 } tv0 al tabs.length from rfl]
    generalize upd H9 A.p (.ins C A.dx (tF { A with lr := l1, lw := l2, lt := l3, lf := l4 } tv0 al tabs.length)) = H10 at *
    have sl3 := (rtl3.trans mH9).trans mH10
    have ul3 := ((mml4.trans mtl3).trans mH9).trans mH10
    have ul4 := (mtl3.trans mH9).trans mH10
    refine ⟨_, rfl, _, _, _, _, _, rfl, sl3.at ob (pn p2), T.cl, T.nFrom, rfl, _, _, rfl, .inl (SqL.of (sl3.at hbv (pn q6))), fun l5 nl5 => ?_⟩
    have el5 : upd H10 l5 (.lst bvs) l5 = some (.lst bvs) := upd_same
    have mml5 : Mv [A.p] H10 (upd H10 l5 (.lst bvs)) := Mv.new nl5
    have cl5 := sl3.none nl5
    have rl5 := sl3.trans mml5
    have xl5 := (Mv.new (S := []) (o := .lst bvs) nl5).at oH10 (by simp)
    generalize upd H10 l5 (.lst bvs) = H11 at *
    refine ⟨_, rfl, _, _, _, _, _, rfl, rl5.at ob (pn p2), T.cl, T.nDone, rfl, _, _, rfl, .inl (SqL.of (rl5.at hdv (pn q7))), fun l6 nl6 => ?_⟩
    have el6 : upd H11 l6 (.lst dvs) l6 = some (.lst dvs) := upd_same
    have mml6 : Mv [A.p] H11 (upd H11 l6 (.lst dvs)) := Mv.new nl6
    have cl6 := rl5.none nl6
    have rl6 := rl5.trans mml6
    have xl6 := (Mv.new (S := []) (o := .lst dvs) nl6).at xl5 (by simp)
    generalize upd H11 l6 (.lst dvs) = H12 at *
    refine ⟨(by show 2 ≤ sizeLine; decide), fun tl5 ntl5 => ?_⟩
    have etl5 : upd H12 tl5 (.tup [.ref l5, .ref l6]) tl5 = some (.tup [.ref l5, .ref l6]) := upd_same
    have mtl5 : Mv [A.p] H12 (upd H12 tl5 (.tup [.ref l5, .ref l6])) := Mv.new ntl5
    have rtl5 := rl6.trans mtl5
    have obl5 : upd H12 tl5 (.tup [.ref l5, .ref l6]) A.p = some (.ins C A.dx (tF { A with lr := l1, lw := l2, lt := l3, lf := l4 } tv0 al tabs.length)) := (Mv.new (S := []) ntl5).at xl6 (by simp)
    generalize upd H12 tl5 (.tup [.ref l5, .ref l6]) = H13 at *
    refine ⟨tl5, _, rfl, SqT.of etl5, rfl, _, _, rfl, ?_⟩
    refine ⟨_, rfl, _, _, _, _, rfl, obl5, T.cl, T.nFrom, (by show 9 < 1000; decide), ?_⟩
    have oH14 : upd H13 A.p (.ins C A.dx (tF { A with lr := l1, lw := l2, lt := l3, lf := l4, lb := l5 } tv0 al tabs.length)) A.p = some (.ins C A.dx (tF { A with lr := l1, lw := l2, lt := l3, lf := l4, lb := l5 } tv0 al tabs.length)) := upd_same
    have mH14 : Mv [A.p] H13 (upd H13 A.p (.ins C A.dx (tF { A with lr := l1, lw := l2, lt := l3, lf := l4, lb := l5 } tv0 al tabs.length))) := Mv.upd (by simp)
    rw [show putF "begun_from" (.ref l5) (tF { A with lr := l1, lw := l2, lt := l3, lf := l4 } tv0 al tabs.length) = tF { A with lr := l1, lw := l2, lt := l3, lf := l4, lb := l5 } tv0 al tabs.length from rfl]
    generalize upd H13 A.p (.ins C A.dx (tF { A with lr := l1, lw := l2, lt := l3, lf := l4, lb := l5 } tv0 al tabs.length)) = H14 at *
    refine ⟨_, _, rfl, _, rfl, _, _, _, _, rfl, oH14, T.cl, T.nDone, (by show 9 < 1000; decide), rfl, ?_⟩
    have oH15 : upd H14 A.p (.ins C A.dx (tF { A with lr := l1, lw := l2, lt := l3, lf := l4, lb := l5, ld := l6 } tv0 al tabs.length)) A.p = some (.ins C A.dx (tF { A with lr := l1, lw := l2, lt := l3, lf := l4, lb := l5, ld := l6 } tv0 al tabs.length)) := upd_same
    have mH15 : Mv [A.p] H14 (upd H14 A.p (.ins C A.dx (tF { A with lr := l1, lw := l2, lt := l3, lf := l4, lb := l5, ld := l6 } tv0 al tabs.length))) := Mv.upd (by simp)
    rw [show putF "done" (.ref l6) (tF { A with lr := l1, lw := l2, lt := l3, lf := l4, lb := l5 } tv0 al tabs.length) = tF { A with lr := l1, lw := l2, lt := l3, lf := l4, lb := l5, ld := l6 } tv0 al tabs.length from rfl]
    generalize upd H14 A.p (.ins C A.dx (tF { A with lr := l1, lw := l2, lt := l3, lf := l4, lb := l5, ld := l6 } tv0 al tabs.length)) = H15 at *
    have sl5 := (rtl5.trans mH14).trans mH15
    have ul5 := ((mml6.trans mtl5).trans mH14).trans mH15
    have ul6 := (mtl5.trans mH14).trans mH15
    have S := sl5
    have g1 := (ul1.trans (mml3.trans ul3)).trans (mml5.trans ul5)
    have g2 := (ul2.trans (mml3.trans ul3)).trans (mml5.trans ul5)
    have g3 := ul3.trans (mml5.trans ul5)
    have g4 := ul4.trans (mml5.trans ul5)
    have k := tkp S
    refine kq { A with lr := l1, lw := l2, lt := l3, lf := l4, lb := l5, ld := l6 } H15 rfl ?_ S ?_
    · simp [ToA.all, cl1, cl2, cl3, cl4, cl5, cl6]
    · refine ⟨?_, ⟨tv0, htv0.mono k, oH15⟩, ⟨rvs, g1.at el1 (pl cl1), hrA.imp fun _ _ z => z.mono k⟩, g2.at el2 (pl cl2), ⟨tvs, g3.at el3 (pl cl3), htA.imp fun _ _ z => z.mono k⟩, ⟨fvs, g4.at el4 (pl cl4), hfA.imp fun _ _ z => z.mono k⟩, ⟨bvs, ul5.at el5 (pl cl5)⟩, ⟨dvs, ul6.at el6 (pl cl6), hdl⟩⟩
      have x1 : ∀ b, H1 b = none → b ≠ l1 := fun b n => (ne_none (some_ne el1) n).symm
      have x2 : ∀ b, H2 b = none → b ≠ l2 := fun b n => (ne_none (some_ne el2) n).symm
      have x3 : ∀ b, H6 b = none → b ≠ l3 := fun b n => (ne_none (some_ne el3) n).symm
      have x4 : ∀ b, H7 b = none → b ≠ l4 := fun b n => (ne_none (some_ne el4) n).symm
      have x5 : ∀ b, H11 b = none → b ≠ l5 := fun b n => (ne_none (some_ne el5) n).symm
      have y2 := (mtl1.trans mH4).trans mH5
      have y1 := mml2.trans y2
      have y4 := (mtl3.trans mH9).trans mH10
      have y3 := mml4.trans y4
      have n3_2 := y2.none nl3
      have n3_1 := y1.none nl3
      have n4_2 := y2.none (mml3.none nl4)
      have n4_1 := y1.none (mml3.none nl4)
      have n5_4 := y4.none nl5
      have n5_3 := y3.none nl5
      have n5_2 := y2.none (mml3.none n5_3)
      have n5_1 := y1.none (mml3.none n5_3)
      have n6_4 := y4.none (mml5.none nl6)
      have n6_3 := y3.none (mml5.none nl6)
      have n6_2 := y2.none (mml3.none n6_3)
      have n6_1 := y1.none (mml3.none n6_3)
      simp only [ToA.all, List.nodup_cons, List.mem_cons, not_or, List.not_mem_nil, not_false_eq_true, and_true, List.nodup_nil]
      exact ⟨⟨(np cl1).symm, (np cl2).symm, (np cl3).symm, (np cl4).symm, (np cl5).symm, (np cl6).symm⟩,
        ⟨(x1 _ nl2).symm, (x1 _ n3_1).symm, (x1 _ n4_1).symm, (x1 _ n5_1).symm, (x1 _ n6_1).symm⟩,
        ⟨(x2 _ n3_2).symm, (x2 _ n4_2).symm, (x2 _ n5_2).symm, (x2 _ n6_2).symm⟩,
        ⟨(x3 _ nl4).symm, (x3 _ n5_3).symm, (x3 _ n6_3).symm⟩, ⟨(x4 _ n5_4).symm, (x4 _ n6_4).symm⟩, (x5 _ nl6).symm⟩
end
end Lor
end

section
set_option Elab.async false
set_option linter.all false
set_option maxRecDepth 100000
set_option maxHeartbeats 4000000
namespace Lor
open PySem PySem.Spec PyProof.Rows L2
section
variable {P : Program} {w : World} {K : PySem.W.Frag} {mg : Str → Option Value} {base : Heap}
variable {C CG CB : Addr} {tabs : Tabs} {al : Bool}
/-! ### Town.twin -/
def spTwin (C : Addr) (tabs : Tabs) (al : Bool) : Sp := fun vs H Q _ => ∃ (A : ToA) (st : TS) (n : Nat), vs = [.ref A.p] ∧ TownAt C tabs al H st A n ∧ TabsOk tabs ∧
  ∀ (A' : ToA) (H' : Hp), (∀ a ∈ A'.all, H a = none) → Mv [] H H' → TownAt C tabs al H' st A' n → Q (.ref A'.p) H'
theorem sc3030 : FnScope ["self", "found"] ["self"] (defScope (inClass (top 30) 30)) := ⟨rfl, rfl, rfl, by decide +kernel, rfl, by decide +kernel, by decide +kernel⟩
theorem ok_twin (D : MethAt K C "twin" "Town.twin" (inClass (top 30) 30)) (T : ToC K C) (GI : LMakK P w K mg base 5 "Town" "way" 1 C (spTInit C tabs al)) (GO : LMet P w K mg base 1 C "take_over" (spOver C tabs al)) : LMet P w K mg base 7 C "twin" (spTwin C tabs al) := by
  refine met_of T.cl D sc3030 (fun _ _ _ _ _ _ us hl => match us, hl with | [_], _ => rfl) (fun vs H Q E h => ?_) (fun f cdv Ar outer s H vs Q E hr h => ?_)
  · obtain ⟨A, st, n, rfl, _⟩ := h
    rfl
  · obtain ⟨A, st, n, rfl, hT, ok, kq⟩ := h
    have nd := sc3030.nd
    refine ⟨_, (pss_cons (ps_set (i := 1) nd rfl (Or.inl rfl) (pe_nk GI hr (by decide) (pa_cons (pe_fld (pv 0) rfl) pa_nil) (pk_cons (pe_fld (pv 0) rfl) pk_nil)))
 (pss_cons (ps_expr (pe_m GO hr (by decide) (pv 1) (pa_cons (pv 0) pa_nil)))
 (pss_one (ps_ret (pv 1))))), ?_⟩
    obtain ⟨tv, htv, ob⟩ := hT.tab
    refine ⟨_, rfl, _, _, _, _, _, rfl, ob, T.cl, T.nTab, rfl, _, rfl, _, _, _, _, _, rfl, ob, T.cl, T.nWay, rfl, rfl, rfl, fun x dx nx ndx nex => ?_⟩
    have m0 : Mv [] H (upd (upd H dx (.own x)) x (.ins C dx [])) := (Mv.new ndx).trans (Mv.new (by rw [upd_ne nex.symm]; exact nx))
    have ex : upd (upd H dx (.own x)) x (.ins C dx []) x = some (.ins C dx []) := upd_same
    generalize upd (upd H dx (.own x)) x (.ins C dx []) = H0 at *
    refine ⟨x, dx, tv, rfl, ex, htv.mono m0.tk0, ok, fun A1 H1 eA hn m1 hT1 => ⟨rfl, ?_⟩⟩
    subst eA
    have m01 : Mv [] H H1 := (m0.mono (by simp) |>.trans m1).weak (by simp [nx])
    have hn1 : ∀ a ∈ A1.all, H a = none := fun a ha => by
      rcases hn a ha with rfl | h
      · exact nx
      · exact m0.none h
    refine ⟨_, rfl, _, _, _, rfl, hT1.tab.choose_spec.2, rfl, _, rfl, A1, A, tstart tabs.length, st, 0, n, rfl, hT1, hT.mv m01, fun z => ?_, fun A' H2 e2 hn2 m2 hT2 => ?_⟩
    · obtain ⟨o, e, _⟩ := hT.live A1.p z
      rw [hn1 A1.p (by simp [ToA.all])] at e; cases e
    · refine ⟨_, rfl, ?_⟩
      rw [← e2]
      refine kq A' H2 (fun a ha => ?_) ((m01.mono (by simp)).trans m2 |>.weak (by simp [hn1 A1.p (by simp [ToA.all])])) hT2
      rcases hn2 a ha with e | e
      · rw [e]; exact hn1 A1.p (by simp [ToA.all])
      · exact m01.none e
/-! ### Town.history, falls, told -/
def spHist (C : Addr) (tabs : Tabs) (al : Bool) : Sp := fun vs H Q _ => ∃ (A : ToA) (st : TS) (n : Nat), vs = [.ref A.p] ∧ TownAt C tabs al H st A n ∧ st.rows.length ≤ 1000 ∧
  ∀ (H' : Hp) (t u : Addr) (ds : List V), Mv [] H H' → H' t = some (.tup [iN (tabs.length + 1), .ref u]) → H' u = some (.tup ds) → All2 (DeedAt H') (st.rows.map (·.1)) ds → Q (.ref t) H'
theorem sc3020 : FnScope ["self", "deed", "step"] ["self"] (defScope (inClass (top 30) 20)) := ⟨rfl, rfl, rfl, by decide +kernel, rfl, by decide +kernel, by decide +kernel⟩
theorem ok_hist (D : MethAt K C "history" "Town.history" (inClass (top 30) 20)) (B : Bl mg) (T : ToC K C) : LMet P w K mg base 1 C "history" (spHist C tabs al) := by
  refine met_of T.cl D sc3020 (fun _ _ _ _ _ _ us hl => match us, hl with | [_], _ => rfl) (fun vs H Q E h => ?_) (fun f cdv Ar outer s H vs Q E hr h => ?_)
  · obtain ⟨A, st, n, rfl, _⟩ := h
    rfl
  · obtain ⟨A, st, n, rfl, hT, hf, kq⟩ := h
    have nd := sc3020.nd
    refine ⟨_, (pss_one (ps_ret (pe_tup (pa_cons (pe_op op_add (pe_fld (pv 0) rfl) pe_int) (pa_cons (pe_callTy call_tuple_of (by rfl) B.tuple (by decide +kernel) (pa_cons (pe_lc (own := [("deed", 1), ("step", 2)]) (g := gTup K 2 (gCons (gName 1) (gCons (gName 2) gNil))) (tt := tYes) rfl nd (pi_list (pe_fld (pv 0) rfl)) (blkOk_by (own := [("deed", 1), ("step", 2)]) (N := ["self", "deed", "step"]) (sc := defScope (inClass (top 30) 20)) (by decide +kernel)) (fun _ _ _ _ _ => (pg_tupK (K := K) (n := 2) rfl (pgs_cons (pg_name (i := 1) nd rfl (Or.inl rfl)) (pgs_cons (pg_name (i := 2) nd rfl (Or.inl rfl)) pgs_nil)))) (fun _ _ _ _ _ => pts_nil) (fun _ _ _ _ _ => (pv 1))) pa_nil)) pa_nil))))), ?_⟩
    obtain ⟨tv, htv, ob⟩ := hT.tab
    obtain ⟨vs, hv, hA⟩ := hT.rows
    refine ⟨_, rfl, _, _, _, _, _, rfl, ob, T.cl, T.nMany, rfl, _, _, rfl, rfl, ?_⟩
    refine ⟨_, rfl, _, _, _, _, _, rfl, ob, T.cl, T.nRows, rfl, _, rfl, ⟨_, SqL.of hv⟩, fun D nD => ?_⟩
    refine lc_list (xs := vs) (fun i H' => Mv [] H H' ∧ ∃ ds, H' D = some (.lst ds) ∧ All2 (DeedAt H') ((st.rows.take i).map (·.1)) ds) ⟨Mv.new nD, [], upd_same, .nil⟩ (fun i H' _ p => SqL.of (p.1.at hv (by simp))) ?_ ?_
    · intro i x H' hx ⟨hm, ds, hD, hds⟩
      obtain ⟨r, hr', ha⟩ := hA.getR hx
      obtain ⟨a, b, rfl, h1, h2⟩ := ha.mono hm.tk0
      have hi := lt_of_get hr'
      refine ⟨a, _, rfl, SqT.of h1, rfl, _, _, rfl, _, _, rfl, rfl, rfl, ?_⟩
      refine ⟨_, rfl, ds, hD, ?_, hm.own nD, _, upd_same, ?_⟩
      · rw [← hds.len, List.length_map, List.length_take]
        exact Nat.lt_of_le_of_lt (by omega : _ ≤ 1000) (by decide)
      · have kk : TK H' (upd H' D (.lst (ds ++ [.ref b]))) := TK.upd fun xs z => by rw [hD] at z; cases z
        rw [take_snoc hr', List.map_append]
        exact All2.snoc ⟨b, rfl, kk _ _ h2⟩ (hds.imp fun _ _ z => z.mono kk)
    · intro H1 ⟨hm, ds, hD, hds⟩
      rw [List.take_of_length_le (Nat.le_of_eq hA.len)] at hds
      refine ⟨D, _, rfl, .inl ⟨SqL.of hD, fun u nu => ?_⟩⟩
      have eu : upd H1 u (.tup ds) u = some (.tup ds) := upd_same
      have m2 : Mv [] H1 (upd H1 u (.tup ds)) := Mv.new nu
      have hds2 := hds.imp fun _ _ (z : DeedAt H1 _ _) => z.mono m2.tk0
      generalize upd H1 u (.tup ds) = H2 at *
      refine ⟨(by show 2 ≤ sizeLine; decide), fun t nt => ?_⟩
      have m3 : Mv [] H2 (upd H2 t (.tup [.int ((tabs.length : Int) + 1), .ref u])) := Mv.new nt
      exact kq _ t u ds ((hm.trans m2).trans m3) upd_same (m3.at eu (by simp)) (hds2.imp fun _ _ z => z.mono m3.tk0)
def spFalls (C : Addr) (tabs : Tabs) (al : Bool) : Sp := fun vs H Q _ => ∃ (A : ToA) (st : TS) (n : Nat), vs = [.ref A.p] ∧ TownAt C tabs al H st A n ∧ ∀ (H' : Hp) (t : Addr), Mv [] H H' → LstR H' t (FallAt H') st.falls → Q (.ref t) H'
theorem sc3024 : FnScope ["self"] ["self"] (defScope (inClass (top 30) 24)) := ⟨rfl, rfl, rfl, by decide +kernel, rfl, by decide +kernel, by decide +kernel⟩
theorem ok_falls (D : MethAt K C "falls" "Town.falls" (inClass (top 30) 24)) (B : Bl mg) (T : ToC K C) : LMet P w K mg base 1 C "falls" (spFalls C tabs al) := by
  refine met_of T.cl D sc3024 (fun _ _ _ _ _ _ us hl => match us, hl with | [_], _ => rfl) (fun vs H Q E h => ?_) (fun f cdv Ar outer s H vs Q E hr h => ?_)
  · obtain ⟨A, st, n, rfl, _⟩ := h
    rfl
  · obtain ⟨A, st, n, rfl, hT, kq⟩ := h
    have nd := sc3024.nd
    refine ⟨_, (pss_one (ps_ret (pe_callTy call_list_of (by rfl) B.list (by decide +kernel) (pa_cons (pe_fld (pv 0) rfl) pa_nil)))), ?_⟩
    obtain ⟨tv, htv, ob⟩ := hT.tab
    obtain ⟨vs, hv, hA⟩ := hT.falls
    refine ⟨_, rfl, _, _, _, _, _, rfl, ob, T.cl, T.nFall, rfl, _, _, rfl, .inl (SqL.of hv), fun t nt => ?_⟩
    have m : Mv [] H (upd H t (.lst vs)) := Mv.new nt
    exact kq _ t m ⟨vs, upd_same, hA.imp fun _ _ z => z.mono m.tk0⟩
def spTold (C : Addr) (tabs : Tabs) (al : Bool) : Sp := fun vs H Q _ => ∃ (A : ToA) (st : TS) (n : Nat), vs = [.ref A.p] ∧ TownAt C tabs al H st A n ∧ ∀ (H' : Hp) (t : Addr), Mv [] H H' → LstR H' t (ToldAt H') st.told → Q (.ref t) H'
theorem sc3027 : FnScope ["self"] ["self"] (defScope (inClass (top 30) 27)) := ⟨rfl, rfl, rfl, by decide +kernel, rfl, by decide +kernel, by decide +kernel⟩
theorem ok_told (D : MethAt K C "told" "Town.told" (inClass (top 30) 27)) (B : Bl mg) (T : ToC K C) : LMet P w K mg base 1 C "told" (spTold C tabs al) := by
  refine met_of T.cl D sc3027 (fun _ _ _ _ _ _ us hl => match us, hl with | [_], _ => rfl) (fun vs H Q E h => ?_) (fun f cdv Ar outer s H vs Q E hr h => ?_)
  · obtain ⟨A, st, n, rfl, _⟩ := h
    rfl
  · obtain ⟨A, st, n, rfl, hT, kq⟩ := h
    have nd := sc3027.nd
    refine ⟨_, (pss_one (ps_ret (pe_callTy call_list_of (by rfl) B.list (by decide +kernel) (pa_cons (pe_fld (pv 0) rfl) pa_nil)))), ?_⟩
    obtain ⟨tv, htv, ob⟩ := hT.tab
    obtain ⟨vs, hv, hA⟩ := hT.told
    refine ⟨_, rfl, _, _, _, _, _, rfl, ob, T.cl, T.nTold, rfl, _, _, rfl, .inl (SqL.of hv), fun t nt => ?_⟩
    have m : Mv [] H (upd H t (.lst vs)) := Mv.new nt
    exact kq _ t m ⟨vs, upd_same, hA.imp fun _ _ z => z.mono m.tk0⟩
/-! ### Town.settled_steps -/
def spSteps (C : Addr) (tabs : Tabs) (al : Bool) : Sp := fun vs H Q _ => ∃ (A : ToA) (st : TS) (n : Nat), vs = [.ref A.p] ∧ TownAt C tabs al H st A n ∧ tabs.length ≤ 4 ∧ Fit tabs.length st.rows ∧ st.wr.length = tabs.length ∧ (∀ h, h < tabs.length → st.wr.getD h 0 ≤ 1000) ∧
  ∀ (H' : Hp) (L : Addr) (c : List Nat), H L = none → Mv [] H H' → NatsL H' L c → Kept tabs.length st (List.range tabs.length) false c → Q (.ref L) H'
theorem sc3018 : FnScope ["self"] ["self"] (defScope (inClass (top 30) 18)) := ⟨rfl, rfl, rfl, by decide +kernel, rfl, by decide +kernel, by decide +kernel⟩
theorem ok_steps (D : MethAt K C "settled_steps" "Town.settled_steps" (inClass (top 30) 18)) (B : Bl mg) (T : ToC K C) (GK : LMet P w K mg base 4 C "kept_by" (spKept C tabs al)) : LMet P w K mg base 5 C "settled_steps" (spSteps C tabs al) := by
  refine met_of T.cl D sc3018 (fun _ _ _ _ _ _ us hl => match us, hl with | [_], _ => rfl) (fun vs H Q E h => ?_) (fun f cdv Ar outer s H vs Q E hr h => ?_)
  · obtain ⟨A, st, n, rfl, _⟩ := h
    rfl
  · obtain ⟨A, st, n, rfl, hT, h4, hf, hwl, hwb, kq⟩ := h
    have nd := sc3018.nd
    refine ⟨_, (pss_one (ps_ret (pe_m GK hr (by decide) (pv 0) (pa_cons (pe_tupRg rfl (by rfl) B.tuple (prg_1 (by rfl) B.range (pe_fld (pv 0) rfl))) (pa_cons pe_bl pa_nil))))), ?_⟩
    obtain ⟨tv, htv, ob⟩ := hT.tab
    refine ⟨_, rfl, _, _, _, rfl, ob, rfl, _, rfl, _, _, _, _, _, rfl, ob, T.cl, T.nMany, rfl, tabs.length, rfl, ⟨by omega, by omega, by omega, by omega, by omega⟩, fun q nq => ?_⟩
    have er : rgV 0 (tabs.length : Nat) = (List.range tabs.length).map iN := by
      unfold rgV
      rw [show ((tabs.length : Nat) : Int) - 0 = (tabs.length : Nat) from by omega, Int.toNat_natCast]
      exact List.map_congr_left fun i _ => by rw [Int.zero_add]
    rw [er]
    have m1 : Mv [] H (upd H q (.tup ((List.range tabs.length).map iN))) := Mv.new nq
    exact ⟨A, st, n, q, List.range tabs.length, false, rfl, hT.mv m1, h4, hf, upd_same, hwl, hwb, fun H' L c nL m2 hc hk => kq H' L c (m1.none nL) (m1.trans m2) hc hk⟩
end
end Lor
end

section
set_option Elab.async false
set_option linter.all false
set_option maxRecDepth 100000
set_option maxHeartbeats 4000000
namespace Lor
open PySem PySem.Spec PyProof.Rows L2
/-- the dict of the deeds' sizes -/
structure SizesAt (K : PySem.W.Frag) (w : World) (mg : Str → Option Value) (d : Addr) (es : Array DictEntry) (n : Nat) : Prop where
  gl : Val mg "SIZES" (.ref d)
  kd : KDict K w d es n
  put : ∃ t, PySem.W.nsIn K d "put" = some (some (.int 3 t))
  step : ∃ t, PySem.W.nsIn K d "step" = some (some (.int 4 t))
  write : ∃ t, PySem.W.nsIn K d "write" = some (some (.int 2 t))
  keep : ∃ t, PySem.W.nsIn K d "keep" = some (some (.int 2 t))
  fall : ∃ t, PySem.W.nsIn K d "fall" = some (some (.int 2 t))
def tdW : TD → Str
  | .put _ _ => "put"
  | .step _ _ _ => "step"
  | .write _ => "write"
  | .keep _ => "keep"
  | .fall _ => "fall"
/-- the rest of a deed: numbers, or the lot of hands -/
def TDRest (H : Hp) : TD → List V → Prop
  | .put h x, r => r = [iN h, iN x]
  | .step h f k, r => r = [iN h, iN f, iN k]
  | .write h, r => r = [iN h]
  | .keep h, r => r = [iN h]
  | .fall l, r => ∃ a, r = [.ref a] ∧ H a = some (.tup (l.map iN))
def TDAt (H : Hp) (td : TD) (v : V) : Prop := ∃ a r, v = .ref a ∧ H a = some (.tup (.str (tdW td) :: r)) ∧ TDRest H td r
theorem TDRest.mono {H H' : Hp} {td : TD} {r : List V} (k : TK H H') (h : TDRest H td r) : TDRest H' td r := by
  cases td with
  | fall l => exact let ⟨a, e, q⟩ := h; ⟨a, e, k _ _ q⟩
  | _ => exact h
theorem TDAt.mono {H H' : Hp} {td : TD} {v : V} (k : TK H H') (h : TDAt H td v) : TDAt H' td v := let ⟨a, r, e, q, q2⟩ := h; ⟨a, r, e, k _ _ q, q2.mono k⟩
/-- numbers within their bounds -/
def FormOk (many : Nat) : TD → Prop
  | .put h x => h < many ∧ x ≤ 999
  | .step h f k => h < many ∧ f ≤ many ∧ k ≤ 400
  | .write h => h < many
  | .keep h => h < many
  | .fall l => LotOk many l ∧ l.length ≤ 10
theorem kdct {K : PySem.W.Frag} {w : World} {d : Addr} {es : Array DictEntry} {n : Nat} (h : KDict K w d es n) {x : Str} {i : Int} (e : ∃ t, PySem.W.nsIn K d x = some (some (.int i t))) : KDct K w d x (.int i) := by
  obtain ⟨t, e⟩ := e
  exact ⟨es, n, _, h.at_, h.lit, e, ⟨t, rfl⟩⟩
section
variable {P : Program} {w : World} {K : PySem.W.Frag} {mg : Str → Option Value} {base : Heap}
variable {C CG CB : Addr} {tabs : Tabs} {al : Bool}
/-! ### Town.is_hand -/
def spHand (C : Addr) (tabs : Tabs) (al : Bool) : Sp := fun vs H Q _ => ∃ (A : ToA) (st : TS) (n h : Nat), vs = [.ref A.p, iN h] ∧ TownAt C tabs al H st A n ∧ h < tabs.length ∧ Q (.bl true) H
theorem sc306 : FnScope ["self", "thing"] ["self", "thing"] (defScope (inClass (top 30) 6)) := ⟨rfl, rfl, rfl, by decide +kernel, rfl, by decide +kernel, by decide +kernel⟩
theorem ok_hand (D : MethAt K C "is_hand" "Town.is_hand" (inClass (top 30) 6)) (T : ToC K C) (W : LCal P w K mg base 2 "is_within" spWithin) : LMet P w K mg base 3 C "is_hand" (spHand C tabs al) := by
  refine met_of T.cl D sc306 (fun _ _ _ _ _ _ us hl => match us, hl with | [_, _], _ => rfl) (fun vs H Q E h => ?_) (fun f cdv Ar outer s H vs Q E hr h => ?_)
  · obtain ⟨A, st, n, h, rfl, _⟩ := h
    rfl
  · obtain ⟨A, st, n, h, rfl, hT, hh, kq⟩ := h
    have nd := sc306.nd
    refine ⟨_, (pss_one (ps_ret (pe_f W hr (by decide) (pa_cons (pv 1) (pa_cons pe_int (pa_cons (pe_op op_sub (pe_fld (pv 0) rfl) pe_int) pa_nil)))))), ?_⟩
    obtain ⟨tv, htv, ob⟩ := hT.tab
    refine ⟨_, rfl, _, rfl, _, _, _, _, _, rfl, ob, T.cl, T.nMany, rfl, _, _, rfl, rfl, h, 0, (tabs.length : Int) - 1, rfl, ?_⟩
    rw [bl_true (by omega)]
    exact kq
/-! ### Town.is_form -/
theorem tdW_ok (td : TD) : PyData.strOk (tdW td) = true := by cases td <;> (simp only [tdW]; decide +kernel)
theorem tdW_clear (td : TD) : decide (V.str (tdW td) = V.str "clear") = false := by cases td <;> rfl
theorem str_can (td : TD) : (PyData.str (tdW td)).canLay0 = true := by rw [PyData.canLay0]; exact tdW_ok td
theorem dp_rest {H : Hp} {td : TD} {r : List V} (h : TDRest H td r) : ∃ d ds, DpAll K H r (d :: ds) ∧ SeqAt.shaped (.tuple (.str (tdW td) :: d :: ds)) = true := by
  cases td with
  | put h x => obtain rfl := h; exact ⟨_, _, .cons (.int _) (.cons (.int _) .nil), by unfold SeqAt.shaped; simp [PyData.canLay0, PyData.canLayAll0, PyData.depth, PyData.depthAll, tdW_ok]⟩
  | step h f k => obtain rfl := h; exact ⟨_, _, .cons (.int _) (.cons (.int _) (.cons (.int _) .nil)), by unfold SeqAt.shaped; simp [PyData.canLay0, PyData.canLayAll0, PyData.depth, PyData.depthAll, tdW_ok]⟩
  | write h => obtain rfl := h; exact ⟨_, _, .cons (.int _) .nil, by unfold SeqAt.shaped; simp [PyData.canLay0, PyData.canLayAll0, PyData.depth, PyData.depthAll, tdW_ok]⟩
  | keep h => obtain rfl := h; exact ⟨_, _, .cons (.int _) .nil, by unfold SeqAt.shaped; simp [PyData.canLay0, PyData.canLayAll0, PyData.depth, PyData.depthAll, tdW_ok]⟩
  | fall l =>
    obtain ⟨a, rfl, ha⟩ := h
    refine ⟨_, _, .cons (.tup (SqT.of ha) (dp_nats l)) .nil, ?_⟩
    have e := shaped_nats l
    unfold SeqAt.shaped at e ⊢
    rw [Bool.and_eq_true] at e ⊢
    obtain ⟨e1, e2⟩ := e
    have d1 := depth_nats l
    refine ⟨?_, decide_eq_true ?_⟩
    · rw [PyData.canLay0, PyData.canLayAll0, PyData.canLayAll0, e1, str_can]; rfl
    · simp only [PyData.depth, PyData.depthAll]; omega
def spForm (C : Addr) (tabs : Tabs) (al : Bool) : Sp := fun vs H Q _ => ∃ (A : ToA) (st : TS) (n : Nat) (td : TD) (dv : V), vs = [.ref A.p, dv] ∧ TownAt C tabs al H st A n ∧ TDAt H td dv ∧ FormOk tabs.length td ∧ ∀ H', Mv [] H H' → Q (.bl true) H'
theorem sc305 : FnScope ["self", "deed"] ["self", "deed"] (defScope (inClass (top 30) 5)) := ⟨rfl, rfl, rfl, by decide +kernel, rfl, by decide +kernel, by decide +kernel⟩
theorem ok_form {sd : Addr} {es : Array DictEntry} {sn : Nat} (D : MethAt K C "is_form" "Town.is_form" (inClass (top 30) 5)) (B : Bl mg) (T : ToC K C) (SA : SizesAt K w mg sd es sn) (MW : Val mg "MOST_WORTH" (.int 999)) (MD : Val mg "MOST_DEEDS" (.int 400))
    (W : LCal P w K mg base 2 "is_within" spWithin) (GF : LCal P w K mg base 3 "are_fallen" spFln) (GH : LMet P w K mg base 3 C "is_hand" (spHand C tabs al)) : LMet P w K mg base 4 C "is_form" (spForm C tabs al) := by
  refine met_of T.cl D sc305 (fun _ _ _ _ _ _ us hl => match us, hl with | [_, _], _ => rfl) (fun vs H Q E h => ?_) (fun f cdv Ar outer s H vs Q E hr h => ?_)
  · obtain ⟨A, st, n, td, dv, rfl, _⟩ := h
    rfl
  · obtain ⟨A, st, n, td, dv, rfl, hT, ⟨a, r, rfl, ha, hr'⟩, ok, kq⟩ := h
    have nd := sc305.nd
    have SZ := SA.gl
    have KD := SA.kd
    refine ⟨_, (pss_cons (ps_if (PW.pt (pw_or (pt_not (pt_val (pe_callB call_isi (by rfl) B.isinstance boot_isinstance (pa_cons (pv 1) (pa_cons (pe_bltn (v := .ty "tuple") (by rfl) B.tuple (by decide +kernel) rfl) pa_nil))))) (pw_or (pt_cmpR (op_eqD hr.units) (pv 1) (pe_tup pa_nil) (nomark _)) (pw_or (pt_not (pt_val (pe_callB call_isi (by rfl) B.isinstance boot_isinstance (pa_cons (pe_ix ix_tup (pv 1) pe_int (fun _ _ => rfl)) (pa_cons (pe_bltn (v := .ty "str") (by rfl) B.str (by decide +kernel) rfl) pa_nil))))) (pw_or1 (pt_cmpR (op_notIn_kd KD) (pe_ix ix_tup (pv 1) pe_int (fun _ _ => rfl)) (pe_k SZ) rfl))))))
 pss_never
 pss_nil)
 (pss_cons (ps_if (pt_cmpR op_ne (pe_callB call_len_seq (by rfl) B.len PySem.boot_len (pa_cons (pv 1) pa_nil)) (pe_ix ix_kdict (pe_k SZ) (pe_ix ix_tup (pv 1) pe_int (fun _ _ => rfl)) (fun _ _ => rfl)) (nomark _))
 pss_never
 pss_nil)
 (pss_cons (ps_if (pt_cmpR op_eq (pe_ix ix_tup (pv 1) pe_int (fun _ _ => rfl)) pe_str (nomark _))
 pss_never
 pss_nil)
 (pss_cons (ps_if (pt_cmpR op_eq (pe_ix ix_tup (pv 1) pe_int (fun _ _ => rfl)) pe_str (nomark _))
 (pss_one (ps_ret (pe_f GF hr (by decide) (pa_cons (pe_fld (pv 0) rfl) (pa_cons (pe_ix ix_tup (pv 1) pe_int (fun _ _ => rfl)) pa_nil)))))
 pss_nil)
 (pss_cons (ps_if (pt_not (pt_val (pe_m GH hr (by decide) (pv 0) (pa_cons (pe_ix ix_tup (pv 1) pe_int (fun _ _ => rfl)) pa_nil))))
 pss_never
 pss_nil)
 (pss_cons (ps_if (pt_cmpR op_eq (pe_ix ix_tup (pv 1) pe_int (fun _ _ => rfl)) pe_str (nomark _))
 (pss_one (ps_ret (pe_f W hr (by decide) (pa_cons (pe_ix ix_tup (pv 1) pe_int (fun _ _ => rfl)) (pa_cons pe_int (pa_cons (pe_k MW) pa_nil))))))
 pss_nil)
 (pss_one (ps_ret (pe_or (pe_cmpR op_ne (pe_ix ix_tup (pv 1) pe_int (fun _ _ => rfl)) pe_str (nomark _)) (pe_one (pe_and (pe_f W hr (by decide) (pa_cons (pe_ix ix_tup (pv 1) pe_int (fun _ _ => rfl)) (pa_cons pe_int (pa_cons (pe_fld (pv 0) rfl) pa_nil)))) (pe_one (pe_f W hr (by decide) (pa_cons (pe_ix ix_tup (pv 1) pe_int (fun _ _ => rfl)) (pa_cons pe_int (pa_cons (pe_k MD) pa_nil)))))))))))))))), ?_⟩
    obtain ⟨tv, htv, ob⟩ := hT.tab
    have hne : decide (V.str (tdW td) = V.str "clear") = false := tdW_clear td
    obtain ⟨rn, hin⟩ : ∃ t, PySem.W.nsIn K sd (tdW td) = some (some (.int ((1 + r.length : Nat) : Int) t)) := by
      cases td with
      | put h x => obtain rfl := hr'; exact SA.put
      | step h f k => obtain rfl := hr'; exact SA.step
      | write h => obtain rfl := hr'; exact SA.write
      | keep h => obtain rfl := hr'; exact SA.keep
      | fall l => obtain ⟨_, rfl, _⟩ := hr'; exact SA.fall
    have hk : KDct K w sd (tdW td) (.int ((1 + r.length : Nat) : Int)) := kdct KD ⟨rn, hin⟩
    refine ⟨_, rfl, .ref a, .ty "tuple", .type "tuple", .type "tuple", true, rfl, .ty _, .base (.tup ha), kit_ty (by decide +kernel), true, rfl, ?_⟩
    refine ⟨_, rfl, (by decide), fun e ne => ?_⟩
    have ee : upd H e (.tup []) e = some (.tup []) := upd_same
    have m1 : Mv [] H (upd H e (.tup [])) := Mv.new ne
    generalize upd H e (.tup []) = H1 at *
    have ha1 := m1.at ha (by simp)
    have hr1 := hr'.mono m1.tk0
    have ob1 := m1.at ob (by simp)
    obtain ⟨d, ds, hdp, hsh⟩ := dp_rest (K := K) hr1
    refine ⟨.tuple (.str (tdW td) :: d :: ds), .tuple [], .tup (SqT.of ha1) (.cons (.str _) hdp), .tup (SqT.of ee) .nil, hsh, rfl, false, by rw [PyData.eqv]; rfl, ?_⟩
    refine ⟨_, rfl, _, _, _, _, rfl, rfl, SqT.of ha1, atI_nat (j := 0) rfl, .str (tdW td), .ty "str", .type "str", .type "str", true, rfl, .ty _, .base (.str _), kit_ty (by decide +kernel), true, rfl, ?_⟩
    refine ⟨_, rfl, _, _, _, _, rfl, rfl, SqT.of ha1, atI_nat (j := 0) rfl, tdW td, _, rfl, rfl, hin, false, rfl, ?_⟩
    refine ⟨_, rfl, a, _, rfl, .inr (SqT.of ha1), _, rfl, _, _, _, _, rfl, rfl, SqT.of ha1, atI_nat (j := 0) rfl, sd, tdW td, _, rfl, rfl, hk, rfl, false, ?_, ?_⟩
    · rw [List.length_cons, Nat.add_comm r.length 1]; simp
    refine ⟨_, rfl, _, _, _, _, rfl, rfl, SqT.of ha1, atI_nat (j := 0) rfl, rfl, false, by rw [hne], ?_⟩
    clear hk hin hdp hsh hne
    cases td with
    | fall l =>
      obtain ⟨fa, rfl, hfa⟩ := hr1
      refine ⟨_, rfl, _, _, _, _, rfl, rfl, SqT.of ha1, atI_nat (j := 0) rfl, rfl, _, rfl, str_yes ?_⟩
      refine ⟨_, rfl, _, _, _, _, _, rfl, ob1, T.cl, T.nMany, rfl, _, rfl, _, _, _, _, rfl, rfl, SqT.of ha1, atI_nat (j := 1) rfl, ?_⟩
      exact ⟨tabs.length, fa, l, rfl, hfa, ok.1, ok.2, fun H' m => kq H' (m1.trans m)⟩
    | put h x =>
      obtain rfl := hr1
      refine ⟨_, rfl, _, _, _, _, rfl, rfl, SqT.of ha1, atI_nat (j := 0) rfl, rfl, _, rfl, str_no (by simp only [tdW]; decide) ?_⟩
      refine ⟨_, rfl, _, _, _, rfl, ob1, rfl, _, rfl, _, _, _, _, rfl, rfl, SqT.of ha1, atI_nat (j := 1) rfl, A, st, n, h, rfl, hT.mv m1, ok.1, true, rfl, ?_⟩
      refine ⟨_, rfl, _, _, _, _, rfl, rfl, SqT.of ha1, atI_nat (j := 0) rfl, rfl, _, rfl, str_yes ?_⟩
      refine ⟨_, rfl, _, _, _, _, rfl, rfl, SqT.of ha1, atI_nat (j := 2) rfl, x, 0, 999, rfl, ?_⟩
      have o2 := ok.2
      rw [bl_true (by omega)]
      exact kq _ m1
    | step h f k =>
      obtain rfl := hr1
      obtain ⟨o1, o2, o3⟩ := ok
      refine ⟨_, rfl, _, _, _, _, rfl, rfl, SqT.of ha1, atI_nat (j := 0) rfl, rfl, _, rfl, str_no (by simp only [tdW]; decide) ?_⟩
      refine ⟨_, rfl, _, _, _, rfl, ob1, rfl, _, rfl, _, _, _, _, rfl, rfl, SqT.of ha1, atI_nat (j := 1) rfl, A, st, n, h, rfl, hT.mv m1, o1, true, rfl, ?_⟩
      refine ⟨_, rfl, _, _, _, _, rfl, rfl, SqT.of ha1, atI_nat (j := 0) rfl, rfl, _, rfl, str_no (by simp only [tdW]; decide) ?_⟩
      refine ⟨_, rfl, _, _, _, _, rfl, rfl, SqT.of ha1, atI_nat (j := 0) rfl, rfl, false, rfl, ?_⟩
      refine ⟨_, rfl, _, _, _, _, rfl, rfl, SqT.of ha1, atI_nat (j := 2) rfl, _, rfl, _, _, _, _, _, rfl, ob1, T.cl, T.nMany, rfl, f, 0, tabs.length, rfl, ?_⟩
      rw [bl_true (by omega)]
      refine ⟨true, rfl, ?_⟩
      refine ⟨_, rfl, _, _, _, _, rfl, rfl, SqT.of ha1, atI_nat (j := 3) rfl, k, 0, 400, rfl, ?_⟩
      rw [bl_true (by omega)]
      exact kq _ m1
    | write h =>
      obtain rfl := hr1
      refine ⟨_, rfl, _, _, _, _, rfl, rfl, SqT.of ha1, atI_nat (j := 0) rfl, rfl, _, rfl, str_no (by simp only [tdW]; decide) ?_⟩
      refine ⟨_, rfl, _, _, _, rfl, ob1, rfl, _, rfl, _, _, _, _, rfl, rfl, SqT.of ha1, atI_nat (j := 1) rfl, A, st, n, h, rfl, hT.mv m1, ok, true, rfl, ?_⟩
      refine ⟨_, rfl, _, _, _, _, rfl, rfl, SqT.of ha1, atI_nat (j := 0) rfl, rfl, _, rfl, str_no (by simp only [tdW]; decide) ?_⟩
      exact ⟨_, rfl, _, _, _, _, rfl, rfl, SqT.of ha1, atI_nat (j := 0) rfl, rfl, true, rfl, kq _ m1⟩
    | keep h =>
      obtain rfl := hr1
      refine ⟨_, rfl, _, _, _, _, rfl, rfl, SqT.of ha1, atI_nat (j := 0) rfl, rfl, _, rfl, str_no (by simp only [tdW]; decide) ?_⟩
      refine ⟨_, rfl, _, _, _, rfl, ob1, rfl, _, rfl, _, _, _, _, rfl, rfl, SqT.of ha1, atI_nat (j := 1) rfl, A, st, n, h, rfl, hT.mv m1, ok, true, rfl, ?_⟩
      refine ⟨_, rfl, _, _, _, _, rfl, rfl, SqT.of ha1, atI_nat (j := 0) rfl, rfl, _, rfl, str_no (by simp only [tdW]; decide) ?_⟩
      exact ⟨_, rfl, _, _, _, _, rfl, rfl, SqT.of ha1, atI_nat (j := 0) rfl, rfl, true, rfl, kq _ m1⟩
end
end Lor
end

section
set_option Elab.async false
set_option linter.all false
set_option maxRecDepth 100000
set_option maxHeartbeats 4000000
namespace Lor
open PySem PySem.Spec PyProof.Rows L2
theorem way_wait (al : Bool) : decide (V.str (wayS al) = V.str "wait") = false := by cases al <;> decide
theorem valid_pre {many : Nat} {a b : List Row} (h : Valid many (a ++ b)) : Valid many a := by
  intro i r hr
  have hi := lt_of_get hr
  have := h i r (by rw [List.getElem?_append_left hi]; exact hr)
  rwa [List.take_append_of_le_length (Nat.le_of_lt hi)] at this
section
variable {P : Program} {w : World} {K : PySem.W.Frag} {mg : Str → Option Value} {base : Heap}
variable {C CG CB : Addr} {tabs : Tabs} {al : Bool}
/-! ### Town.put -/
def spPut (C : Addr) (tabs : Tabs) (al : Bool) : Sp := fun vs H Q _ => ∃ (A : ToA) (st : TS) (n h x : Nat), vs = [.ref A.p, iN h, iN x] ∧ TownAt C tabs al H st A n ∧ st.rows.length ≤ 1000 ∧
  ∀ H', Mv A.all H H' → TownAt C tabs al H' { st with rows := st.rows ++ [(.own tabs.length x, 0), (.send tabs.length h, 0)] } A n → Q .non H'
theorem sc308 : FnScope ["self", "hand", "worth"] ["self", "hand", "worth"] (defScope (inClass (top 30) 8)) := ⟨rfl, rfl, rfl, by decide +kernel, rfl, by decide +kernel, by decide +kernel⟩
theorem ok_put (D : MethAt K C "put" "Town.put" (inClass (top 30) 8)) (T : ToC K C) : LMet P w K mg base 1 C "put" (spPut C tabs al) := by
  refine met_of T.cl D sc308 (fun _ _ _ _ _ _ us hl => match us, hl with | [_, _, _], _ => rfl) (fun vs H Q E h => ?_) (fun f cdv Ar outer s H vs Q E hr h => ?_)
  · obtain ⟨A, st, n, h, x, rfl, _⟩ := h
    rfl
  · obtain ⟨A, st, n, h, x, rfl, hT, hf, kq⟩ := h
    have nd := sc308.nd
    refine ⟨_, (pss_cons (ps_expr (pe_bm PySem.F.plainAttrs_list PySem.F.slot_list_append PySem.F.type_list_append mt_append (pe_fld (pv 0) rfl) (pa_cons (pe_tup (pa_cons (pe_tup (pa_cons pe_str (pa_cons (pe_fld (pv 0) rfl) (pa_cons (pv 2) pa_nil)))) (pa_cons pe_int pa_nil))) pa_nil)))
 (pss_one (ps_expr (pe_bm PySem.F.plainAttrs_list PySem.F.slot_list_append PySem.F.type_list_append mt_append (pe_fld (pv 0) rfl) (pa_cons (pe_tup (pa_cons (pe_tup (pa_cons pe_str (pa_cons (pe_fld (pv 0) rfl) (pa_cons (pv 1) pa_nil)))) (pa_cons pe_int pa_nil))) pa_nil))))), ?_⟩
    obtain ⟨tv, htv, ob⟩ := hT.tab
    obtain ⟨vs, hv, hA⟩ := hT.rows
    refine ⟨_, rfl, _, _, _, _, _, rfl, ob, T.cl, T.nRows, rfl, .inl ⟨rfl, _, SqL.of hv⟩, ?_⟩
    refine ⟨_, rfl, _, _, _, _, _, rfl, ob, T.cl, T.nMany, rfl, _, rfl, (by show 3 ≤ sizeLine; decide), fun t nt => ?_⟩
    have et : upd H t (.tup [.str "own", iN tabs.length, iN x]) t = some (.tup (enc (.own tabs.length x))) := upd_same
    have m1 : Mv [] H (upd H t (.tup [.str "own", iN tabs.length, iN x])) := Mv.new nt
    generalize upd H t (.tup [.str "own", iN tabs.length, iN x]) = H1 at *
    refine ⟨(by show 2 ≤ sizeLine; decide), fun t2 nt2 => ?_⟩
    have m2 : Mv [] H1 (upd H1 t2 (.tup [.ref t, .int 0])) := Mv.new nt2
    have hra : RowAt (upd H1 t2 (.tup [.ref t, .int 0])) (.own tabs.length x, 0) (.ref t2) := ⟨t2, t, rfl, upd_same, m2.at et (by simp)⟩
    have m12 := m1.trans m2
    clear m2
    generalize upd H1 t2 (.tup [.ref t, .int 0]) = H2 at *
    have hv2 := m12.at hv (by simp)
    refine ⟨_, _, _, rfl, rfl, hv2, by rw [← hA.len]; exact Nat.lt_of_le_of_lt hf (by decide), ?_⟩
    have hT3 := (hT.mv m12).addRow hv2 hra
    have m3 : Mv A.all H (upd H2 A.lr (.lst (vs ++ [.ref t2]))) := (m12.mono (by simp)).trans (Mv.upd (by simp [ToA.all]))
    have hv3 : upd H2 A.lr (.lst (vs ++ [.ref t2])) A.lr = some (.lst (vs ++ [.ref t2])) := upd_same
    generalize upd H2 A.lr (.lst (vs ++ [.ref t2])) = H3 at *
    obtain ⟨tv3, htv3, ob3⟩ := hT3.tab
    refine ⟨_, rfl, _, _, _, _, _, rfl, ob3, T.cl, T.nRows, rfl, .inl ⟨rfl, _, SqL.of hv3⟩, ?_⟩
    refine ⟨_, rfl, _, _, _, _, _, rfl, ob3, T.cl, T.nMany, rfl, _, rfl, (by show 3 ≤ sizeLine; decide), fun t4 nt4 => ?_⟩
    have et4 : upd H3 t4 (.tup [.str "send", iN tabs.length, iN h]) t4 = some (.tup (enc (.send tabs.length h))) := upd_same
    have m4 : Mv [] H3 (upd H3 t4 (.tup [.str "send", iN tabs.length, iN h])) := Mv.new nt4
    generalize upd H3 t4 (.tup [.str "send", iN tabs.length, iN h]) = H4 at *
    refine ⟨(by show 2 ≤ sizeLine; decide), fun t5 nt5 => ?_⟩
    have m5 : Mv [] H4 (upd H4 t5 (.tup [.ref t4, .int 0])) := Mv.new nt5
    have hra5 : RowAt (upd H4 t5 (.tup [.ref t4, .int 0])) (.send tabs.length h, 0) (.ref t5) := ⟨t5, t4, rfl, upd_same, m5.at et4 (by simp)⟩
    have m45 := m4.trans m5
    clear m5
    generalize upd H4 t5 (.tup [.ref t4, .int 0]) = H5 at *
    have hv5 := m45.at hv3 (by simp)
    refine ⟨_, _, _, rfl, rfl, hv5, by rw [List.length_append, ← hA.len]; exact Nat.lt_of_le_of_lt (Nat.add_le_add_right hf 1) (by decide), ?_⟩
    have hT6 := (hT3.mv m45).addRow hv5 hra5
    refine kq _ ((m3.trans (m45.mono (by simp))).trans (Mv.upd (by simp [ToA.all]))) ?_
    have e : st.rows ++ [(.own tabs.length x, 0), (.send tabs.length h, 0)] = (st.rows ++ [(.own tabs.length x, 0)]) ++ [(.send tabs.length h, 0)] := by rw [List.append_assoc]; rfl
    rw [e]
    exact hT6
/-! ### Town.send_all -/
def spSend (C : Addr) (tabs : Tabs) (al : Bool) : Sp := fun vs H Q _ => ∃ (A : ToA) (st : TS) (n h : Nat), vs = [.ref A.p, iN h] ∧ TownAt C tabs al H st A n ∧ TabsOk tabs ∧ Fit tabs.length st.rows ∧ h < tabs.length ∧
  ∀ H', Mv A.all H H' → TownAt C tabs al H' { st with rows := sendAll tabs st.rows h } A n → Q .non H'
theorem sc3010 : FnScope ["self", "hand", "own", "targets", "to"] ["self", "hand"] (defScope (inClass (top 30) 10)) := ⟨rfl, rfl, rfl, by decide +kernel, rfl, by decide +kernel, by decide +kernel⟩
theorem ok_send (D : MethAt K C "send_all" "Town.send_all" (inClass (top 30) 10)) (B : Bl mg) (T : ToC K C) (TG : GoC K CG) (GG : LMet P w K mg base 3 C "going" (spGoing C CG tabs al)) (GC : LMet P w K mg base 1 C "count_of" (spCount C tabs al)) : LMet P w K mg base 4 C "send_all" (spSend C tabs al) := by
  refine met_of T.cl D sc3010 (fun _ _ _ _ _ _ us hl => match us, hl with | [_, _], _ => rfl) (fun vs H Q E h => ?_) (fun f cdv Ar outer s H vs Q E hr h => ?_)
  · obtain ⟨A, st, n, h, rfl, _⟩ := h
    rfl
  · obtain ⟨A, st, n, h, rfl, hT, ok, hf, hh, kq⟩ := h
    have nd := sc3010.nd
    refine ⟨_, (pss_cons (ps_set (i := 2) nd rfl (Or.inl rfl) (pe_ix ix_tup (pe_fld (pv 0) rfl) (pv 1) (fun _ _ => rfl)))
 (pss_cons (ps_set (i := 3) nd rfl (Or.inl rfl) (pe_ix ix_tup (pv 2) (pe_op op_mod (pe_ix ix_list (pe_fld (pe_m0' GG hr (by decide) (pv 0)) rfl) (pv 1) (fun _ _ => rfl)) (pe_callB call_len_seq (by rfl) B.len PySem.boot_len (pa_cons (pv 2) pa_nil))) (fun _ _ => rfl)))
 (pss_one (ps_expr (pe_bm PySem.F.plainAttrs_list PySem.F.slot_list_extend PySem.F.type_list_extend mt_extend (pe_fld (pv 0) rfl) (pa_cons (pe_lc (own := [("to", 4)]) (g := gName 4) (tt := tYes) rfl nd (pi_tup (pv 3)) (blkOk_by (own := [("to", 4)]) (N := ["self", "hand", "own", "targets", "to"]) (sc := defScope (inClass (top 30) 10)) (by decide +kernel)) (fun _ _ _ _ _ => (pg_name (i := 4) nd rfl (Or.inl rfl))) (fun _ _ _ _ _ => pts_nil) (fun _ _ _ _ _ => (pe_tup (pa_cons (pe_tup (pa_cons pe_str (pa_cons (pv 1) (pa_cons (pv 4) pa_nil)))) (pa_cons (pe_m GC hr (by decide) (pv 0) (pa_cons (pv 1) pa_nil)) pa_nil))))) pa_nil)))))), ?_⟩
    obtain ⟨tv, ⟨tb, tvs, rfl, htb, htA⟩, ob⟩ := hT.tab
    have hth : tabs[h]? = some tabs[h] := List.getElem?_eq_getElem hh
    obtain ⟨ov, hov, ⟨oa, ovs, rfl, hoa, hoA⟩⟩ := htA.getL hth
    have hok := ok.own h _ hth
    refine ⟨_, rfl, _, _, _, _, _, rfl, ob, T.cl, T.nTab, rfl, _, rfl, _, _, _, _, rfl, rfl, SqT.of htb, atI_nat hov, ?_⟩
    refine ⟨_, rfl, ?_⟩
    refine ⟨_, rfl, _, _, _, rfl, ob, rfl, A, st, n, rfl, hT, ok.four, hf, fun G H1 i0 hgn m1 hG => ?_⟩
    have hoa1 := m1.at hoa (by simp)
    have hwl : h < (going (tabs.length + 1) st.rows).wo.length := by rw [going_wo]; omega
    have hol : ovs.length = tabs[h].length := hoA.len.symm
    refine ⟨_, _, _, _, _, rfl, hG.ob, TG.cl, TG.nW, rfl, _, rfl, _, _, _, _, rfl, rfl, SqL.of hG.wo, atI_nat (nats_get (getD_get hwl)), ?_⟩
    refine ⟨_, rfl, oa, _, rfl, .inr (SqT.of hoa1), _, _, rfl, rfl, by rw [hol]; omega, ?_⟩
    generalize hwo : (going (tabs.length + 1) st.rows).wo.getD h 0 = wo at *
    have hmod : ((wo : Int) % (ovs.length : Nat)) = ((wo % tabs[h].length : Nat) : Int) := by rw [hol]; omega
    have hlt : wo % tabs[h].length < tabs[h].length := Nat.mod_lt _ (by omega)
    have htg : tabs[h][wo % tabs[h].length]? = some tabs[h][wo % tabs[h].length] := List.getElem?_eq_getElem hlt
    obtain ⟨gv, hgv, ⟨ga, rfl, hga⟩⟩ := hoA.getL htg
    refine ⟨oa, _, _, _, rfl, rfl, SqT.of hoa1, by rw [hmod]; exact atI_nat hgv, ?_⟩
    have hts : targets tabs st.rows h = tabs[h][wo % tabs[h].length] := by
      unfold targets
      have e1 : tabs.getD h [] = tabs[h] := by rw [List.getD_eq_getElem?_getD, hth]; rfl
      rw [e1, hwo, List.getD_eq_getElem?_getD, htg]; rfl
    have h3 := (hok.2.2 _ (List.mem_of_getElem? htg)).1
    generalize tabs[h][wo % tabs[h].length] = ts at *
    have hT1 := hT.mv m1
    have ob1 := m1.at ob (by simp)
    have hga1 := m1.at hga (by simp)
    obtain ⟨vs, hv, hA⟩ := hT1.rows
    have cle : count st.rows h ≤ 1000 := Nat.le_trans (List.length_filter_le _ _) hf.few
    refine ⟨_, rfl, _, _, _, _, _, rfl, ob1, T.cl, T.nRows, rfl, .inl ⟨rfl, _, SqL.of hv⟩, ?_⟩
    refine ⟨_, rfl, ga, rfl, ⟨_, SqT.of hga1⟩, fun D nD => ?_⟩
    refine lc_tup (xs := ts.map iN) (fun i H' => Mv [] H1 H' ∧ ∃ acc, H' D = some (.lst acc) ∧ All2 (RowAt H') ((ts.take i).map fun to => (.send h to, count st.rows h)) acc) ⟨Mv.new nD, [], upd_same, .nil⟩ (fun i H' _ p => SqT.of (p.1.at hga1 (by simp))) ?_ ?_
    · intro i x H' hx ⟨hm, acc, hacc, hra⟩
      obtain ⟨t, ht', rfl⟩ : ∃ t, ts[i]? = some t ∧ x = iN t := by
        rw [List.getElem?_map] at hx
        cases e : ts[i]? with
        | none => rw [e] at hx; cases hx
        | some t => rw [e] at hx; exact ⟨t, rfl, (Option.some.inj hx).symm⟩
      have hi := lt_of_get ht'
      refine ⟨rfl, _, rfl, _, rfl, (by show 3 ≤ sizeLine; decide), fun p np => ?_⟩
      have ep : upd H' p (.tup [.str "send", iN h, iN t]) p = some (.tup (enc (.send h t))) := upd_same
      have m2 : Mv [] H' (upd H' p (.tup [.str "send", iN h, iN t])) := Mv.new np
      generalize upd H' p (.tup [.str "send", iN h, iN t]) = H2 at *
      have hm2 := hm.trans m2
      refine ⟨_, rfl, _, _, _, rfl, hm2.at ob1 (by simp), rfl, _, rfl, A, st, n, h, rfl, hT1.mv hm2, hf.few, fun H3 m3 => ?_⟩
      refine ⟨(by show 2 ≤ sizeLine; decide), fun q nq => ?_⟩
      have m4 : Mv [] H3 (upd H3 q (.tup [.ref p, iN (count st.rows h)])) := Mv.new nq
      have ep4 : upd H3 q (.tup [.ref p, iN (count st.rows h)]) p = some (.tup (enc (.send h t))) := m4.at (m3.at ep (by simp)) (by simp)
      have eq4 : upd H3 q (.tup [.ref p, iN (count st.rows h)]) q = some (.tup [.ref p, iN (count st.rows h)]) := upd_same
      have m24 := (m2.trans m3).trans m4
      have ha4 := m24.at hacc (by simp)
      clear m4
      generalize upd H3 q (.tup [.ref p, iN (count st.rows h)]) = H4 at *
      refine ⟨acc, ha4, ?_, (hm.trans m24).own nD, _, upd_same, ?_⟩
      · rw [← hra.len, List.length_map, List.length_take]
        exact Nat.lt_of_le_of_lt (Nat.le_trans (Nat.min_le_right _ _) h3) (by decide)
      · have kk : TK H4 (upd H4 D (.lst (acc ++ [.ref q]))) := TK.upd fun xs z => by rw [ha4] at z; cases z
        rw [take_snoc ht', List.map_append]
        exact All2.snoc ⟨q, p, rfl, kk _ _ eq4, kk _ _ ep4⟩ (hra.imp fun _ _ z => (z.mono m24.tk0).mono kk)
    · intro H5 ⟨m5, acc, hacc, hra⟩
      rw [List.length_map, List.take_length] at hra
      have hv5 := m5.at hv (by simp)
      have hT5 := hT1.mv m5
      have hal : acc.length = ts.length := by rw [← hra.len, List.length_map]
      refine ⟨_, _, _, _, rfl, rfl, hv5, hacc, by rw [← hA.len, hal]; exact Nat.le_trans (Nat.add_le_add hf.few h3) (by decide), ?_⟩
      obtain ⟨vs5, hv5', hA5⟩ := hT5.rows
      rw [hv5] at hv5'
      cases hv5'
      have hT6 := hT5.setRows (All2.app hA5 hra)
      have e : sendAll tabs st.rows h = st.rows ++ ts.map fun to => (.send h to, count st.rows h) := by unfold sendAll; rw [hts]
      refine kq _ (((m1.trans m5).mono (by simp)).trans (Mv.upd (by simp [ToA.all]))) ?_
      rw [e]
      exact hT6
/-! ### Town.step -/
def spStep (C : Addr) (tabs : Tabs) (al : Bool) : Sp := fun vs H Q _ => ∃ (A : ToA) (st : TS) (n h f k : Nat), vs = [.ref A.p, iN h, iN f, iN k] ∧ TownAt C tabs al H st A n ∧ TabsOk tabs ∧ Fit tabs.length st.rows ∧ MayTake tabs st h f k ∧ Fit tabs.length (st.rows ++ [(.take h f k, count st.rows h + 1)]) ∧
  ∀ H', Mv A.all H H' → TownAt C tabs al H' { st with rows := sendAll tabs (st.rows ++ [(.take h f k, count st.rows h + 1)]) h } A n → Q .non H'
theorem sc309 : FnScope ["self", "hand", "other", "number", "deed"] ["self", "hand", "other", "number"] (defScope (inClass (top 30) 9)) := ⟨rfl, rfl, rfl, by decide +kernel, rfl, by decide +kernel, by decide +kernel⟩
theorem ok_step (D : MethAt K C "step" "Town.step" (inClass (top 30) 9)) (T : ToC K C) (TG : GoC K CG) (WT : Val mg "WAIT" (.str "wait")) (GG : LMet P w K mg base 3 C "going" (spGoing C CG tabs al)) (GA : LMet P w K mg base 1 CG "can" (spCan CG)) (GC : LMet P w K mg base 1 C "count_of" (spCount C tabs al)) (GS : LMet P w K mg base 4 C "send_all" (spSend C tabs al)) :
    LMet P w K mg base 5 C "step" (spStep C tabs al) := by
  refine met_of T.cl D sc309 (fun _ _ _ _ _ _ us hl => match us, hl with | [_, _, _, _], _ => rfl) (fun vs H Q E h => ?_) (fun f' cdv Ar outer s H vs Q E hr h => ?_)
  · obtain ⟨A, st, n, h, f, k, rfl, _⟩ := h
    rfl
  · obtain ⟨A, st, n, h, f, k, rfl, hT, ok, hf, may, hf2, kq⟩ := h
    have nd := sc309.nd
    refine ⟨_, (pss_cons (ps_set (i := 4) nd rfl (Or.inl rfl) (pe_tup (pa_cons pe_str (pa_cons (pv 1) (pa_cons (pv 2) (pa_cons (pv 3) pa_nil))))))
 (pss_cons (ps_if (PW.pt (pw_or (pt_cmpR op_eq (pv 2) (pv 1) (nomark _)) (pw_or1 (pt_not (pt_val (pe_m GA hr (by decide) (pe_m0' GG hr (by decide) (pv 0)) (pa_cons (pv 4) pa_nil)))))))
 pss_never
 pss_nil)
 (pss_cons (ps_if (PW.pt (pw_and (pt_cmpR op_eq (pe_fld (pv 0) rfl) (pe_k WT) (nomark _)) (pw_and1 (pt_cmpR op_lt (pe_ix ix_list (pe_fld (pv 0) rfl) (pv 1) (fun _ _ => rfl)) (pe_m GC hr (by decide) (pv 0) (pa_cons (pv 1) pa_nil)) (nomark _)))))
 pss_never
 pss_nil)
 (pss_cons (ps_expr (pe_bm PySem.F.plainAttrs_list PySem.F.slot_list_append PySem.F.type_list_append mt_append (pe_fld (pv 0) rfl) (pa_cons (pe_tup (pa_cons (pv 4) (pa_cons (pe_op op_add (pe_m GC hr (by decide) (pv 0) (pa_cons (pv 1) pa_nil)) pe_int) pa_nil))) pa_nil)))
 (pss_one (ps_if (pt_cmpR op_ne (pe_fld (pv 0) rfl) (pe_k WT) (nomark _))
 (pss_one (ps_expr (pe_m GS hr (by decide) (pv 0) (pa_cons (pv 1) pa_nil))))
 pss_nil)))))), ?_⟩
    obtain ⟨tv, htv, ob⟩ := hT.tab
    obtain ⟨wl, hwl⟩ := may.there
    refine ⟨_, rfl, _, rfl, _, rfl, (by show 4 ≤ sizeLine; decide), fun p np => ?_⟩
    have ep : upd H p (.tup [.str "take", iN h, iN f, iN k]) p = some (.tup (enc (.take h f k))) := upd_same
    have m1 : Mv [] H (upd H p (.tup [.str "take", iN h, iN f, iN k])) := Mv.new np
    generalize upd H p (.tup [.str "take", iN h, iN f, iN k]) = H1 at *
    refine ⟨_, rfl, _, rfl, rfl, _, rfl, ?_⟩
    have hne : decide (iN f = iN h) = false := by rw [dec_iN, decide_eq_false may.ne]
    rw [hne]
    have ob1 := m1.at ob (by simp)
    refine ⟨_, rfl, _, _, _, rfl, ob1, rfl, A, st, n, rfl, hT.mv m1, ok.four, hf, fun G H2 i0 hgn m2 hG => ?_⟩
    have hh : h < (going (tabs.length + 1) st.rows).wo.length := by rw [going_wo]; have := may.hand; omega
    refine ⟨G.p, _, _, rfl, hG.ob, rfl, _, rfl, G, _, i0, h, f, k, wl, _, rfl, hG, ⟨p, rfl, m2.at ep (by simp)⟩, hh, hwl, fun H3 m3 => ?_⟩
    have m13 := (m1.trans m2).trans m3
    have ob3 := m13.at ob (by simp)
    have ep3 := (m2.trans m3).at ep (by simp)
    have hT3 := hT.mv m13
    refine ⟨true, rfl, ?_⟩
    refine ⟨_, rfl, _, _, _, _, _, rfl, ob3, T.cl, T.nWay, rfl, rfl, _, rfl, ?_⟩
    rw [way_wait]
    obtain ⟨vs, hv, hA⟩ := hT3.rows
    refine ⟨_, rfl, _, _, _, _, _, rfl, ob3, T.cl, T.nRows, rfl, .inl ⟨rfl, _, SqL.of hv⟩, ?_⟩
    refine ⟨_, rfl, _, rfl, _, _, _, rfl, ob3, rfl, _, rfl, A, st, n, h, rfl, hT3, hf.few, fun H4 m4 => ?_⟩
    refine ⟨_, _, rfl, rfl, (by show 2 ≤ sizeLine; decide), fun q nq => ?_⟩
    have m5 : Mv [] H4 (upd H4 q (.tup [.ref p, .int ((count st.rows h : Nat) + 1 : Int)])) := Mv.new nq
    have hra : RowAt (upd H4 q (.tup [.ref p, .int ((count st.rows h : Nat) + 1 : Int)])) (.take h f k, count st.rows h + 1) (.ref q) := ⟨q, p, rfl, upd_same, m5.at (m4.at ep3 (by simp)) (by simp)⟩
    have m45 := m4.trans m5
    have hT5 := hT3.mv m45
    have hv5 := m45.at hv (by simp)
    have ob5 := m45.at ob3 (by simp)
    have few := hf.few
    clear m5
    generalize upd H4 q (.tup [.ref p, .int ((count st.rows h : Nat) + 1 : Int)]) = H5 at *
    refine ⟨_, _, _, rfl, rfl, hv5, by rw [← hA.len]; exact Nat.lt_of_le_of_lt few (by decide), ?_⟩
    have hT6 := hT5.addRow hv5 hra
    have m6 : Mv A.all H (upd H5 A.lr (.lst (vs ++ [.ref q]))) := ((m13.trans m45).mono (by simp)).trans (Mv.upd (by simp [ToA.all]))
    generalize upd H5 A.lr (.lst (vs ++ [.ref q])) = H6 at *
    obtain ⟨tv6, htv6, ob6⟩ := hT6.tab
    refine ⟨_, rfl, _, _, _, _, _, rfl, ob6, T.cl, T.nWay, rfl, rfl, _, rfl, ?_⟩
    rw [way_wait]
    refine ⟨_, rfl, _, _, _, rfl, ob6, rfl, _, rfl, A, _, n, h, rfl, hT6, ok, hf2, may.hand, fun H7 m7 hT7 => ?_⟩
    exact kq H7 (m6.trans m7) hT7
/-! ### Town.write -/
def spWrite (C : Addr) (tabs : Tabs) (al : Bool) : Sp := fun vs H Q _ => ∃ (A : ToA) (st : TS) (n h : Nat), vs = [.ref A.p, iN h] ∧ TownAt C tabs al H st A n ∧ h < st.wr.length ∧
  ∀ H', Mv [A.lw] H H' → TownAt C tabs al H' { st with wr := st.wr.set h (st.wr.getD h 0 + 1) } A n → Q .non H'
theorem sc3011 : FnScope ["self", "hand"] ["self", "hand"] (defScope (inClass (top 30) 11)) := ⟨rfl, rfl, rfl, by decide +kernel, rfl, by decide +kernel, by decide +kernel⟩
theorem ok_write (D : MethAt K C "write" "Town.write" (inClass (top 30) 11)) (T : ToC K C) (WT : Val mg "WAIT" (.str "wait")) : LMet P w K mg base 1 C "write" (spWrite C tabs al) := by
  refine met_of T.cl D sc3011 (fun _ _ _ _ _ _ us hl => match us, hl with | [_, _], _ => rfl) (fun vs H Q E h => ?_) (fun f' cdv Ar outer s H vs Q E hr h => ?_)
  · obtain ⟨A, st, n, h, rfl, _⟩ := h
    rfl
  · obtain ⟨A, st, n, h, rfl, hT, hh, kq⟩ := h
    have nd := sc3011.nd
    refine ⟨_, (pss_cons (ps_augS (pe_fld (pv 0) rfl) (pv 1) get_list pe_int ip_add set_list)
 (pss_one (ps_if (pt_cmpR op_eq (pe_fld (pv 0) rfl) (pe_k WT) (nomark _))
 pss_never
 pss_nil))), ?_⟩
    obtain ⟨tv, htv, ob⟩ := hT.tab
    have hwi : st.wr[h]? = some (st.wr.getD h 0) := getD_get hh
    refine ⟨_, rfl, _, _, _, _, _, rfl, ob, T.cl, T.nWr, rfl, _, rfl, _, _, _, _, rfl, rfl, SqL.of hT.wr, atI_nat (nats_get hwi), _, _, rfl, rfl, _, _, _, _, rfl, rfl, hT.wr, ixN_nat (by rw [List.length_map]; exact hh), ?_⟩
    have e5 : (st.wr.map iN).set h (.int ((st.wr.getD h 0 : Nat) + 1 : Int)) = (st.wr.set h (st.wr.getD h 0 + 1)).map iN := by rw [← set_iN]; rfl
    rw [e5]
    have hT2 := hT.setWr (ns := st.wr.set h (st.wr.getD h 0 + 1))
    obtain ⟨tv2, htv2, ob2⟩ := hT2.tab
    refine ⟨_, rfl, _, _, _, _, _, rfl, ob2, T.cl, T.nWay, rfl, rfl, _, rfl, ?_⟩
    rw [way_wait]
    exact kq _ (Mv.upd (by simp)) hT2
end
end Lor
end

section
set_option Elab.async false
set_option linter.all false
set_option maxRecDepth 100000
set_option maxHeartbeats 4000000
namespace Lor
open PySem PySem.Spec PyProof.Rows L2
section
variable {P : Program} {w : World} {K : PySem.W.Frag} {mg : Str → Option Value} {base : Heap}
variable {C CG CB : Addr} {tabs : Tabs} {al : Bool}
/-! ### Town.do_form -/
def spDoForm (C : Addr) (tabs : Tabs) (al : Bool) : Sp := fun vs H Q _ => ∃ (A : ToA) (st : TS) (n : Nat) (td : TD) (ra : Addr) (r : List V), vs = [.ref A.p, .str (tdW td), .ref ra] ∧ H ra = some (.tup r) ∧ TDRest H td r ∧ TownAt C tabs al H st A n ∧ TabsOk tabs ∧ Sound tabs st ∧ Legal tabs st td ∧
  (∀ st', Does tabs al st td st' → Valid tabs.length st'.rows) ∧
  ∀ (A' : ToA) (H' : Hp) (st' : TS), A'.p = A.p → (∀ a ∈ A'.all, a ∈ A.all ∨ H a = none) → Mv A.all H H' → Does tabs al st td st' → TownAt C tabs al H' st' A' n → Q .non H'
theorem sc307 : FnScope ["self", "word", "rest"] ["self", "word", "rest"] (defScope (inClass (top 30) 7)) := ⟨rfl, rfl, rfl, by decide +kernel, rfl, by decide +kernel, by decide +kernel⟩
theorem ok_doform (D : MethAt K C "do_form" "Town.do_form" (inClass (top 30) 7)) (T : ToC K C) (GP : LMet P w K mg base 1 C "put" (spPut C tabs al)) (GT : LMet P w K mg base 5 C "step" (spStep C tabs al)) (GW : LMet P w K mg base 1 C "write" (spWrite C tabs al)) (GC : LMet P w K mg base 1 C "count_of" (spCount C tabs al)) (GF : LMet P w K mg base 5 C "fall" (spFall C tabs al)) :
    LMet P w K mg base 6 C "do_form" (spDoForm C tabs al) := by
  refine met_of T.cl D sc307 (fun _ _ _ _ _ _ us hl => match us, hl with | [_, _, _], _ => rfl) (fun vs H Q E h => ?_) (fun f' cdv Ar outer s H vs Q E hr h => ?_)
  · obtain ⟨A, st, n, td, ra, r, rfl, _⟩ := h
    rfl
  · obtain ⟨A, st, n, td, ra, r, rfl, hra, hr', hT, ok, so, lg, hv, kq⟩ := h
    have nd := sc307.nd
    refine ⟨_, (pss_one (ps_if (pt_cmpR op_eq (pv 1) pe_str (nomark _))
 (pss_one (ps_expr (pe_m GP hr (by decide) (pv 0) (pa_cons (pe_ix ix_tup (pv 2) pe_int (fun _ _ => rfl)) (pa_cons (pe_ix ix_tup (pv 2) pe_int (fun _ _ => rfl)) pa_nil)))))
 (pss_one (ps_if (pt_cmpR op_eq (pv 1) pe_str (nomark _))
 (pss_one (ps_expr (pe_m GT hr (by decide) (pv 0) (pa_cons (pe_ix ix_tup (pv 2) pe_int (fun _ _ => rfl)) (pa_cons (pe_ix ix_tup (pv 2) pe_int (fun _ _ => rfl)) (pa_cons (pe_ix ix_tup (pv 2) pe_int (fun _ _ => rfl)) pa_nil))))))
 (pss_one (ps_if (pt_cmpR op_eq (pv 1) pe_str (nomark _))
 (pss_cons (ps_if (pt_cmpR op_eq (pe_ix ix_list (pe_fld (pv 0) rfl) (pe_ix ix_tup (pv 2) pe_int (fun _ _ => rfl)) (fun _ _ => rfl)) (pe_m GC hr (by decide) (pv 0) (pa_cons (pe_ix ix_tup (pv 2) pe_int (fun _ _ => rfl)) pa_nil)) (nomark _))
 pss_never
 pss_nil)
 (pss_one (ps_expr (pe_m GW hr (by decide) (pv 0) (pa_cons (pe_ix ix_tup (pv 2) pe_int (fun _ _ => rfl)) pa_nil)))))
 (pss_one (ps_if (pt_cmpR op_eq (pv 1) pe_str (nomark _))
 (pss_cons (ps_while PassesOwn.never (pt_cmpR op_lt (pe_ix ix_list (pe_fld (pv 0) rfl) (pe_ix ix_tup (pv 2) pe_int (fun _ _ => rfl)) (fun _ _ => rfl)) (pe_m GC hr (by decide) (pv 0) (pa_cons (pe_ix ix_tup (pv 2) pe_int (fun _ _ => rfl)) pa_nil)) (nomark _))
 (pss_one (ps_expr (pe_m GW hr (by decide) (pv 0) (pa_cons (pe_ix ix_tup (pv 2) pe_int (fun _ _ => rfl)) pa_nil)))))
 (pss_one (ps_expr (pe_bm PySem.F.plainAttrs_list PySem.F.slot_list_append PySem.F.type_list_append mt_append (pe_fld (pv 0) rfl) (pa_cons (pe_tup (pa_cons (pe_tup (pa_cons pe_str (pa_cons (pe_ix ix_tup (pv 2) pe_int (fun _ _ => rfl)) pa_nil))) (pa_cons (pe_m GC hr (by decide) (pv 0) (pa_cons (pe_ix ix_tup (pv 2) pe_int (fun _ _ => rfl)) pa_nil)) pa_nil))) pa_nil)))))
 (pss_one (ps_if (pt_cmpR op_eq (pv 1) pe_str (nomark _))
 (pss_one (ps_expr (pe_m GF hr (by decide) (pv 0) (pa_cons (pe_ix ix_tup (pv 2) pe_int (fun _ _ => rfl)) pa_nil))))
 pss_never)))))))))), ?_⟩
    obtain ⟨tv, htv, ob⟩ := hT.tab
    have fit : Fit tabs.length st.rows := ⟨so.valid, Nat.le_trans so.few (by decide)⟩
    have few := so.few
    cases td with
    | put h x =>
      obtain rfl := hr'
      refine ⟨_, rfl, rfl, _, rfl, str_yes ?_⟩
      refine ⟨_, rfl, _, _, _, rfl, ob, rfl, _, rfl, _, _, _, _, rfl, rfl, SqT.of hra, atI_nat (j := 0) rfl, _, rfl, _, _, _, _, rfl, rfl, SqT.of hra, atI_nat (j := 1) rfl, A, st, n, h, x, rfl, hT, by omega, fun H' m hT' => ?_⟩
      exact kq A H' _ rfl (fun a ha => .inl ha) m (.put h x) hT'
    | step h f k =>
      obtain rfl := hr'
      refine ⟨_, rfl, rfl, _, rfl, str_no (by simp only [tdW]; decide) ?_⟩
      refine ⟨_, rfl, rfl, _, rfl, str_yes ?_⟩
      refine ⟨_, rfl, _, _, _, rfl, ob, rfl, _, rfl, _, _, _, _, rfl, rfl, SqT.of hra, atI_nat (j := 0) rfl, _, rfl, _, _, _, _, rfl, rfl, SqT.of hra, atI_nat (j := 1) rfl, _, rfl, _, _, _, _, rfl, rfl, SqT.of hra, atI_nat (j := 2) rfl, A, st, n, h, f, k, rfl, hT, ok, fit, lg, ⟨?_, ?_⟩, fun H' m hT' => ?_⟩
      · exact valid_pre (hv _ (.step h f k))
      · rw [List.length_append]; show _ + 1 ≤ 1000; omega
      · exact kq A H' _ rfl (fun a ha => .inl ha) m (.step h f k) hT'
    | write h =>
      obtain rfl := hr'
      obtain ⟨l1, l2⟩ := lg
      have hwi : st.wr[h]? = some (st.wr.getD h 0) := getD_get (by rw [so.wlen]; exact l1)
      refine ⟨_, rfl, rfl, _, rfl, str_no (by simp only [tdW]; decide) ?_⟩
      refine ⟨_, rfl, rfl, _, rfl, str_no (by simp only [tdW]; decide) ?_⟩
      refine ⟨_, rfl, rfl, _, rfl, str_yes ?_⟩
      refine ⟨_, rfl, _, _, _, _, _, rfl, ob, T.cl, T.nWr, rfl, _, rfl, _, _, _, _, rfl, rfl, SqT.of hra, atI_nat (j := 0) rfl, _, _, _, _, rfl, rfl, SqL.of hT.wr, atI_nat (nats_get hwi), ?_⟩
      refine ⟨_, rfl, _, _, _, rfl, ob, rfl, _, rfl, _, _, _, _, rfl, rfl, SqT.of hra, atI_nat (j := 0) rfl, A, st, n, h, rfl, hT, fit.few, fun H1 m1 => ?_⟩
      refine ⟨rfl, _, rfl, ?_⟩
      refine ifF (by rw [dec_iN]; exact decide_eq_false (Nat.ne_of_lt l2)) ?_
      have hT1 := hT.mv m1
      refine ⟨_, rfl, _, _, _, rfl, m1.at ob (by simp), rfl, _, rfl, _, _, _, _, rfl, rfl, SqT.of (m1.at hra (by simp)), atI_nat (j := 0) rfl, A, st, n, h, rfl, hT1, by rw [so.wlen]; exact l1, fun H' m hT' => ?_⟩
      exact kq A H' _ rfl (fun a ha => .inl ha) ((m1.mono (by simp)).trans (m.mono (by simp [ToA.all]))) (.write h) hT'
    | keep h =>
      obtain rfl := hr'
      have l1 : h < tabs.length := lg
      have hw0 := so.wr h l1
      refine ⟨_, rfl, rfl, _, rfl, str_no (by simp only [tdW]; decide) ?_⟩
      refine ⟨_, rfl, rfl, _, rfl, str_no (by simp only [tdW]; decide) ?_⟩
      refine ⟨_, rfl, rfl, _, rfl, str_no (by simp only [tdW]; decide) ?_⟩
      refine ⟨_, rfl, rfl, _, rfl, str_yes ?_⟩
      refine while_by (fun σ H' => ∃ wi, σ = [some (.ref A.p), some (.str "keep"), some (.ref ra)] ∧ Mv [A.lw] H H' ∧ wi ≤ count st.rows h ∧ TownAt C tabs al H' { st with wr := st.wr.set h wi } A n)
        (fun σ H' => match H' A.lw with | some (.lst vs) => (match vs[h]? with | some (.int i) => count st.rows h - i.toNat | _ => 0) | _ => 0) ?_ ?_ ?_
      · exact ⟨st.wr.getD h 0, rfl, Mv.refl _ _, hw0, by
          have : st.wr.set h (st.wr.getD h 0) = st.wr := by
            apply List.ext_getElem?
            intro i
            rw [List.getElem?_set]
            split
            next e =>
              subst e
              rw [if_pos (by rw [so.wlen]; exact l1)]
              exact (getD_get (by rw [so.wlen]; exact l1)).symm
            next => rfl
          rw [this]; exact hT⟩
      · intro σ H1 ⟨wi, hσ, m1, hwi, hT1⟩
        subst hσ
        have m1' : Mv [A.lw] H H1 := m1
        have lwT : ∀ a ∈ [A.lw], ∀ xs, H a ≠ some (.tup xs) := fun a ha xs z => by
          rw [List.mem_singleton] at ha
          subst ha
          have := hT.wr.symm.trans z; cases this
        have k1 := m1.tk lwT
        obtain ⟨tv1, htv1, ob1⟩ := hT1.tab
        have hra1 := k1 _ _ hra
        have hwg : (st.wr.set h wi)[h]? = some wi := by rw [List.getElem?_set, if_pos rfl, if_pos (by rw [so.wlen]; exact l1)]
        have mu : ∀ {G : Hp} {x : Nat}, NatsL G A.lw (st.wr.set h x) → (match G A.lw with | some (.lst vs) => (match vs[h]? with | some (.int i) => count st.rows h - i.toNat | _ => 0) | _ => 0) = count st.rows h - x := fun {G x} hg => by
          rw [hg]
          show (match ((st.wr.set h x).map iN)[h]? with | some (.int i) => count st.rows h - i.toNat | _ => 0) = _
          rw [nats_get (by rw [List.getElem?_set, if_pos rfl, if_pos (by rw [so.wlen]; exact l1)] : (st.wr.set h x)[h]? = some x)]
          show count st.rows h - ((x : Nat) : Int).toNat = _
          rw [Int.toNat_natCast]
        rw [mu hT1.wr]
        refine ⟨_, rfl, _, _, _, _, _, rfl, ob1, T.cl, T.nWr, rfl, _, rfl, _, _, _, _, rfl, rfl, SqT.of hra1, atI_nat (j := 0) rfl, _, _, _, _, rfl, rfl, SqL.of hT1.wr, atI_nat (nats_get hwg), ?_⟩
        refine ⟨_, rfl, _, _, _, rfl, ob1, rfl, _, rfl, _, _, _, _, rfl, rfl, SqT.of hra1, atI_nat (j := 0) rfl, A, _, n, h, rfl, hT1, fit.few, fun H2 m2 => ?_⟩
        have hT2 := hT1.mv m2
        have m12 : Mv [A.lw] H H2 := m1'.trans (m2.mono (by simp))
        have hra2 := m2.at hra1 (by simp)
        refine ⟨_, _, rfl, rfl, _, rfl, ?_⟩
        refine ite2 (fun c => ?_) (fun c => ?_)
        · have c' : wi < count st.rows h := Int.ofNat_lt.mp (of_decide_eq_true c)
          refine ⟨_, rfl, _, _, _, rfl, m2.at ob1 (by simp), rfl, _, rfl, _, _, _, _, rfl, rfl, SqT.of hra2, atI_nat (j := 0) rfl, A, _, n, h, rfl, hT2, by rw [List.length_set, so.wlen]; exact l1, fun H3 m3 hT3 => ?_⟩
          have e : ((st.wr.set h wi).set h ((st.wr.set h wi).getD h 0 + 1)) = st.wr.set h (wi + 1) := by
            rw [List.set_set, List.getD_eq_getElem?_getD, hwg]; rfl
          replace hT3 : TownAt C tabs al H3 { st with wr := st.wr.set h (wi + 1) } A n := by rw [← e]; exact hT3
          refine ⟨⟨wi + 1, rfl, m12.trans m3, c', hT3⟩, ?_⟩
          rw [mu hT3.wr]; omega
        · have c' : ¬ wi < count st.rows h := fun z => c (decide_eq_true (Int.ofNat_lt.mpr z))
          have ew : wi = count st.rows h := by omega
          subst ew
          obtain ⟨vs, hv2, hA⟩ := hT2.rows
          have ob2 := m2.at ob1 (by simp)
          refine ⟨_, rfl, _, _, _, _, _, rfl, ob2, T.cl, T.nRows, rfl, .inl ⟨rfl, _, SqL.of hv2⟩, ?_⟩
          refine ⟨_, rfl, _, _, _, _, rfl, rfl, SqT.of hra2, atI_nat (j := 0) rfl, (by show 2 ≤ sizeLine; decide), fun p np => ?_⟩
          have ep : upd H2 p (.tup [.str "keep", iN h]) p = some (.tup (enc (.keep h))) := upd_same
          have m3 : Mv [] H2 (upd H2 p (.tup [.str "keep", iN h])) := Mv.new np
          generalize upd H2 p (.tup [.str "keep", iN h]) = H3 at *
          have hT3 := hT2.mv m3
          refine ⟨_, rfl, _, _, _, rfl, m3.at ob2 (by simp), rfl, _, rfl, _, _, _, _, rfl, rfl, SqT.of (m3.at hra2 (by simp)), atI_nat (j := 0) rfl, A, _, n, h, rfl, hT3, fit.few, fun H4 m4 => ?_⟩
          refine ⟨(by show 2 ≤ sizeLine; decide), fun q nq => ?_⟩
          have m5 : Mv [] H4 (upd H4 q (.tup [.ref p, iN (count st.rows h)])) := Mv.new nq
          have hrw : RowAt (upd H4 q (.tup [.ref p, iN (count st.rows h)])) (.keep h, count st.rows h) (.ref q) := ⟨q, p, rfl, upd_same, m5.at (m4.at ep (by simp)) (by simp)⟩
          have m45 := m4.trans m5
          have hT5 := hT3.mv m45
          have hv5 := (m3.trans m45).at hv2 (by simp)
          refine ⟨_, _, _, rfl, rfl, hv5, by rw [← hA.len]; exact Nat.lt_of_le_of_lt few (by decide), ?_⟩
          have hT6 := hT5.addRow hv5 hrw
          refine kq A _ _ rfl (fun a ha => .inl ha) ?_ (.keep h) hT6
          exact ((m12.mono (by simp [ToA.all])).trans ((m3.trans m45).mono (by simp))).trans (Mv.upd (by simp [ToA.all]))
      · intro σ H Q Q' hq h
        obtain ⟨v1, s1, a1, C1, d1, f1, w1, e1, o1, c1, n1, l1, v2, s2, p2, x2, i2, u2, e2, e3, t2, y2, p3, x3, i3, u3, e4, e5, t3, y3, v4, s4, a4, d4, f4, e6, o4, l4, v5, s5, p5, x5, i5, u5, e7, e8, t5, y5, A5, st5, n5, h5, e9, hT5, hf5, k5⟩ := h
        exact ⟨v1, s1, a1, C1, d1, f1, w1, e1, o1, c1, n1, l1, v2, s2, p2, x2, i2, u2, e2, e3, t2, y2, p3, x3, i3, u3, e4, e5, t3, y3, v4, s4, a4, d4, f4, e6, o4, l4, v5, s5, p5, x5, i5, u5, e7, e8, t5, y5, A5, st5, n5, h5, e9, hT5, hf5, fun H' m => let ⟨i, j, ei, ej, b, eb, q⟩ := k5 H' m; ⟨i, j, ei, ej, b, eb, hq _ _ q⟩⟩
    | fall l =>
      obtain ⟨fa, rfl, hfa⟩ := hr'
      refine ⟨_, rfl, rfl, _, rfl, str_no (by simp only [tdW]; decide) ?_⟩
      refine ⟨_, rfl, rfl, _, rfl, str_no (by simp only [tdW]; decide) ?_⟩
      refine ⟨_, rfl, rfl, _, rfl, str_no (by simp only [tdW]; decide) ?_⟩
      refine ⟨_, rfl, rfl, _, rfl, str_no (by simp only [tdW]; decide) ?_⟩
      refine ⟨_, rfl, rfl, _, rfl, str_yes ?_⟩
      refine ⟨_, rfl, _, _, _, rfl, ob, rfl, _, rfl, _, _, _, _, rfl, rfl, SqT.of hra, atI_nat (j := 0) rfl, A, st, n, fa, l, rfl, hT, ok.four, fit, hfa, so.wlen, fun h hh => Nat.le_trans (Nat.le_trans (so.wr h hh) (so.steps h hh)) (by decide), Nat.le_trans so.falls (by decide), fun A' H' c e1 e2 m hk hT' => ?_⟩
      exact kq A' H' _ e1 e2 m (.fall l c hk) hT'
end
end Lor
end

section
set_option Elab.async false
set_option linter.all false
set_option maxRecDepth 100000
set_option maxHeartbeats 4000000
namespace Lor
open PySem PySem.Spec PyProof.Rows L2
/-- what a deed leaves can be told -/
structure Leaves (tabs : Tabs) (al : Bool) (st : TS) (td : TD) : Prop where
  sound : Sound tabs st
  legal : Legal tabs st td
  form : FormOk tabs.length td
  left : ∀ st', Does tabs al st td st' → Fit tabs.length st'.rows ∧ st'.wr.length = tabs.length ∧ st'.told.length ≤ 1000 ∧ (tellS tabs.length st').rows.length ≤ 400
theorem cutV_tail (x : V) (r : List V) : cutV (x :: r) (some 1) none = r := by
  unfold cutV
  have e1 : HT.sIx (x :: r).length 0 (some 1) = 1 := by simp [HT.sIx]
  have e2 : HT.sIx (x :: r).length (x :: r).length none = (x :: r).length := rfl
  rw [e1, e2]
  show r.take _ = r
  exact List.take_of_length_le (by simp)
theorem cut_part (x : V) (r : List V) : ¬ (HT.sIx (x :: r).length 0 (some 1) = 0 ∧ HT.sIx (x :: r).length (x :: r).length none = (x :: r).length) := by
  intro z
  have e1 : HT.sIx (x :: r).length 0 (some 1) = 1 := by simp [HT.sIx]
  rw [e1] at z
  exact absurd z.1 (by decide)
section
variable {P : Program} {w : World} {K : PySem.W.Frag} {mg : Str → Option Value} {base : Heap}
variable {C CG CB : Addr} {tabs : Tabs} {al : Bool}
/-! ### Town.do -/
def spDo (C : Addr) (tabs : Tabs) (al : Bool) : Sp := fun vs H Q _ => ∃ (A : ToA) (st : TS) (n : Nat) (td : TD) (dv : V), vs = [.ref A.p, dv] ∧ TownAt C tabs al H st A n ∧ TDAt H td dv ∧ TabsOk tabs ∧ Leaves tabs al st td ∧ n ≤ 1000 ∧
  ∀ (A' : ToA) (H' : Hp) (st' : TS), A'.p = A.p → (∀ a ∈ A'.all, a = A.p ∨ H a = none) → Mv [A.p] H H' → Does tabs al st td st' → TownAt C tabs al H' (tellS tabs.length st') A' (n + 1) → Q .non H'
theorem sc304 : FnScope ["self", "deed", "later"] ["self", "deed"] (defScope (inClass (top 30) 4)) := ⟨rfl, rfl, rfl, by decide +kernel, rfl, by decide +kernel, by decide +kernel⟩
theorem ok_do (D : MethAt K C "do" "Town.do" (inClass (top 30) 4)) (B : Bl mg) (T : ToC K C) (MD : Val mg "MOST_DEEDS" (.int 400)) (GI : LMet P w K mg base 4 C "is_form" (spForm C tabs al)) (GW : LMet P w K mg base 7 C "twin" (spTwin C tabs al)) (GD : LMet P w K mg base 6 C "do_form" (spDoForm C tabs al))
    (GT : LMet P w K mg base 4 C "tell" (spTell C tabs al)) (GO : LMet P w K mg base 1 C "take_over" (spOver C tabs al)) : LMet P w K mg base 8 C "do" (spDo C tabs al) := by
  refine met_of T.cl D sc304 (fun _ _ _ _ _ _ us hl => match us, hl with | [_, _], _ => rfl) (fun vs H Q E h => ?_) (fun f' cdv Ar outer s H vs Q E hr h => ?_)
  · obtain ⟨A, st, n, td, dv, rfl, _⟩ := h
    rfl
  · obtain ⟨A, st, n, td, dv, rfl, hT, hdv, ok, lv, hn, kq⟩ := h
    have nd := sc304.nd
    refine ⟨_, (pss_cons (ps_if (pt_not (pt_val (pe_m GI hr (by decide) (pv 0) (pa_cons (pv 1) pa_nil))))
 pss_never
 pss_nil)
 (pss_cons (ps_set (i := 2) nd rfl (Or.inl rfl) (pe_m0' GW hr (by decide) (pv 0)))
 (pss_cons (ps_expr (pe_m GD hr (by decide) (pv 2) (pa_cons (pe_ix ix_tup (pv 1) pe_int (fun _ _ => rfl)) (pa_cons (pe_slice sl_tup (pv 1) (po_some pe_int) po_none) pa_nil))))
 (pss_cons (ps_expr (pe_m0' GT hr (by decide) (pv 2)))
 (pss_cons (ps_if (pt_cmpR op_gt (pe_callB call_len_seq (by rfl) B.len PySem.boot_len (pa_cons (pe_fld (pv 2) rfl) pa_nil)) (pe_k MD) (nomark _))
 pss_never
 pss_nil)
 (pss_cons (ps_expr (pe_m GO hr (by decide) (pv 0) (pa_cons (pv 2) pa_nil)))
 (pss_one (ps_expr (pe_bm PySem.F.plainAttrs_list PySem.F.slot_list_append PySem.F.type_list_append mt_append (pe_fld (pv 0) rfl) (pa_cons (pv 1) pa_nil)))))))))), ?_⟩
    obtain ⟨tv, htv, ob⟩ := hT.tab
    refine ⟨_, rfl, _, _, _, rfl, ob, rfl, _, rfl, A, st, n, td, dv, rfl, hT, hdv, lv.form, fun H1 m1 => ⟨true, rfl, ?_⟩⟩
    refine ⟨_, rfl, _, _, _, rfl, m1.at ob (by simp), rfl, A, st, n, rfl, hT.mv m1, ok, fun A2 H2 hn2 m2 hT2 => ?_⟩
    have m12 := m1.trans m2
    have hn20 : ∀ a ∈ A2.all, H a = none := fun a ha => m1.none (hn2 a ha)
    obtain ⟨tv2, htv2, ob2⟩ := hT2.tab
    obtain ⟨da, r, rfl, hda, hrest⟩ := hdv
    have hda2 := m12.at hda (by simp)
    refine ⟨_, rfl, _, _, _, rfl, ob2, rfl, _, rfl, _, _, _, _, rfl, rfl, SqT.of hda2, atI_nat (j := 0) rfl, _, rfl, 1, rfl, da, _, rfl, SqT.of hda2, cut_part _ _, fun ra nra => ?_⟩
    rw [cutV_tail]
    have era : upd H2 ra (.tup r) ra = some (.tup r) := upd_same
    have m3 : Mv [] H2 (upd H2 ra (.tup r)) := Mv.new nra
    have hrest3 := hrest.mono (m12.trans m3).tk0
    have hT3 := hT2.mv m3
    have m13 := m12.trans m3
    refine ⟨A2, st, n, td, ra, r, rfl, era, hrest3, hT3, ok, lv.sound, lv.legal, fun st' h => (lv.left st' h).1.valid, fun A4 H4 st' e4 hn4 m4 hdo hT4 => ?_⟩
    obtain ⟨l1, l2, l3, l4⟩ := lv.left st' hdo
    have hn40 : ∀ a ∈ A4.all, H a = none := fun a ha => (hn4 a ha).elim (hn20 a) fun z => m13.none z
    have m14 : Mv [] H H4 := ((m13.mono (by simp)).trans m4).weak fun a ha => .inr (hn20 a ha)
    clear m3 m4 hT3 hrest3 era nra
    rw [← e4]
    obtain ⟨tv4, htv4, ob4⟩ := hT4.tab
    refine ⟨_, rfl, _, _, _, rfl, ob4, rfl, A4, st', n, rfl, hT4, ok.four, l1, l2, l3, fun H5 m5 hT5 => ?_⟩
    have m15 : Mv [] H H5 := ((m14.mono (by simp)).trans m5).weak fun a ha => .inr (hn40 a ha)
    obtain ⟨tv5, htv5, ob5⟩ := hT5.tab
    obtain ⟨rvs, hrv, hrA⟩ := hT5.rows
    refine ⟨_, rfl, _, _, _, _, _, rfl, ob5, T.cl, T.nRows, rfl, _, _, rfl, .inl (SqL.of hrv), _, _, rfl, rfl, false, ?_, ?_⟩
    · have : ¬ ((400 : Int) < (rvs.length : Nat)) := by rw [← hrA.len]; omega
      show V.bl (decide ((400 : Int) < (rvs.length : Nat))) = _
      rw [decide_eq_false this]
    have obA := m15.at ob (by simp)
    refine ⟨_, rfl, _, _, _, rfl, obA, rfl, _, rfl, A, A4, st, _, n, n, rfl, hT.mv m15, hT5, fun z => ?_, fun A6 H6 e6 hn6 m6 hT6 => ?_⟩
    · have := hn40 A.p z
      rw [ob] at this; cases this
    have m16 : Mv [A.p] H H6 := (m15.mono (by simp)).trans m6
    have hn60 : ∀ a ∈ A6.all, a = A.p ∨ H a = none := fun a ha => (hn6 a ha).imp id fun z => m15.none z
    rw [← e6]
    obtain ⟨tv6, htv6, ob6⟩ := hT6.tab
    obtain ⟨dvs, hdv6, hdl⟩ := hT6.done
    refine ⟨_, rfl, _, _, _, _, _, rfl, ob6, T.cl, T.nDone, rfl, .inl ⟨rfl, _, SqL.of hdv6⟩, _, rfl, _, _, _, rfl, rfl, hdv6, Nat.lt_of_le_of_lt (Nat.le_trans hdl hn) (by decide), ?_⟩
    have hT7 := hT6.setDone (vs := dvs ++ [.ref da]) (by rw [List.length_append]; exact Nat.succ_le_succ hdl)
    refine kq A6 _ st' e6 hn60 ?_ hdo hT7
    refine (((m16.mono (S' := [A.p, A6.ld]) (by simp)).trans (Mv.upd (by simp)))).weak ?_
    intro a ha
    simp only [List.mem_cons, List.not_mem_nil, or_false] at ha
    rcases ha with h | h
    · exact .inl (by rw [h]; simp)
    · rw [h]
      exact (hn60 A6.ld (by simp [ToA.all])).imp (fun e => by rw [e]; simp) id
/-! ### settled, lost_by -/
def spSettled (C : Addr) (tabs : Tabs) (al : Bool) : Sp := fun vs H Q _ => ∃ (A : ToA) (st : TS) (n : Nat), vs = [.ref A.p] ∧ TownAt C tabs al H st A n ∧ tabs.length ≤ 4 ∧ Fit tabs.length st.rows ∧ st.wr.length = tabs.length ∧ (∀ h, h < tabs.length → st.wr.getD h 0 ≤ 1000) ∧
  ∀ (H' : Hp) (t : Addr) (c : List Nat), Mv [] H H' → H' t = some (.tup (c.map iN)) → Kept tabs.length st (List.range tabs.length) false c → Q (.ref t) H'
theorem sc32 : FnScope ["town"] ["town"] (defScope (top 32)) := ⟨rfl, rfl, rfl, by decide +kernel, rfl, by decide +kernel, by decide +kernel⟩
theorem ok_settled (D : DefAt K mg "settled" (top 32)) (B : Bl mg) (GS : LMet P w K mg base 5 C "settled_steps" (spSteps C tabs al)) : LCal P w K mg base 6 "settled" (spSettled C tabs al) := by
  refine cal_of D sc32 (fun _ _ _ _ _ _ us hl => match us, hl with | [_], _ => rfl) (fun vs H Q E h => ?_) (fun f' cdv Ar outer s H vs Q E hr h => ?_)
  · obtain ⟨A, st, n, rfl, _⟩ := h
    rfl
  · obtain ⟨A, st, n, rfl, hT, h4, hf, hwl, hwb, kq⟩ := h
    have nd := sc32.nd
    refine ⟨_, (pss_one (ps_ret (pe_callTy call_tuple_of (by rfl) B.tuple (by decide +kernel) (pa_cons (pe_m0' GS hr (by decide) (pv 0)) pa_nil)))), ?_⟩
    obtain ⟨tv, htv, ob⟩ := hT.tab
    refine ⟨_, rfl, _, _, _, rfl, ob, rfl, A, st, n, rfl, hT, h4, hf, hwl, hwb, fun H' L c nL m hc hk => ?_⟩
    exact ⟨L, _, rfl, .inl ⟨SqL.of hc, fun t nt => kq _ t c (m.trans (Mv.new nt)) upd_same hk⟩⟩
def spLost (C : Addr) (tabs : Tabs) (al : Bool) : Sp := fun vs H Q _ => ∃ (A : ToA) (st : TS) (n : Nat) (fa : Addr) (l : List Nat), vs = [.ref A.p, .ref fa] ∧ TownAt C tabs al H st A n ∧ H fa = some (.tup (l.map iN)) ∧ TabsOk tabs ∧ Leaves tabs al st (.fall l) ∧ n ≤ 1000 ∧
  ∀ (H' : Hp) (t : Addr) (c : List Nat), Mv [] H H' → Kept tabs.length st l al c → H' t = some (.tup (((List.range tabs.length).map fun h => count st.rows h - c.getD h 0).map iN)) → Q (.ref t) H'
theorem sc33 : FnScope ["town", "fallen", "later"] ["town", "fallen"] (defScope (top 33)) := ⟨rfl, rfl, rfl, by decide +kernel, rfl, by decide +kernel, by decide +kernel⟩
theorem ok_lost (D : DefAt K mg "lost_by" (top 33)) (GW : LMet P w K mg base 7 C "twin" (spTwin C tabs al)) (GD : LMet P w K mg base 8 C "do" (spDo C tabs al)) (GF : LMet P w K mg base 1 C "falls" (spFalls C tabs al)) : LCal P w K mg base 9 "lost_by" (spLost C tabs al) := by
  refine cal_of D sc33 (fun _ _ _ _ _ _ us hl => match us, hl with | [_, _], _ => rfl) (fun vs H Q E h => ?_) (fun f' cdv Ar outer s H vs Q E hr h => ?_)
  · obtain ⟨A, st, n, fa, l, rfl, _⟩ := h
    rfl
  · obtain ⟨A, st, n, fa, l, rfl, hT, hfa, ok, lv, hn, kq⟩ := h
    have nd := sc33.nd
    refine ⟨_, (pss_cons (ps_set (i := 2) nd rfl (Or.inl rfl) (pe_m0' GW hr (by decide) (pv 0)))
 (pss_cons (ps_expr (pe_m GD hr (by decide) (pv 2) (pa_cons (pe_tup (pa_cons pe_str (pa_cons (pv 1) pa_nil))) pa_nil)))
 (pss_one (ps_ret (pe_ix ix_tup (pe_ix ix_list (pe_m0' GF hr (by decide) (pv 2)) (pe_un un_neg pe_int) (fun _ _ => rfl)) pe_int (fun _ _ => rfl)))))), ?_⟩
    obtain ⟨tv, htv, ob⟩ := hT.tab
    refine ⟨_, rfl, _, _, _, rfl, ob, rfl, A, st, n, rfl, hT, ok, fun A2 H2 hn2 m2 hT2 => ?_⟩
    obtain ⟨tv2, htv2, ob2⟩ := hT2.tab
    refine ⟨_, rfl, _, _, _, rfl, ob2, rfl, _, rfl, (by show 2 ≤ sizeLine; decide), fun t nt => ?_⟩
    have et : upd H2 t (.tup [.str "fall", .ref fa]) t = some (.tup [.str "fall", .ref fa]) := upd_same
    have m3 : Mv [] H2 (upd H2 t (.tup [.str "fall", .ref fa])) := Mv.new nt
    have m23 := m2.trans m3
    have hT3 := hT2.mv m3
    refine ⟨A2, st, n, .fall l, .ref t, rfl, hT3, ⟨t, _, rfl, et, fa, rfl, m23.at hfa (by simp)⟩, ok, lv, hn, fun A4 H4 st' e4 hn4 m4 hdo hT4 => ?_⟩
    have p0 : H A2.p = none := hn2 A2.p (by simp [ToA.all])
    have m14 : Mv [] H H4 := ((m23.mono (by simp)).trans m4).weak (by simp [p0])
    rw [← e4]
    obtain ⟨tv4, htv4, ob4⟩ := hT4.tab
    cases hdo with
    | fall l c hk =>
      refine ⟨_, rfl, _, _, _, rfl, ob4, rfl, A4, _, _, rfl, hT4, fun H5 L m5 hL => ?_⟩
      obtain ⟨vs, hv, hA⟩ := hL
      have hsn : (tellS tabs.length (fallS tabs.length st c)).falls = st.falls ++ [(List.range tabs.length).map fun h => count st.rows h - c.getD h 0] := rfl
      rw [hsn] at hA
      have hlen : vs.length = st.falls.length + 1 := by rw [← hA.len, List.length_append]; rfl
      have hlast : (st.falls ++ [(List.range tabs.length).map fun h => count st.rows h - c.getD h 0])[st.falls.length]? = some ((List.range tabs.length).map fun h => count st.rows h - c.getD h 0) := by
        rw [List.getElem?_append_right (Nat.le_refl _), Nat.sub_self]; rfl
      obtain ⟨v, hv2, a, x, b, rfl, ha, hb⟩ := hA.getL hlast
      have hat : atI vs (-1) = some (V.ref a) := by
        unfold atI
        have : ixN vs.length (-1) = some st.falls.length := by
          unfold ixN
          rw [if_neg (by omega), if_pos (by omega), hlen]
          congr 1
          omega
        rw [this]
        exact hv2
      refine ⟨_, rfl, _, _, _, _, rfl, rfl, SqL.of hv, hat, ?_⟩
      exact ⟨_, _, _, _, rfl, rfl, SqT.of ha, atI_nat (j := 1) rfl, kq H5 b c (m14.trans m5) hk hb⟩
end
end Lor
end

section
set_option Elab.async false
set_option linter.all false
set_option maxRecDepth 100000
set_option maxHeartbeats 4000000
namespace Lor
open PySem PySem.Spec PyProof.Rows L2
/-! the law's own defs: the pool of numbers -/
def PoolAt (H : Hp) (p : Addr) : Prop := ∃ c x : Nat, H p = some (.lst [iN c, iN x]) ∧ x < 2 ^ 31
section
variable {P : Program} {w : World} {K : PySem.W.Frag} {mg : Str → Option Value} {base : Heap}
theorem PoolAt.mv {H H' : Hp} {p : Addr} {S : List Addr} (h : PoolAt H p) (m : Mv S H H') (n : p ∉ S) : PoolAt H' p := let ⟨c, x, e, l⟩ := h; ⟨c, x, m.at e n, l⟩
theorem PoolAt.tk {H H' : Hp} {p : Addr} (h : PoolAt H p) (m : Mv [p] H H') : TK H H' := m.tk fun a ha xs z => by
  rw [List.mem_singleton] at ha
  subst ha
  obtain ⟨c, x, e, _⟩ := h
  rw [e] at z; cases z
def spPool (K : PySem.W.Frag) : Sp := fun vs H Q _ => ∃ (a : Addr) (ns : List Int) (k : Nat), vs = [.ref a, iN k] ∧ SqL K H a (ns.map V.int) ∧ k < 100 ∧ ∀ (H' : Hp) (p : Addr), H p = none → Mv [] H H' → PoolAt H' p → Q (.ref p) H'
theorem sc35 : FnScope ["_law_script", "_law_k", "_law_cell", "_law_mixed"] ["_law_script", "_law_k"] (defScope (top 35)) := ⟨rfl, rfl, rfl, by decide +kernel, rfl, by decide +kernel, by decide +kernel⟩
theorem ok_pool (D : DefAt K mg "_law_pool" (top 35)) (B : Bl mg) : LCal P w K mg base 1 "_law_pool" (spPool K) := by
  refine cal_of D sc35 (fun _ _ _ _ _ _ us hl => match us, hl with | [_, _], _ => rfl) (fun vs H Q E h => ?_) (fun f cdv A outer s H vs Q E hr h => ?_)
  · obtain ⟨a, ns, k, rfl, _⟩ := h
    rfl
  · obtain ⟨a, ns, k, rfl, hq, hk, kq⟩ := h
    have nd := sc35.nd
    refine ⟨_, (pss_cons (ps_set (i := 2) nd rfl (Or.inl rfl) pe_int)
 (pss_cons (ps_if (pt_cmpR op_lt (pv 1) (pe_callB call_len_seq (by rfl) B.len PySem.boot_len (pa_cons (pv 0) pa_nil)) (nomark _))
 (pss_one (ps_set (i := 2) nd rfl (Or.inl rfl) (pe_callB call_abs (by rfl) B.abs (by decide +kernel) (pa_cons (pe_ix ix_list (pv 0) (pv 1) (fun _ _ => rfl)) pa_nil))))
 pss_nil)
 (pss_cons (ps_set (i := 3) nd rfl (Or.inl rfl) (pe_op op_mod (pe_op op_mul (pe_op op_add (pe_op op_add (pe_op op_mod (pv 2) pe_int) (pe_op op_mul pe_int (pv 1))) pe_int) pe_int) pe_int))
 (pss_one (ps_ret (pe_lst (pa_cons (pe_op op_mul (pv 2) (pe_callTy call_int1 (by rfl) B.int (by decide +kernel) (pa_cons (pe_cmpR op_ge (pv 2) (pe_op op_pow pe_int pe_int) (nomark _)) pa_nil))) (pa_cons (pv 3) pa_nil)))))))), ?_⟩
    have fin : ∀ c : Nat, ∀ x2 : Option V, tSeq (tAsg (tOp (rI (fun _ j => 0 < j) fun i j => V.int (i % j)) (tOp (rI CMul fun i j => V.int (i * j)) (tOp (rI0 fun i j => V.int (i + j)) (tOp (rI0 fun i j => V.int (i + j)) (tOp (rI (fun _ j => 0 < j) fun i j => V.int (i % j)) (tVar 2) (tC (V.int 2147483587))) (tOp (rI CMul fun i j => V.int (i * j)) (tC (V.int 4409)) (tVar 1))) (tC (V.int 23))) (tC (V.int 48271))) (tC (V.int 2147483647))) (gName 3))
        (tRet (tLst (tCons (tOp (rI CMul fun i j => V.int (i * j)) (tVar 2) (tCB (fun xs H Q => (∃ i, xs = [V.int i] ∧ Q (V.int i) H) ∨ ∃ k, xs = [V.bl k] ∧ Q (V.int (if k = true then 1 else 0)) H) (tCons (tOp (rI0 fun i j => V.bl (decide (j ≤ i))) (tVar 2) (tOp (rI CPow fun i j => V.int (i ^ j.toNat)) (tC (V.int 10)) (tC (V.int 18)))) tNil))) (tCons (tVar 3) tNil)))) { nx := fun _ H' => Q .non H', rt := Q } [some (.ref a), some (iN k), some (iN c), x2] H := by
      intro c x2
      refine ⟨_, rfl, _, _, rfl, rfl, (by show (0 : Int) < 2147483587; decide), ?_⟩
      refine ⟨_, rfl, _, _, rfl, rfl, .inl ⟨by decide, by decide⟩, _, _, rfl, rfl, _, _, rfl, rfl, _, _, rfl, rfl, .inr ⟨by decide, by decide⟩, _, _, rfl, rfl, (by show (0 : Int) < 2147483647; decide), ?_⟩
      refine ⟨_, rfl, _, rfl, _, _, rfl, rfl, ⟨by decide, by decide, by decide⟩, _, _, rfl, rfl, .inr ⟨_, rfl, _, _, rfl, rfl, .inr ?_, ?_⟩⟩
      · split <;> exact ⟨by decide, by decide⟩
      · refine ⟨_, rfl, (by show 2 ≤ sizeLine; decide), fun p np => ?_⟩
        refine kq _ p np (Mv.new np) ?_
        obtain ⟨m, hm, hlt⟩ : ∃ m : Nat, ((c : Int) % 2147483587 + 4409 * (k : Nat) + 23) * 48271 % 2147483647 = (m : Int) ∧ m < 2 ^ 31 := by
          refine ⟨(((c : Int) % 2147483587 + 4409 * (k : Nat) + 23) * 48271 % 2147483647).toNat, ?_, ?_⟩
          · have := Int.emod_nonneg (((c : Int) % 2147483587 + 4409 * (k : Nat) + 23) * 48271) (by decide : (2147483647 : Int) ≠ 0)
            omega
          · have := Int.emod_lt_of_pos (((c : Int) % 2147483587 + 4409 * (k : Nat) + 23) * 48271) (by decide : (0 : Int) < 2147483647)
            omega
        by_cases z : decide ((10 : Int) ^ (18 : Int).toNat ≤ (c : Int)) = true
        · refine ⟨c, m, ?_, hlt⟩
          rw [upd_same]
          show some (HO.lst [V.int ((c : Int) * (if decide ((10 : Int) ^ (18 : Int).toNat ≤ (c : Int)) = true then 1 else 0)), V.int (((c : Int) % 2147483587 + 4409 * (k : Nat) + 23) * 48271 % 2147483647)]) = _
          rw [if_pos z, hm, Int.mul_one]
        · refine ⟨0, m, ?_, hlt⟩
          rw [upd_same]
          show some (HO.lst [V.int ((c : Int) * (if decide ((10 : Int) ^ (18 : Int).toNat ≤ (c : Int)) = true then 1 else 0)), V.int (((c : Int) % 2147483587 + 4409 * (k : Nat) + 23) * 48271 % 2147483647)]) = _
          rw [if_neg z, hm, Int.mul_zero]; rfl
    refine ⟨_, rfl, _, rfl, a, _, rfl, .inl hq, _, _, rfl, rfl, _, rfl, ?_⟩
    rw [List.length_map]
    refine ite2 (fun c => ?_) (fun c => ?_)
    · have hlt : k < ns.length := Int.ofNat_lt.mp (of_decide_eq_true c)
      have hg : (ns.map V.int)[k]? = some (.int ns[k]) := by rw [List.getElem?_map, List.getElem?_eq_getElem hlt]; rfl
      refine ⟨_, rfl, _, rfl, a, _, _, _, rfl, rfl, hq, atI_nat hg, ns[k], rfl, ?_⟩
      obtain ⟨n, hn⟩ : ∃ n : Nat, (if ns[k] < 0 then -ns[k] else ns[k]) = (n : Int) := ⟨(if ns[k] < 0 then -ns[k] else ns[k]).toNat, by split <;> omega⟩
      rw [hn]
      exact fin n none
    · exact fin 0 none
def spTake : Sp := fun vs H Q _ => ∃ (p : Addr) (n : Nat), vs = [.ref p, iN n] ∧ PoolAt H p ∧ 0 < n ∧ n < 2 ^ 20 ∧ ∀ (r : Nat) (H' : Hp), r < n → Mv [p] H H' → PoolAt H' p → Q (iN r) H'
theorem sc36 : FnScope ["_law_pool_here", "_law_size", "_law_found"] ["_law_pool_here", "_law_size"] (defScope (top 36)) := ⟨rfl, rfl, rfl, by decide +kernel, rfl, by decide +kernel, by decide +kernel⟩
theorem ok_take (D : DefAt K mg "_law_take" (top 36)) : LCal P w K mg base 1 "_law_take" spTake := by
  refine cal_of D sc36 (fun _ _ _ _ _ _ us hl => match us, hl with | [_, _], _ => rfl) (fun vs H Q E h => ?_) (fun f cdv A outer s H vs Q E hr h => ?_)
  · obtain ⟨p, n, rfl, _⟩ := h
    rfl
  · obtain ⟨p, n, rfl, ⟨c, x, hp, hx⟩, hn, hn2, kq⟩ := h
    have nd := sc36.nd
    refine ⟨_, (pss_cons (ps_if (pt_cmpR op_gt (pe_ix ix_list (pv 0) pe_int (fun _ _ => rfl)) pe_int (nomark _))
 (pss_cons (ps_set (i := 2) nd rfl (Or.inl rfl) (pe_op op_mod (pe_ix ix_list (pv 0) pe_int (fun _ _ => rfl)) (pv 1)))
 (pss_cons (ps_asg (pe_op op_fdiv (pe_ix ix_list (pv 0) pe_int (fun _ _ => rfl)) (pv 1)) (pg_sub (pv 0) pe_int set_list))
 (pss_one (ps_ret (pv 2)))))
 pss_nil)
 (pss_cons (ps_asg (pe_op op_mod (pe_op op_add (pe_op op_mul (pe_ix ix_list (pv 0) pe_int (fun _ _ => rfl)) pe_int) pe_int) pe_int) (pg_sub (pv 0) pe_int set_list))
 (pss_one (ps_ret (pe_op op_mod (pe_op op_fdiv (pe_op op_mod (pe_op op_mul (pe_ix ix_list (pv 0) pe_int (fun _ _ => rfl)) (pe_ix ix_list (pv 0) pe_int (fun _ _ => rfl))) pe_int) pe_int) (pv 1)))))), ?_⟩
    refine ⟨_, rfl, _, _, _, _, rfl, rfl, SqL.of hp, atI_nat (j := 0) rfl, _, _, rfl, rfl, _, rfl, ?_⟩
    refine ite2 (fun z => ?_) (fun z => ?_)
    · refine ⟨_, rfl, _, _, _, _, rfl, rfl, SqL.of hp, atI_nat (j := 0) rfl, _, rfl, _, _, rfl, rfl, (by show (0 : Int) < (n : Nat); omega), ?_⟩
      refine ⟨_, rfl, _, _, _, _, rfl, rfl, SqL.of hp, atI_nat (j := 0) rfl, _, rfl, _, _, rfl, rfl, ⟨by omega, by omega⟩, ?_⟩
      refine ⟨_, rfl, _, _, _, _, rfl, rfl, hp, ixN_nat (j := 0) (by show 0 < 2; decide), ?_⟩
      refine ⟨_, rfl, ?_⟩
      have e1 : ((c : Int) % (n : Nat)) = ((c % n : Nat) : Int) := by omega
      have e2 : ((c : Int) / (n : Nat)) = ((c / n : Nat) : Int) := by omega
      show Q (.int ((c : Int) % (n : Nat))) _
      rw [e1]
      exact kq (c % n) _ (Nat.mod_lt _ hn) (Mv.upd (by simp)) ⟨c / n, x, by rw [upd_same]; show some (HO.lst [V.int ((c : Int) / (n : Nat)), iN x]) = _; rw [e2], hx⟩
    · refine ⟨_, rfl, _, _, _, _, rfl, rfl, SqL.of hp, atI_nat (j := 1) rfl, _, _, rfl, rfl, .inr ⟨by decide, by decide⟩, _, _, rfl, rfl, _, _, rfl, rfl, (by show (0 : Int) < 2147483399; decide), ?_⟩
      refine ⟨_, rfl, _, _, _, _, rfl, rfl, hp, ixN_nat (j := 1) (by show 1 < 2; decide), ?_⟩
      have e1 : (((x : Int) * 40692 + 3791) % 2147483399) = (((x * 40692 + 3791) % 2147483399 : Nat) : Int) := by omega
      have hlt : (x * 40692 + 3791) % 2147483399 < 2147483399 := Nat.mod_lt _ (by decide)
      generalize (x * 40692 + 3791) % 2147483399 = y at *
      have hp2 : upd H p (.lst ([iN c, iN x].set 1 (.int (((x : Int) * 40692 + 3791) % 2147483399)))) p = some (.lst [iN c, iN y]) := by rw [upd_same, e1]; rfl
      have m2 : Mv [p] H (upd H p (.lst ([iN c, iN x].set 1 (.int (((x : Int) * 40692 + 3791) % 2147483399))))) := Mv.upd (by simp)
      generalize upd H p (.lst ([iN c, iN x].set 1 (.int (((x : Int) * 40692 + 3791) % 2147483399)))) = H2 at *
      refine ⟨_, rfl, _, _, _, _, rfl, rfl, SqL.of hp2, atI_nat (j := 1) rfl, _, rfl, _, _, _, _, rfl, rfl, SqL.of hp2, atI_nat (j := 1) rfl, _, _, rfl, rfl, .inl ⟨by omega, by omega⟩, _, _, rfl, rfl, (by show (0 : Int) < 2147483629; decide), _, _, rfl, rfl, ⟨by decide, by decide⟩, _, rfl, _, _, rfl, rfl, (by show (0 : Int) < (n : Nat); omega), ?_⟩
      have e3 : ((y : Int) * (y : Nat) % 2147483629 / 64 % (n : Nat)) = ((y * y % 2147483629 / 64 % n : Nat) : Int) := by
        have e4 : ((y : Int) * (y : Nat) % 2147483629 / 64) = ((y * y % 2147483629 / 64 : Nat) : Int) := by
          rw [show ((y : Int) * (y : Nat)) = ((y * y : Nat) : Int) from by rw [Int.natCast_mul]]
          omega
        rw [e4]
        generalize y * y % 2147483629 / 64 = q
        omega
      show Q (.int ((y : Int) * (y : Nat) % 2147483629 / 64 % (n : Nat))) H2
      rw [e3]
      exact kq _ H2 (Nat.mod_lt _ hn) m2 ⟨c, y, hp2, by omega⟩
end
end Lor
end

section
set_option Elab.async false
set_option linter.all false
set_option maxRecDepth 100000
set_option maxHeartbeats 4000000
namespace Lor
open PySem PySem.Spec PyProof.Rows L2
/-- targets of a hand -/
def TgOk (many h : Nat) (ts : List Nat) : Prop := ts.length ≤ 3 ∧ ∀ t ∈ ts, t ≤ many ∧ t ≠ h
def OwOk (many h : Nat) (own : List (List Nat)) : Prop := 1 ≤ own.length ∧ own.length ≤ 4 ∧ ∀ ts ∈ own, TgOk many h ts
section
variable {P : Program} {w : World} {K : PySem.W.Frag} {mg : Str → Option Value} {base : Heap}
def spLTabs : Sp := fun vs H Q _ => ∃ (p : Addr), vs = [.ref p, iN 4, iN 1] ∧ PoolAt H p ∧ ∀ (H' : Hp) (tabs : Tabs) (v : V), TabsOk tabs → TabsAt H' tabs v → Mv [p] H H' → PoolAt H' p → Q v H'
theorem sc37 : FnScope ["_law_pool_here", "_law_top", "_law_far", "_law_many", "_law_found", "_law_who", "_law_rows", "_law_turn", "_law_left", "_law_row", "_law_at", "_law_one"] ["_law_pool_here", "_law_top", "_law_far"] (defScope (top 37)) := ⟨rfl, rfl, rfl, by decide +kernel, rfl, by decide +kernel, by decide +kernel⟩
theorem ok_ltabs (D : DefAt K mg "_law_tables" (top 37)) (B : Bl mg) (TKE : LCal P w K mg base 1 "_law_take" spTake) : LCal P w K mg base 2 "_law_tables" spLTabs := by
  refine cal_of D sc37 (fun _ _ _ _ _ _ us hl => match us, hl with | [_, _, _], _ => rfl) (fun vs H Q E h => ?_) (fun f cdv A outer s H vs Q E hr h => ?_)
  · obtain ⟨p, rfl, _⟩ := h
    rfl
  · obtain ⟨p, rfl, hp, kq⟩ := h
    have nd := sc37.nd
    refine ⟨_, (pss_cons (ps_set (i := 3) nd rfl (Or.inl rfl) (pe_op op_add pe_int (pe_f TKE hr (by decide) (pa_cons (pv 0) (pa_cons (pe_op op_sub (pv 1) pe_int) pa_nil)))))
 (pss_cons (ps_set (i := 4) nd rfl (Or.inl rfl) (pe_lst pa_nil))
 (pss_cons (ps_for PassesOwn.never rfl (pi_range1 (by rfl) B.range (pa_cons (pv 3) pa_nil)) (pg_name (i := 5) nd rfl (Or.inr rfl))
 (pss_cons (ps_set (i := 6) nd rfl (Or.inl rfl) (pe_lst pa_nil))
 (pss_cons (ps_for PassesOwn.never rfl (pi_range1 (by rfl) B.range (pa_cons (pe_op op_add pe_int (pe_f TKE hr (by decide) (pa_cons (pv 0) (pa_cons pe_int pa_nil)))) pa_nil)) (pg_name (i := 7) nd rfl (Or.inl rfl))
 (pss_cons (ps_setLc (i := 8) (own := [("_law_one", 11)]) (g := gName 11) rfl nd rfl rfl (sw_true rfl rfl rfl (by decide +kernel)) (pi_range1 (by rfl) B.range (pa_cons (pe_op op_add (pv 3) (pv 2)) pa_nil)) (blkOk_by (own := [("_law_one", 11)]) (N := ["_law_pool_here", "_law_top", "_law_far", "_law_many", "_law_found", "_law_who", "_law_rows", "_law_turn", "_law_left", "_law_row", "_law_at", "_law_one"]) (sc := defScope (top 37)) (by decide +kernel)) (fun _ _ _ _ _ => (pg_name (i := 11) nd rfl (Or.inl rfl))) (fun _ _ _ _ _ => pts_one (pt_cmpR op_ne (pv 11) (pv 5) (nomark _))) (fun _ _ _ _ _ => (pv 11)))
 (pss_cons (ps_set (i := 9) nd rfl (Or.inl rfl) (pe_lst pa_nil))
 (pss_cons (ps_for PassesOwn.never rfl (pi_range1 (by rfl) B.range (pa_cons (pe_f TKE hr (by decide) (pa_cons (pv 0) (pa_cons pe_int pa_nil))) pa_nil)) (pg_name (i := 10) nd rfl (Or.inl rfl))
 (pss_one (ps_expr (pe_bm PySem.F.plainAttrs_list PySem.F.slot_list_append PySem.F.type_list_append mt_append (pv 9) (pa_cons (pe_ix ix_list (pv 8) (pe_f TKE hr (by decide) (pa_cons (pv 0) (pa_cons (pe_callB call_len_seq (by rfl) B.len PySem.boot_len (pa_cons (pv 8) pa_nil)) pa_nil))) (fun _ _ => rfl)) pa_nil)))))
 (pss_one (ps_expr (pe_bm PySem.F.plainAttrs_list PySem.F.slot_list_append PySem.F.type_list_append mt_append (pv 6) (pa_cons (pe_callTy call_tuple_of (by rfl) B.tuple (by decide +kernel) (pa_cons (pv 9) pa_nil)) pa_nil))))))))
 (pss_one (ps_expr (pe_bm PySem.F.plainAttrs_list PySem.F.slot_list_append PySem.F.type_list_append mt_append (pv 4) (pa_cons (pe_callTy call_tuple_of (by rfl) B.tuple (by decide +kernel) (pa_cons (pv 6) pa_nil)) pa_nil)))))))
 (pss_one (ps_ret (pe_callTy call_tuple_of (by rfl) B.tuple (by decide +kernel) (pa_cons (pv 4) pa_nil))))))), ?_⟩
    refine ⟨_, rfl, _, rfl, _, _, rfl, rfl, p, 3, rfl, hp, by decide, by decide, fun r0 H1 hr0 m1 hp1 => ⟨_, _, rfl, rfl, ?_⟩⟩
    obtain ⟨many, hmany⟩ : ∃ many : Nat, ((2 : Int) + (r0 : Nat)) = (many : Nat) ∧ 2 ≤ many ∧ many ≤ 4 := ⟨2 + r0, by omega, by omega, by omega⟩
    obtain ⟨em, hm2, hm4⟩ := hmany
    refine ⟨by decide, fun F nF => ?_⟩
    have eF : upd H1 F (.lst []) F = some (.lst []) := upd_same
    have m2 : Mv [p] H1 (upd H1 F (.lst [])) := Mv.new nF
    have hp2 : PoolAt (upd H1 F (.lst [])) p := hp1.mv (Mv.new (S := []) nF) (by simp)
    have pF : p ≠ F := by
      obtain ⟨c, x, e, _⟩ := hp1
      exact ne_none (some_ne e) nF
    generalize upd H1 F (.lst []) = H2 at *
    refine ⟨_, rfl, ((2 : Int) + (r0 : Nat)), rfl, by omega, by omega, ?_⟩
    refine for_range (lo := 0) (n := ((2 : Int) + (r0 : Nat)).toNat) (fun i σ G => (∃ x5 x6 x7 x8 x9 x10 x11, σ = [some (.ref p), some (iN 4), some (iN 1), some (iN many), some (.ref F), x5, x6, x7, x8, x9, x10, x11]) ∧ Mv [p] H1 G ∧ PoolAt G p ∧ ∃ vs tabs, G F = some (.lst vs) ∧ All2 (OwnAt G) tabs vs ∧ tabs.length = i ∧ ∀ h own, tabs[h]? = some own → OwOk many h own) ?_ ?_ ?_
    · exact ⟨⟨none, none, none, none, none, none, none, by show [some (V.ref p), some (iN 4), some (iN 1), some (V.int ((2 : Int) + (r0 : Nat))), some (V.ref F), none, none, none, none, none, none, none] = _; rw [em]⟩, m2, hp2, [], [], eF, .nil, rfl, fun h own e => by simp at e⟩
    · intro i σ G1 hi ⟨⟨x5, x6, x7, x8, x9, x10, x11, hσ⟩, mG, hpG, vs, tabs, hF, hA, hl, hok⟩
      subst hσ
      have hi4 : i < 4 := by omega
      rw [show ((0 : Int) + (i : Nat)) = (i : Nat) from Int.zero_add _]
      refine ⟨by decide, fun R nR => ?_⟩
      have eR : upd G1 R (.lst []) R = some (.lst []) := upd_same
      have mR : Mv [p] G1 (upd G1 R (.lst [])) := Mv.new nR
      have hpR : PoolAt (upd G1 R (.lst [])) p := hpG.mv (Mv.new (S := []) nR) (by simp)
      have FR : F ≠ R := ne_none (some_ne hF) nR
      have pR : p ≠ R := by
        obtain ⟨c, x, e, _⟩ := hpG
        exact ne_none (some_ne e) nR
      generalize upd G1 R (.lst []) = G2 at *
      refine ⟨_, rfl, p, 4, rfl, hpR, by decide, by decide, fun r1 G3 hr1 m3 hp3 => ⟨_, _, rfl, rfl, ((1 : Int) + (r1 : Nat)), rfl, by omega, by omega, ?_⟩⟩
      refine for_range (lo := 0) (n := ((1 : Int) + (r1 : Nat)).toNat) (fun j σ G => (∃ x7 x8 x9 x10 x11, σ = [some (.ref p), some (iN 4), some (iN 1), some (iN many), some (.ref F), some (iN i), some (.ref R), x7, x8, x9, x10, x11]) ∧ Mv [p] G1 G ∧ PoolAt G p ∧ ∃ ws own, G R = some (.lst ws) ∧ All2 (TgtAt G) own ws ∧ own.length = j ∧ ∀ ts ∈ own, TgOk many i ts) ?_ ?_ ?_
      · exact ⟨⟨_, _, _, _, _, rfl⟩, mR.trans m3, hp3, [], [], m3.at eR (by simp; exact pR.symm), .nil, rfl, by simp⟩
      · intro j σ G4 hj ⟨⟨x7, x8, x9, x10, x11, hσ⟩, m4, hp4, ws, own, hR, hO, hol, hts⟩
        subst hσ
        refine ⟨_, rfl, _, rfl, _, _, rfl, rfl, ((many : Int) + 1), rfl, by omega, by omega, fun L nL => ?_⟩
        have en : ((many : Int) + 1).toNat = many + 1 := by omega
        refine lc_range (lo := 0) (n := ((many : Int) + 1).toNat) (fun k G => Mv [] G4 G ∧ NatsL G L ((List.range k).filter fun t => decide (t ≠ i))) ⟨Mv.new nL, upd_same⟩ ?_ ?_
        · intro k G5 hk ⟨m5, hL⟩
          rw [show ((0 : Int) + (k : Nat)) = (k : Nat) from Int.zero_add _]
          refine ⟨rfl, _, rfl, _, rfl, rfl, _, rfl, ?_⟩
          have es : (List.range (k + 1)).filter (fun t => decide (t ≠ i)) = (List.range k).filter (fun t => decide (t ≠ i)) ++ (if k ≠ i then [k] else []) := by
            rw [List.range_succ, List.filter_append]
            congr 1
            rw [List.filter_cons, List.filter_nil]
            by_cases z : k = i <;> simp [z]
          rw [es]
          refine ite2 (fun z => ?_) (fun z => ?_)
          · have z' : k ≠ i := fun e => by
              have z2 : (!decide (iN k = iN i)) = true := z
              rw [dec_iN, decide_eq_true e] at z2; cases z2
            rw [if_pos z']
            refine ⟨_, rfl, _, hL, ?_, m5.own nL, ?_⟩
            · rw [List.length_map]
              refine Nat.lt_of_le_of_lt (List.length_filter_le _ _) ?_
              rw [List.length_range]
              exact Nat.lt_of_le_of_lt (by omega : _ ≤ 100) (by decide)
            · unfold NatsL
              rw [upd_same, List.map_append]; rfl
          · have z' : ¬ k ≠ i := fun e => z (by
              show (!decide (iN k = iN i)) = true
              rw [dec_iN, decide_eq_false e]; rfl)
            rw [if_neg z', List.append_nil]
            exact ⟨m5, hL⟩
        · intro G5 ⟨m5, hL⟩
          rw [en] at hL
          have hlf : ∀ t ∈ (List.range (many + 1)).filter (fun t => decide (t ≠ i)), t ≤ many ∧ t ≠ i := by
            intro t ht
            obtain ⟨h1, h2⟩ := List.mem_filter.mp ht
            rw [List.mem_range] at h1
            exact ⟨by omega, by simpa using h2⟩
          have hln : 0 < ((List.range (many + 1)).filter (fun t => decide (t ≠ i))).length := by
            refine List.length_pos_of_mem (a := if i = 0 then 1 else 0) (List.mem_filter.mpr ⟨?_, ?_⟩)
            · rw [List.mem_range]; split <;> omega
            · split <;> simp <;> omega
          have hlu : ((List.range (many + 1)).filter (fun t => decide (t ≠ i))).length ≤ 5 := by
            refine Nat.le_trans (List.length_filter_le _ _) ?_
            rw [List.length_range]; omega
          generalize (List.range (many + 1)).filter (fun t => decide (t ≠ i)) = lf at *
          have hp5 := hp4.mv m5 (by simp)
          refine ⟨by decide, fun W nW => ?_⟩
          have eW : NatsL (upd G5 W (.lst [])) W [] := upd_same
          have mW : Mv [p] G5 (upd G5 W (.lst [])) := Mv.new nW
          have hpW : PoolAt (upd G5 W (.lst [])) p := hp5.mv (Mv.new (S := []) nW) (by simp)
          have LW : L ≠ W := ne_none (some_ne hL) nW
          have pW : p ≠ W := by
            obtain ⟨c, x, e, _⟩ := hp5
            exact ne_none (some_ne e) nW
          have pL : p ≠ L := by
            obtain ⟨c, x, e, _⟩ := hp4
            exact ne_none (some_ne e) nL
          have hLW : NatsL (upd G5 W (.lst [])) L lf := (Mv.new (S := []) nW).at hL (by simp)
          generalize upd G5 W (.lst []) = G6 at *
          refine ⟨_, rfl, p, 4, rfl, hpW, by decide, by decide, fun r2 G7 hr2 m7 hp7 => ⟨(r2 : Int), rfl, by omega, by omega, ?_⟩⟩
          refine for_range (lo := 0) (n := ((r2 : Nat) : Int).toNat) (fun k σ G => (∃ x7 x10 x11, σ = [some (.ref p), some (iN 4), some (iN 1), some (iN many), some (.ref F), some (iN i), some (.ref R), x7, some (.ref L), some (.ref W), x10, x11]) ∧ Mv [p] G5 G ∧ PoolAt G p ∧ ∃ ts, NatsL G W ts ∧ ts.length = k ∧ ∀ t ∈ ts, t ≤ many ∧ t ≠ i) ?_ ?_ ?_
          · exact ⟨⟨_, _, _, rfl⟩, mW.trans m7, hp7, [], m7.at eW (by simp; exact pW.symm), rfl, by simp⟩
          · intro k σ G8 hk ⟨⟨x7, x10, x11, hσ⟩, m8, hp8, ts, hW, htl, hto⟩
            subst hσ
            have hL8 : NatsL G8 L lf := m8.at hL (by simp; exact pL.symm)
            refine ⟨_, rfl, .inl ⟨rfl, _, SqL.of hW⟩, ?_⟩
            refine ⟨_, rfl, _, rfl, _, rfl, L, _, rfl, .inl (SqL.of hL8), p, lf.length, by rw [List.length_map]; rfl, hp8, hln, by omega, fun r3 G9 hr3 m9 hp9 => ?_⟩
            have hL9 : NatsL G9 L lf := m9.at hL8 (by simp; exact pL.symm)
            have hW9 : NatsL G9 W ts := m9.at hW (by simp; exact pW.symm)
            refine ⟨_, _, _, _, rfl, rfl, SqL.of hL9, atI_nat (nats_get (getD_get hr3)), _, _, _, rfl, rfl, hW9, ?_, ?_⟩
            · rw [List.length_map, htl]; exact Nat.lt_of_lt_of_le hk (Nat.le_trans (by omega : _ ≤ 10) (by decide))
            · refine ⟨⟨_, _, _, rfl⟩, ?_, ?_, ts ++ [lf.getD r3 0], ?_, ?_, ?_⟩
              · exact (((m8.trans m9).mono (S' := p :: [W]) (by simp)).trans (Mv.upd (by simp))).weak (by simp [nW])
              · exact hp9.mv (Mv.upd (S := [W]) (by simp)) (by simp; exact pW)
              · unfold NatsL; rw [upd_same, List.map_append]; rfl
              · rw [List.length_append, htl]; rfl
              · intro t ht
                rcases List.mem_append.mp ht with h | h
                · exact hto t h
                · rw [List.mem_singleton] at h
                  rw [h]
                  exact hlf _ (mem_getD hr3)
          · intro σ G8 ⟨⟨x7, x10, x11, hσ⟩, m8, hp8, ts, hW, htl, hto⟩
            subst hσ
            have m48 : Mv [p] G4 G8 := (m5.mono (by simp)).trans m8
            have hR8 := m48.at hR (by simp; exact pR.symm)
            refine ⟨_, rfl, .inl ⟨rfl, _, SqL.of hR8⟩, _, rfl, W, _, rfl, .inl ⟨SqL.of hW, fun q nq => ?_⟩⟩
            have eq : upd G8 q (.tup (ts.map iN)) q = some (.tup (ts.map iN)) := upd_same
            have mq : Mv [] G8 (upd G8 q (.tup (ts.map iN))) := Mv.new nq
            have hRq := mq.at hR8 (by simp)
            have hpq := hp8.mv mq (by simp)
            have kq8 : TK G4 (upd G8 q (.tup (ts.map iN))) := (hp4.tk m48).trans mq.tk0
            have m4q : Mv [p] G1 (upd G8 q (.tup (ts.map iN))) := (m4.trans m48).trans (mq.mono (by simp))
            generalize upd G8 q (.tup (ts.map iN)) = G9 at *
            refine ⟨_, _, _, rfl, rfl, hRq, ?_, ?_⟩
            · rw [← hO.len, hol]; exact Nat.lt_of_lt_of_le hj (Nat.le_trans (by omega : _ ≤ 10) (by decide))
            · have kk : TK G9 (upd G9 R (.lst (ws ++ [.ref q]))) := TK.upd fun xs z => by rw [hRq] at z; cases z
              refine ⟨⟨_, _, _, _, _, rfl⟩, ?_, hpq.mv (Mv.upd (S := [R]) (by simp)) (by simp; exact pR), ws ++ [.ref q], own ++ [ts], upd_same, ?_, ?_, ?_⟩
              · exact ((m4q.mono (S' := p :: [R]) (by simp)).trans (Mv.upd (by simp))).weak (by simp [nR])
              · exact All2.snoc ⟨q, rfl, kk _ _ eq⟩ (hO.imp fun _ _ z => (z.mono kq8).mono kk)
              · rw [List.length_append, hol]; rfl
              · intro t ht
                rcases List.mem_append.mp ht with h | h
                · exact hts t h
                · rw [List.mem_singleton] at h
                  rw [h]
                  exact ⟨by omega, hto⟩
      · intro σ G4 ⟨⟨x7, x8, x9, x10, x11, hσ⟩, m4, hp4, ws, own, hR, hO, hol, hts⟩
        subst hσ
        have hF4 := m4.at hF (by simp; exact pF.symm)
        refine ⟨_, rfl, .inl ⟨rfl, _, SqL.of hF4⟩, _, rfl, R, _, rfl, .inl ⟨SqL.of hR, fun q nq => ?_⟩⟩
        have eq : upd G4 q (.tup ws) q = some (.tup ws) := upd_same
        have mq : Mv [] G4 (upd G4 q (.tup ws)) := Mv.new nq
        have hFq := mq.at hF4 (by simp)
        have hpq := hp4.mv mq (by simp)
        have kq4 : TK G1 (upd G4 q (.tup ws)) := (hpG.tk m4).trans mq.tk0
        have m4q : Mv [p] H1 (upd G4 q (.tup ws)) := (mG.trans m4).trans (mq.mono (by simp))
        have hOq := hO.imp fun _ _ z => z.mono mq.tk0
        generalize upd G4 q (.tup ws) = G5 at *
        refine ⟨_, _, _, rfl, rfl, hFq, ?_, ?_⟩
        · rw [← hA.len, hl]; exact Nat.lt_of_lt_of_le hi4 (by decide)
        · have kk : TK G5 (upd G5 F (.lst (vs ++ [.ref q]))) := TK.upd fun xs z => by rw [hFq] at z; cases z
          refine ⟨⟨_, _, _, _, _, _, _, rfl⟩, ?_, hpq.mv (Mv.upd (S := [F]) (by simp)) (by simp; exact pF), vs ++ [.ref q], tabs ++ [own], upd_same, ?_, ?_, ?_⟩
          · exact ((m4q.mono (S' := p :: [F]) (by simp)).trans (Mv.upd (by simp))).weak (by simp [nF])
          · exact All2.snoc ⟨q, ws, rfl, kk _ _ eq, hOq.imp fun _ _ z => z.mono kk⟩ (hA.imp fun _ _ z => (z.mono kq4).mono kk)
          · rw [List.length_append, hl]; rfl
          · intro h own' e
            rw [List.getElem?_append] at e
            split at e
            · exact hok h own' e
            · next z =>
              have e2 : h - tabs.length = 0 := by
                have := lt_of_get e
                simpa using this
              rw [e2] at e
              cases e
              have : h = i := by omega
              subst this
              exact ⟨by omega, by omega, hts⟩
    · intro σ G ⟨⟨x5, x6, x7, x8, x9, x10, x11, hσ⟩, mG, hpG, vs, tabs, hF, hA, hl, hok⟩
      subst hσ
      have hl' : tabs.length = many := by rw [hl]; omega
      refine ⟨_, rfl, F, _, rfl, .inl ⟨SqL.of hF, fun q nq => ?_⟩⟩
      have mq : Mv [] G (upd G q (.tup vs)) := Mv.new nq
      refine kq _ tabs _ ⟨by omega, by omega, fun h own e => ?_⟩ ⟨q, vs, rfl, upd_same, hA.imp fun _ _ z => z.mono mq.tk0⟩ ((m1.trans mG).trans (mq.mono (by simp))) (hpG.mv mq (by simp))
      rw [hl']
      exact hok h own e
end
end Lor
end

section
set_option Elab.async false
set_option linter.all false
set_option maxRecDepth 100000
set_option maxHeartbeats 4000000
namespace Lor
open PySem PySem.Spec PyProof.Rows L2
/-! the law's own town -/
structure LoA where
  d : Addr
  lr : Addr
  lw : Addr
  lh : Addr
  lf : Addr
  lb : Addr
def LoA.all (A : LoA) : List Addr := [A.d, A.lr, A.lw, A.lh]
def loF (A : LoA) (tv : V) (many : Nat) : List (Key × V) := [(.inr "tables", tv), (.inr "kind", .str "free"), (.inr "many", iN many), (.inr "rows", .ref A.lr), (.inr "written", .ref A.lw), (.inr "heard", .ref A.lh), (.inr "fell", .ref A.lf), (.inr "from", .ref A.lb)]
structure LTownAt (tabs : Tabs) (H : Hp) (rows : List Row) (wr : List Nat) (A : LoA) (n : Nat) : Prop where
  nd : A.all.Nodup
  tab : ∃ tv, TabsAt H tabs tv ∧ H A.d = some (.dK (loF A tv tabs.length))
  rows : LstR H A.lr (RowAt H) rows
  wr : NatsL H A.lw wr
  heard : ∃ vs, H A.lh = some (.lst vs) ∧ vs.length ≤ n
section
variable {tabs : Tabs} {H H' : Hp} {rows : List Row} {wr : List Nat} {A : LoA} {n : Nat}
theorem LTownAt.live (h : LTownAt tabs H rows wr A n) : ∀ a ∈ A.all, ∃ o, H a = some o ∧ ∀ xs, o ≠ .tup xs := by
  intro a ha
  simp only [LoA.all, List.mem_cons, List.not_mem_nil, or_false] at ha
  rcases ha with rfl | rfl | rfl | rfl
  · obtain ⟨tv, _, e⟩ := h.tab
    exact ⟨_, e, fun _ z => by cases z⟩
  · obtain ⟨vs, e, _⟩ := h.rows
    exact ⟨_, e, fun _ z => by cases z⟩
  · exact ⟨_, h.wr, fun _ z => by cases z⟩
  · obtain ⟨vs, e, _⟩ := h.heard
    exact ⟨_, e, fun _ z => by cases z⟩
theorem LTownAt.frame (h : LTownAt tabs H rows wr A n) (k : TK H H') (s : ∀ a ∈ A.all, H' a = H a) : LTownAt tabs H' rows wr A n where
  nd := h.nd
  tab := by
    obtain ⟨tv, a, b⟩ := h.tab
    exact ⟨tv, a.mono k, by rw [s _ (by simp [LoA.all])]; exact b⟩
  rows := h.rows.mono (s _ (by simp [LoA.all])) fun _ _ z => z.mono k
  wr := by unfold NatsL; rw [s _ (by simp [LoA.all])]; exact h.wr
  heard := by rw [s _ (by simp [LoA.all])]; exact h.heard
theorem LTownAt.move {S : List Addr} (h : LTownAt tabs H rows wr A n) (m : Mv S H H') (k : TK H H') (d : ∀ a ∈ A.all, a ∉ S) : LTownAt tabs H' rows wr A n := h.frame k fun a ha => by
  obtain ⟨o, e, _⟩ := h.live a ha
  rw [e]; exact m.at e (d a ha)
theorem LTownAt.mv (h : LTownAt tabs H rows wr A n) (m : Mv [] H H') : LTownAt tabs H' rows wr A n := h.move m m.tk0 (by simp)
theorem LTownAt.tkU (h : LTownAt tabs H rows wr A n) {a : Addr} {o : HO} (ha : a ∈ A.all) : TK H (upd H a o) := TK.upd fun xs z => by
  obtain ⟨o, e, nn⟩ := h.live a ha
  rw [e] at z
  exact nn xs (Option.some.inj z)
theorem LTownAt.fresh (h : LTownAt tabs H rows wr A n) {L : Addr} (e : H L = none) : L ∉ A.all := fun z => by
  obtain ⟨o, e2, _⟩ := h.live L z
  rw [e2] at e; cases e
structure LoNe (A : LoA) : Prop where
  dr : A.d ≠ A.lr
  dw : A.d ≠ A.lw
  dh : A.d ≠ A.lh
  rw : A.lr ≠ A.lw
  rh : A.lr ≠ A.lh
  wh : A.lw ≠ A.lh
theorem LoNe.of (h : A.all.Nodup) : LoNe A := by
  unfold LoA.all at h
  simp only [List.nodup_cons, List.mem_cons, not_or, List.not_mem_nil, not_false_eq_true, and_true, List.nodup_nil] at h
  obtain ⟨⟨a1, a2, a3⟩, ⟨b1, b2⟩, c1⟩ := h
  exact ⟨a1, a2, a3, b1, b2, c1⟩
theorem LTownAt.setRows (h : LTownAt tabs H rows wr A n) {vs : List V} {rows' : List Row} (a : All2 (RowAt H) rows' vs) : LTownAt tabs (upd H A.lr (.lst vs)) rows' wr A n := by
  have ne := LoNe.of h.nd
  have k : TK H (upd H A.lr (.lst vs)) := h.tkU (by simp [LoA.all])
  obtain ⟨tv, t1, t2⟩ := h.tab
  refine ⟨h.nd, ⟨tv, t1.mono k, by rw [upd_ne ne.dr]; exact t2⟩, ⟨vs, upd_same, a.imp fun _ _ z => z.mono k⟩, ?_, ?_⟩
  · unfold NatsL; rw [upd_ne ne.rw.symm]; exact h.wr
  · rw [upd_ne ne.rh.symm]; exact h.heard
theorem LTownAt.addRow (h : LTownAt tabs H rows wr A n) {r : Row} {v : V} {vs : List V} (e : H A.lr = some (.lst vs)) (ra : RowAt H r v) : LTownAt tabs (upd H A.lr (.lst (vs ++ [v]))) (rows ++ [r]) wr A n := by
  obtain ⟨vs', e', a⟩ := h.rows
  rw [e] at e'
  cases e'
  exact h.setRows (a.snoc ra)
theorem LTownAt.setWr (h : LTownAt tabs H rows wr A n) {ns : List Nat} : LTownAt tabs (upd H A.lw (.lst (ns.map iN))) rows ns A n := by
  have ne := LoNe.of h.nd
  have k : TK H (upd H A.lw (.lst (ns.map iN))) := h.tkU (by simp [LoA.all])
  obtain ⟨tv, t1, t2⟩ := h.tab
  refine ⟨h.nd, ⟨tv, t1.mono k, by rw [upd_ne ne.dw]; exact t2⟩, ?_, upd_same, ?_⟩
  · exact h.rows.mono (upd_ne ne.rw) fun _ _ z => z.mono k
  · rw [upd_ne ne.wh.symm]; exact h.heard
theorem LTownAt.addHeard (h : LTownAt tabs H rows wr A n) {v : V} {vs : List V} (e : H A.lh = some (.lst vs)) : LTownAt tabs (upd H A.lh (.lst (vs ++ [v]))) rows wr A (n + 1) := by
  have ne := LoNe.of h.nd
  have k : TK H (upd H A.lh (.lst (vs ++ [v]))) := h.tkU (by simp [LoA.all])
  obtain ⟨tv, t1, t2⟩ := h.tab
  obtain ⟨vs', e', l⟩ := h.heard
  rw [e] at e'
  cases e'
  refine ⟨h.nd, ⟨tv, t1.mono k, by rw [upd_ne ne.dh]; exact t2⟩, ?_, ?_, ⟨_, upd_same, by rw [List.length_append]; exact Nat.succ_le_succ l⟩⟩
  · exact h.rows.mono (upd_ne ne.rh) fun _ _ z => z.mono k
  · unfold NatsL; rw [upd_ne ne.wh]; exact h.wr
end
theorem lo_tables {A : LoA} {tv : V} {m : Nat} : valV (loF A tv m) (.inr "tables") = some tv := rfl
theorem lo_kind {A : LoA} {tv : V} {m : Nat} : valV (loF A tv m) (.inr "kind") = some (.str "free") := rfl
theorem lo_many {A : LoA} {tv : V} {m : Nat} : valV (loF A tv m) (.inr "many") = some (iN m) := rfl
theorem lo_rows {A : LoA} {tv : V} {m : Nat} : valV (loF A tv m) (.inr "rows") = some (.ref A.lr) := rfl
theorem lo_wr {A : LoA} {tv : V} {m : Nat} : valV (loF A tv m) (.inr "written") = some (.ref A.lw) := rfl
theorem lo_heard {A : LoA} {tv : V} {m : Nat} : valV (loF A tv m) (.inr "heard") = some (.ref A.lh) := rfl
theorem dgk {H : Hp} {a : Addr} {kvs : List (Key × V)} {k : Key} {v : V} (e : H a = some (.dK kvs)) (x : valV kvs k = some v) : DGet H a (kV k) (some v) := by
  rw [← x]; exact DGet.k e
section
variable {P : Program} {w : World} {K : PySem.W.Frag} {mg : Str → Option Value} {base : Heap} {tabs : Tabs}
def spLTown (tabs : Tabs) : Sp := fun vs H Q _ => ∃ (tv : V), vs = [tv, .str "free"] ∧ TabsAt H tabs tv ∧ TabsOk tabs ∧ ∀ (A : LoA) (H' : Hp), Mv [] H H' → (∀ a ∈ A.all, H a = none) → LTownAt tabs H' [] (List.replicate tabs.length 0) A 0 → Q (.ref A.d) H'
theorem sc38 : FnScope ["_law_tables_here", "_law_kind"] ["_law_tables_here", "_law_kind"] (defScope (top 38)) := ⟨rfl, rfl, rfl, by decide +kernel, rfl, by decide +kernel, by decide +kernel⟩
theorem ok_ltown (D : DefAt K mg "_law_town" (top 38)) (B : Bl mg) : LCal P w K mg base 1 "_law_town" (spLTown tabs) := by
  refine cal_of D sc38 (fun _ _ _ _ _ _ us hl => match us, hl with | [_, _], _ => rfl) (fun vs H Q E h => ?_) (fun f cdv A outer s H vs Q E hr h => ?_)
  · obtain ⟨tv, rfl, _⟩ := h
    rfl
  · obtain ⟨tv, rfl, htv, ok, kq⟩ := h
    have nd := sc38.nd
    have h4 := ok.four
    refine ⟨_, (pss_one (ps_ret (pe_disp (pps_cons pe_str (pv 0) (pps_cons pe_str (pv 1) (pps_cons pe_str (pe_callB call_len_seq (by rfl) B.len PySem.boot_len (pa_cons (pv 0) pa_nil)) (pps_cons pe_str (pe_lst pa_nil) (pps_cons pe_str (pe_op op_rep (pe_lst (pa_cons pe_int pa_nil)) (pe_callB call_len_seq (by rfl) B.len PySem.boot_len (pa_cons (pv 0) pa_nil))) (pps_cons pe_str (pe_lst pa_nil) (pps_cons pe_str (pe_lst pa_nil) (pps_cons pe_str (pe_op op_rep (pe_lst (pa_cons pe_int pa_nil)) (pe_callB call_len_seq (by rfl) B.len PySem.boot_len (pa_cons (pv 0) pa_nil))) pps_nil)))))))) (by rfl) (by rfl) (fun z => by cases z) (by decide)))), ?_⟩
    obtain ⟨tb, tvs, rfl, htb, htA⟩ := htv
    have hvl : tvs.length = tabs.length := htA.len.symm
    refine fun d ndd => ?_
    have ed : upd H d (.dK []) d = some (.dK []) := upd_same
    have m0 : Mv [] H (upd H d (.dK [])) := Mv.new ndd
    generalize upd H d (.dK []) = H0 at *
    refine ⟨_, rfl, _, rfl, _, rfl, tb, _, rfl, .inr (SqT.of (m0.at htb (by simp))), ?_⟩
    refine ⟨by decide, fun lr nlr => ?_⟩
    have er : upd H0 lr (.lst []) lr = some (.lst []) := upd_same
    have m1 : Mv [] H0 (upd H0 lr (.lst [])) := Mv.new nlr
    generalize upd H0 lr (.lst []) = H1 at *
    have m01 := m0.trans m1
    have ln : ∀ {G : Hp} {Q : VK}, Mv [] H G → Q (iN tabs.length) G → tCB (fun xs H Q => ∃ p ys, xs = [V.ref p] ∧ (SqL K H p ys ∨ SqT K H p ys) ∧ Q (V.int ys.length) H) (tCons (tVar 0) tNil) [some (.ref tb), some (.str "free")] G Q := fun m q => ⟨_, rfl, tb, _, rfl, .inr (SqT.of (m.at htb (by simp))), by rw [hvl]; exact q⟩
    refine rd_rep2 (m := tabs.length) (fun H' Q m q => ln (m01.trans m) q) (by omega) fun lw H2 nlw ew m2 => ?_
    have m02 := m01.trans m2
    refine ⟨by decide, fun lh nlh => ?_⟩
    have eh : upd H2 lh (.lst []) lh = some (.lst []) := upd_same
    have m3 : Mv [] H2 (upd H2 lh (.lst [])) := Mv.new nlh
    generalize upd H2 lh (.lst []) = H3 at *
    refine ⟨by decide, fun lf nlf => ?_⟩
    have m4 : Mv [] H3 (upd H3 lf (.lst [])) := Mv.new nlf
    generalize upd H3 lf (.lst []) = H4 at *
    have m04 := (m02.trans m3).trans m4
    refine rd_rep2 (m := tabs.length) (fun H' Q m q => ln (m04.trans m) q) (by omega) fun lb H5 nlb eb m5 => ?_
    have m05 := m04.trans m5
    have m15 := ((m2.trans m3).trans m4).trans m5
    have m25 := (m3.trans m4).trans m5
    have m35 := m4.trans m5
    refine ⟨(m1.trans m15).at ed (by simp), [(.inr "tables", .ref tb), (.inr "kind", .str "free"), (.inr "many", .int (tvs.length : Nat)), (.inr "rows", .ref lr), (.inr "written", .ref lw), (.inr "heard", .ref lh), (.inr "fell", .ref lf), (.inr "from", .ref lb)], rfl, by simp, ?_⟩
    have em : mergeK [] [((Sum.inr "tables" : Key), V.ref tb), (.inr "kind", .str "free"), (.inr "many", .int (tvs.length : Nat)), (.inr "rows", .ref lr), (.inr "written", .ref lw), (.inr "heard", .ref lh), (.inr "fell", .ref lf), (.inr "from", .ref lb)] = loF ⟨d, lr, lw, lh, lf, lb⟩ (.ref tb) tabs.length := by rw [hvl]; rfl
    rw [em]
    have dl : d ≠ lr := ne_none (some_ne ed) nlr
    have dw : d ≠ lw := ne_none (some_ne (m1.at ed (by simp))) nlw
    have dh : d ≠ lh := ne_none (some_ne ((m1.trans m2).at ed (by simp))) nlh
    have rw' : lr ≠ lw := ne_none (some_ne er) nlw
    have rh : lr ≠ lh := ne_none (some_ne (m2.at er (by simp))) nlh
    have wh : lw ≠ lh := ne_none (some_ne ew) nlh
    have mm : Mv [] H (upd H5 d (.dK (loF ⟨d, lr, lw, lh, lf, lb⟩ (.ref tb) tabs.length))) := m05.own ndd
    refine kq ⟨d, lr, lw, lh, lf, lb⟩ _ mm ?_ ?_
    · simp [LoA.all, ndd, m0.none nlr, m01.none nlw, m02.none nlh]
    · refine ⟨?_, ⟨.ref tb, ⟨tb, tvs, rfl, mm.at htb (by simp), htA.imp fun _ _ z => z.mono mm.tk0⟩, upd_same⟩, ⟨[], ?_, .nil⟩, ?_, ⟨[], ?_, Nat.le_refl _⟩⟩
      · simp only [LoA.all, List.nodup_cons, List.mem_cons, not_or, List.not_mem_nil, not_false_eq_true, and_true, List.nodup_nil]
        exact ⟨⟨dl, dw, dh⟩, ⟨rw', rh⟩, wh⟩
      · show upd _ _ _ lr = _
        rw [upd_ne dl.symm]; exact m15.at er (by simp)
      · unfold NatsL
        show upd _ _ _ lw = _
        rw [upd_ne dw.symm, List.map_replicate]; exact m25.at ew (by simp)
      · show upd _ _ _ lh = _
        rw [upd_ne dh.symm]; exact m35.at eh (by simp)
/-! count -/
def spLCount (tabs : Tabs) : Sp := fun vs H Q _ => ∃ (A : LoA) (rows : List Row) (wr : List Nat) (n h : Nat), vs = [.ref A.d, iN h] ∧ LTownAt tabs H rows wr A n ∧ rows.length ≤ 1000 ∧ ∀ H', Mv [] H H' → Q (iN (count rows h)) H'
theorem sc40 : FnScope ["_law_town_here", "_law_who", "_law_deed", "_law_step"] ["_law_town_here", "_law_who"] (defScope (top 40)) := ⟨rfl, rfl, rfl, by decide +kernel, rfl, by decide +kernel, by decide +kernel⟩
theorem ok_lcount (D : DefAt K mg "_law_town_count" (top 40)) (B : Bl mg) : LCal P w K mg base 1 "_law_town_count" (spLCount tabs) := by
  refine cal_of D sc40 (fun _ _ _ _ _ _ us hl => match us, hl with | [_, _], _ => rfl) (fun vs H Q E h => ?_) (fun f cdv Ar outer s H vs Q E hr h => ?_)
  · obtain ⟨A, rows, wr, n, h, rfl, _⟩ := h
    rfl
  · obtain ⟨A, rows, wr, n, h, rfl, hT, hf, kq⟩ := h
    have nd := sc40.nd
    refine ⟨_, (pss_one (ps_ret (pe_callB call_len_seq (by rfl) B.len PySem.boot_len (pa_cons (pe_lc (own := [("_law_deed", 2), ("_law_step", 3)]) (g := gTup K 2 (gCons (gName 2) (gCons (gName 3) gNil))) rfl nd (pi_list (pe_dget (hu_of hr) (pv 0) pe_str (fun _ _ => rfl))) (blkOk_by (own := [("_law_deed", 2), ("_law_step", 3)]) (N := ["_law_town_here", "_law_who", "_law_deed", "_law_step"]) (sc := defScope (top 40)) (by decide +kernel)) (fun _ _ _ _ _ => (pg_tupK (K := K) (n := 2) rfl (pgs_cons (pg_name (i := 2) nd rfl (Or.inl rfl)) (pgs_cons (pg_name (i := 3) nd rfl (Or.inl rfl)) pgs_nil)))) (fun _ _ _ _ _ => pts_one (PW.pt (pw_and (pt_cmpR op_eq (pe_ix (ix_tupK (K := K)) (pv 2) pe_int (fun _ _ => rfl)) pe_str (nomark _)) (pw_and1 (pt_cmpR op_eq (pe_ix (ix_tupK (K := K)) (pv 2) pe_int (fun _ _ => rfl)) (pv 1) (nomark _)))))) (fun _ _ _ _ _ => (pv 2))) pa_nil)))), ?_⟩
    obtain ⟨tv, _, ob⟩ := hT.tab
    obtain ⟨vs, hv, hA⟩ := hT.rows
    refine ⟨_, rfl, A.d, _, rfl, dgk (k := .inr "rows") ob lo_rows, _, rfl, ⟨_, SqL.of hv⟩, fun D nD => ?_⟩
    refine lc_list (xs := vs) (fun i H' => Mv [] H H' ∧ ∃ acc : List V, H' D = some (.lst acc) ∧ acc.length = count (rows.take i) h) ⟨Mv.new nD, [], upd_same, rfl⟩ (fun i H' _ p => SqL.of (p.1.at hv (by simp))) ?_ ?_
    · intro i x H' hx ⟨hm, acc, hacc, hlen⟩
      obtain ⟨r, hr', ha⟩ := hA.getR hx
      obtain ⟨a, b, rfl, h1, h2⟩ := ha.mono hm.tk0
      have hi : i < 1000 := by
        have := lt_of_get hr'
        omega
      have hacc2 : acc.length < sizeLine := by
        rw [hlen]
        refine Nat.lt_of_le_of_lt (List.length_filter_le _ _) ?_
        rw [List.length_take]
        exact Nat.lt_of_le_of_lt (Nat.min_le_left _ _) (Nat.lt_trans hi (by decide))
      have tk1 := take_snoc hr'
      refine ⟨a, _, rfl, SqT.of h1, rfl, _, _, rfl, _, _, rfl, rfl, rfl, ?_⟩
      have no : ∀ {w : Str} {t : List V}, enc r.1 = .str w :: t → ¬ (w = "take") → isTake h r = false → Mv [] H H' ∧ ∃ acc : List V, H' D = some (.lst acc) ∧ acc.length = count (rows.take (i + 1)) h := by
        intro w t _ _ hf
        refine ⟨hm, acc, hacc, ?_⟩
        rw [tk1, count_snoc, hf, hlen]; rfl
      obtain ⟨d, s⟩ := r
      cases d with
      | own h' x => exact ⟨_, rfl, _, _, _, _, rfl, rfl, SqT.of h2, atI_nat (j := 0) rfl, rfl, _, rfl, str_no (by decide) (no rfl (by decide) rfl)⟩
      | send h' x => exact ⟨_, rfl, _, _, _, _, rfl, rfl, SqT.of h2, atI_nat (j := 0) rfl, rfl, _, rfl, str_no (by decide) (no rfl (by decide) rfl)⟩
      | keep h' => exact ⟨_, rfl, _, _, _, _, rfl, rfl, SqT.of h2, atI_nat (j := 0) rfl, rfl, _, rfl, str_no (by decide) (no rfl (by decide) rfl)⟩
      | take h' f k =>
        refine ⟨_, rfl, _, _, _, _, rfl, rfl, SqT.of h2, atI_nat (j := 0) rfl, rfl, _, rfl, str_yes ?_⟩
        refine ⟨_, rfl, _, _, _, _, rfl, rfl, SqT.of h2, atI_nat (j := 1) rfl, _, rfl, rfl, _, rfl, ?_⟩
        refine ite2 (fun c => ?_) (fun c => ?_)
        · have c' : h' = h := iN_inj (of_decide_eq_true c)
          refine ⟨_, rfl, acc, hacc, hacc2, hm.own nD, _, upd_same, ?_⟩
          rw [List.length_append, tk1, count_snoc, hlen]
          simp [isTake, c']
        · have c' : ¬ h' = h := fun z => c (by rw [z]; simp)
          refine ⟨hm, acc, hacc, ?_⟩
          rw [tk1, count_snoc, hlen]
          simp [isTake, c']
    · intro H' ⟨hm, acc, hacc, hlen⟩
      have e : acc.length = count rows h := by rw [hlen, List.take_of_length_le (Nat.le_of_eq hA.len)]
      refine ⟨D, acc, rfl, .inl (SqL.of hacc), ?_⟩
      rw [e]
      exact kq H' hm
end
end Lor
end

section
set_option Elab.async false
set_option linter.all false
set_option maxRecDepth 100000
set_option maxHeartbeats 4000000
namespace Lor
open PySem PySem.Spec PyProof.Rows L2
/-! the walk of the law's own town, in the heap -/
structure WA where
  lw : Addr
  lk : Addr
  di : Addr
  ks : List Addr
  as : List Addr
def WA.all (W : WA) : List Addr := W.lw :: W.lk :: W.di :: (W.ks ++ W.as)
def TkAt (H : Hp) (o : Option Nm) (v : V) : Prop := match o with
  | none => v = .non
  | some q => ∃ b, v = .ref b ∧ H b = some (.tup [iN q.1, iN q.2])
theorem TkAt.mono {H H' : Hp} {o : Option Nm} {v : V} (k : TK H H') (h : TkAt H o v) : TkAt H' o v := by
  cases o with
  | none => exact h
  | some q => exact let ⟨b, e, x⟩ := h; ⟨b, e, k _ _ x⟩
def ItemAt (H : Hp) (bad : List Addr) (i : LIt) (a : Addr) : Prop := ∃ (pb kd : Addr) (tv : V), H a = some (.lst [iN i.to, iN i.wo, .ref pb, tv, .ref kd]) ∧ H pb = some (.tup [iN i.by_.1, iN i.by_.2]) ∧ TkAt H i.tk tv ∧ H kd = some (.dT (setD i.kn)) ∧ kd ∉ bad
def kvI (it : List (Nm × LIt)) (as : List Addr) : List (List Key × V) := (it.zip as).map fun p => (nk p.1.1, V.ref p.2)
structure WAt (H : Hp) (w : Ws) (W : WA) : Prop where
  nd : W.all.Nodup
  wo : NatsL H W.lw w.wo
  kl : H W.lk = some (.lst (W.ks.map V.ref))
  kn : All2 (fun S a => H a = some (.dT (setD S))) w.kn W.ks
  di : H W.di = some (.dT (kvI w.it W.as))
  it : All2 (fun p a => ItemAt H (W.di :: W.ks) p.2 a) w.it W.as
theorem kvI_len {it : List (Nm × LIt)} {as : List Addr} (h : it.length = as.length) : (kvI it as).length = it.length := by
  unfold kvI
  rw [List.length_map, List.length_zip, ← h, Nat.min_self]
theorem kvI_none : ∀ {it : List (Nm × LIt)} {as : List Addr} {q : Nm}, (∀ p ∈ it, p.1 ≠ q) → valV (kvI it as) (nk q) = none
  | [], _, _, _ => rfl
  | p :: r, [], _, _ => rfl
  | p :: r, a :: s, q, h => by
    show valV ((nk p.1, V.ref a) :: kvI r s) (nk q) = none
    rw [valV_neg (fun z => h p List.mem_cons_self (nk_inj z))]
    exact kvI_none fun x hx => h x (List.mem_cons_of_mem _ hx)
/-- where an item lies -/
theorem kvI_at : ∀ {it : List (Nm × LIt)} {as : List Addr} {q : Nm} {i : LIt}, it.length = as.length → aget it q = some i → ∃ (j : Nat) (a : Addr), it[j]? = some (q, i) ∧ as[j]? = some a ∧ valV (kvI it as) (nk q) = some (.ref a)
  | [], _, _, _, _, h => by cases h
  | p :: r, [], _, _, l, _ => by cases l
  | p :: r, a :: s, q, i, l, h => by
    rw [aget_cons] at h
    by_cases c : p.1 = q
    · rw [if_pos c] at h
      cases h
      refine ⟨0, a, by rw [← c]; rfl, rfl, ?_⟩
      show valV ((nk p.1, V.ref a) :: kvI r s) (nk q) = _
      rw [valV_pos (by rw [c])]
    · rw [if_neg c] at h
      obtain ⟨j, b, h1, h2, h3⟩ := kvI_at (it := r) (as := s) (Nat.succ.inj l) h
      refine ⟨j + 1, b, by simpa using h1, by simpa using h2, ?_⟩
      show valV ((nk p.1, V.ref a) :: kvI r s) (nk q) = _
      rw [valV_neg (fun z => c (nk_inj z))]
      exact h3
theorem kvI_put {it : List (Nm × LIt)} {as : List Addr} {q : Nm} {i : LIt} {a : Addr} (l : it.length = as.length) (h : ∀ p ∈ it, p.1 ≠ q) : putK (kvI it as) (nk q) (.ref a) = kvI (it ++ [(q, i)]) (as ++ [a]) := by
  unfold putK
  rw [valV_any, kvI_none h, if_neg (by simp)]
  unfold kvI
  rw [List.zip_append l, List.map_append]
  rfl
theorem arep_set {α : Type} : ∀ {l : List (Nm × α)} {j : Nat} {q : Nm} {a x : α}, (l.map (·.1)).Nodup → l[j]? = some (q, a) → arep l q x = l.set j (q, x)
  | [], _, _, _, _, _, h => by simp at h
  | p :: r, 0, q, a, x, n, h => by
    have e : p = (q, a) := by simpa using h
    subst e
    show (if q = q then (q, x) else (q, a)) :: arep r q x = (q, x) :: r
    rw [if_pos rfl]
    congr 1
    have hn : ∀ p ∈ r, p.1 ≠ q := fun p hp z => (List.nodup_cons.mp n).1 (List.mem_map.mpr ⟨p, hp, z⟩)
    clear h n
    induction r with
    | nil => rfl
    | cons b s ih =>
      show (if b.1 = q then (b.1, x) else b) :: arep s q x = b :: s
      rw [if_neg (hn b List.mem_cons_self), ih fun p hp => hn p (List.mem_cons_of_mem _ hp)]
  | p :: r, j + 1, q, a, x, n, h => by
    have h' : r[j]? = some (q, a) := by simpa using h
    have hm : q ∈ r.map (·.1) := List.mem_map.mpr ⟨(q, a), List.mem_of_getElem? h', rfl⟩
    have ne : p.1 ≠ q := fun z => (List.nodup_cons.mp n).1 (by show p.1 ∈ _; rw [z]; exact hm)
    show (if p.1 = q then (p.1, x) else p) :: arep r q x = p :: r.set j (q, x)
    rw [if_neg ne, arep_set (List.nodup_cons.mp n).2 h']
theorem kvI_set {it : List (Nm × LIt)} {as : List Addr} {j : Nat} {q : Nm} {i i' : LIt} (h : it[j]? = some (q, i)) : kvI (it.set j (q, i')) as = kvI it as := by
  unfold kvI
  apply List.ext_getElem?
  intro k
  rw [List.getElem?_map, List.getElem?_map]
  by_cases c : j = k
  · subst c
    have hl := lt_of_get h
    cases e : as[j]? with
    | none =>
      have : as.length ≤ j := List.getElem?_eq_none_iff.mp e
      rw [List.getElem?_eq_none (by rw [List.length_zip]; omega), List.getElem?_eq_none (by rw [List.length_zip]; omega)]
    | some a =>
      rw [(List.getElem?_zip_eq_some (l₁ := it.set j (q, i')) (l₂ := as) (z := ((q, i'), a))).mpr ⟨by rw [List.getElem?_set, if_pos rfl, if_pos hl], e⟩, (List.getElem?_zip_eq_some (l₁ := it) (l₂ := as) (z := ((q, i), a))).mpr ⟨h, e⟩]
      rfl
  · congr 1
    rw [List.zip_eq_zipWith, List.zip_eq_zipWith, List.getElem?_zipWith, List.getElem?_zipWith, List.getElem?_set, if_neg c]
theorem ItemAt.move {H H' : Hp} {bad : List Addr} {i : LIt} {a : Addr} (h : ItemAt H bad i a) (e : H' a = H a) (k : TK H H') (d : ∀ S kd, H kd = some (.dT S) → kd ∉ bad → H' kd = H kd) : ItemAt H' bad i a := by
  obtain ⟨pb, kd, tv, h1, h2, h3, h4, h5⟩ := h
  exact ⟨pb, kd, tv, by rw [e]; exact h1, k _ _ h2, h3.mono k, by rw [d _ _ h4 h5]; exact h4, h5⟩
section
variable {H H' : Hp} {w : Ws} {W : WA}
structure WNe (W : WA) : Prop where
  wk : W.lw ≠ W.lk
  wd : W.lw ≠ W.di
  kd : W.lk ≠ W.di
  wks : W.lw ∉ W.ks
  was : W.lw ∉ W.as
  kks : W.lk ∉ W.ks
  kas : W.lk ∉ W.as
  dks : W.di ∉ W.ks
  das : W.di ∉ W.as
  ksn : W.ks.Nodup
  asn : W.as.Nodup
  ka : ∀ a ∈ W.ks, a ∉ W.as
theorem WNe.of (h : W.all.Nodup) : WNe W := by
  unfold WA.all at h
  simp only [List.nodup_cons, List.mem_cons, List.mem_append, not_or] at h
  obtain ⟨⟨a1, a2, a3, a4⟩, ⟨b1, b2, b3⟩, ⟨c1, c2⟩, n⟩ := h
  obtain ⟨n1, n2, n3⟩ := List.nodup_append.mp n
  exact ⟨a1, a2, b1, a3, a4, b2, b3, c1, c2, n1, n2, fun a ha hb => n3 a ha a hb rfl⟩
theorem WAt.mv (h : WAt H w W) (m : Mv [] H H') : WAt H' w W := by
  have f : ∀ {a : Addr} {o : HO}, H a = some o → H' a = H a := fun e => m.fr _ (some_ne e) (by simp)
  refine ⟨h.nd, ?_, ?_, ?_, ?_, ?_⟩
  · unfold NatsL; rw [f h.wo]; exact h.wo
  · rw [f h.kl]; exact h.kl
  · exact h.kn.imp fun _ _ e => by rw [f e]; exact e
  · rw [f h.di]; exact h.di
  · exact h.it.imp fun _ _ z => z.move (by obtain ⟨_, _, _, e, _⟩ := z; exact f e) m.tk0 fun _ _ e _ => f e
theorem WAt.setWo (h : WAt H w W) {ns : List Nat} : WAt (upd H W.lw (.lst (ns.map iN))) { w with wo := ns } W := by
  have n := WNe.of h.nd
  have k : TK H (upd H W.lw (.lst (ns.map iN))) := TK.upd fun xs z => by have := h.wo.symm.trans z; cases this
  refine ⟨h.nd, upd_same, ?_, ?_, ?_, ?_⟩
  · rw [upd_ne n.wk.symm]; exact h.kl
  · exact h.kn.imp2 fun _ a ha e => by rw [upd_ne (mem_ne ha n.wks)]; exact e
  · rw [upd_ne n.wd.symm]; exact h.di
  · exact h.it.imp2 fun _ a ha z => z.move (upd_ne (mem_ne ha n.was)) k fun S kd e _ => upd_ne fun y => by
      rw [y] at e
      have := h.wo.symm.trans e; cases this
theorem WAt.setKn (h : WAt H w W) {i : Nat} {a : Addr} {S : List Nm} (e : W.ks[i]? = some a) : WAt (upd H a (.dT (setD S))) { w with kn := w.kn.set i S } W := by
  have n := WNe.of h.nd
  have hm : a ∈ W.ks := List.mem_of_getElem? e
  obtain ⟨S0, _, e0⟩ := h.kn.memR a hm
  have k : TK H (upd H a (.dT (setD S))) := TK.upd fun xs z => by rw [e0] at z; cases z
  refine ⟨h.nd, ?_, ?_, ?_, ?_, ?_⟩
  · unfold NatsL; rw [upd_ne (mem_ne hm n.wks).symm]; exact h.wo
  · rw [upd_ne (mem_ne hm n.kks).symm]; exact h.kl
  · exact h.kn.setAt n.ksn e upd_same fun U c hc q => by rw [upd_ne hc]; exact q
  · rw [upd_ne (mem_ne hm n.dks).symm]; exact h.di
  · exact h.it.imp2 fun _ b hb z => z.move (upd_ne fun y => n.ka a hm (y ▸ hb)) k fun S kd _ hk => upd_ne fun y => hk (by rw [y]; exact List.mem_cons_of_mem _ hm)
theorem WAt.addIt (h : WAt H w W) {q : Nm} {i : LIt} {a : Addr} (fr : ∀ p ∈ w.it, p.1 ≠ q) (hi : ItemAt H (W.di :: W.ks) i a) (ha : a ∉ W.all) :
    WAt (upd H W.di (.dT (putK (kvI w.it W.as) (nk q) (.ref a)))) { w with it := w.it ++ [(q, i)] } { W with as := W.as ++ [a] } := by
  have n := WNe.of h.nd
  have k : TK H (upd H W.di (.dT (putK (kvI w.it W.as) (nk q) (.ref a)))) := TK.upd fun xs z => by rw [h.di] at z; cases z
  have mv : ∀ {j : LIt} {b : Addr}, ItemAt H (W.di :: W.ks) j b → b ≠ W.di → ItemAt (upd H W.di (.dT (putK (kvI w.it W.as) (nk q) (.ref a)))) (W.di :: W.ks) j b := fun z hb => z.move (upd_ne hb) k fun S kd _ hk => upd_ne fun y => hk (by rw [y]; exact List.mem_cons_self)
  refine ⟨?_, ?_, ?_, ?_, ?_, ?_⟩
  · have := h.nd
    have e : ({ W with as := W.as ++ [a] } : WA).all = W.all ++ [a] := by simp [WA.all]
    rw [e]
    refine List.nodup_append.mpr ⟨this, by simp, fun x hx y hy => ?_⟩
    rw [List.mem_singleton] at hy
    subst hy
    exact fun z => ha (z ▸ hx)
  · unfold NatsL; show upd _ _ _ W.lw = _; rw [upd_ne n.wd]; exact h.wo
  · show upd _ _ _ W.lk = _; rw [upd_ne n.kd]; exact h.kl
  · exact h.kn.imp2 fun _ b hb e => by rw [upd_ne (mem_ne hb n.dks)]; exact e
  · show upd _ _ _ W.di = _
    rw [upd_same, kvI_put (i := i) h.it.len fr]
  · exact All2.snoc (R := fun (p : Nm × LIt) a => ItemAt _ (W.di :: W.ks) p.2 a) (a := (q, i)) (mv hi fun z => ha (by rw [z]; simp [WA.all])) (h.it.imp2 fun _ b hb z => mv z (mem_ne hb n.das))
theorem WAt.setIt (h : WAt H w W) {q : Nm} {i i' : LIt} {j : Nat} {a : Addr} {o : HO} (e1 : w.it[j]? = some (q, i)) (e2 : W.as[j]? = some a) (ho : ∀ xs, o ≠ .tup xs) (hi : ItemAt (upd H a o) (W.di :: W.ks) i' a) :
    WAt (upd H a o) { w with it := w.it.set j (q, i') } W := by
  have n := WNe.of h.nd
  have hm : a ∈ W.as := List.mem_of_getElem? e2
  obtain ⟨p, _, pb, kd, tv, h0, _⟩ := h.it.memR a hm
  have k : TK H (upd H a o) := TK.upd fun xs z => by rw [h0] at z; cases z
  refine ⟨h.nd, ?_, ?_, ?_, ?_, ?_⟩
  · unfold NatsL; rw [upd_ne (mem_ne hm n.was).symm]; exact h.wo
  · rw [upd_ne (mem_ne hm n.kas).symm]; exact h.kl
  · exact h.kn.imp2 fun _ b hb e => by rw [upd_ne (fun z : b = a => n.ka b hb (by rw [z]; exact hm))]; exact e
  · rw [upd_ne (mem_ne hm n.das).symm, kvI_set e1]; exact h.di
  · exact h.it.setAt n.asn e2 hi fun p c hc z => z.move (upd_ne hc) k fun S kd e _ => upd_ne fun y => by rw [y, h0] at e; cases e
theorem WAt.other (h : WAt H w W) {c : Addr} {o : HO} {xs : List V} (hc : c ∉ W.all) (h0 : H c = some (.lst xs)) : WAt (upd H c o) w W := by
  simp only [WA.all, List.mem_cons, List.mem_append, not_or] at hc
  obtain ⟨c1, c2, c3, c4, c5⟩ := hc
  have k : TK H (upd H c o) := TK.upd fun xs z => by rw [h0] at z; cases z
  refine ⟨h.nd, ?_, ?_, ?_, ?_, ?_⟩
  · unfold NatsL; rw [upd_ne (Ne.symm c1)]; exact h.wo
  · rw [upd_ne (Ne.symm c2)]; exact h.kl
  · exact h.kn.imp2 fun _ b hb e => by rw [upd_ne (mem_ne hb c4)]; exact e
  · rw [upd_ne (Ne.symm c3)]; exact h.di
  · exact h.it.imp2 fun _ b hb z => z.move (upd_ne (mem_ne hb c5)) k fun S kd e _ => upd_ne fun y => by rw [y, h0] at e; cases e
theorem WAt.live (h : WAt H w W) : ∀ a ∈ W.all, H a ≠ none := by
  intro a ha
  simp only [WA.all, List.mem_cons, List.mem_append] at ha
  rcases ha with rfl | rfl | rfl | ha | ha
  · exact some_ne h.wo
  · exact some_ne h.kl
  · exact some_ne h.di
  · obtain ⟨_, _, e⟩ := h.kn.memR a ha
    exact some_ne e
  · obtain ⟨_, _, _, _, _, e, _⟩ := h.it.memR a ha
    exact some_ne e
end
section
variable {P : Program} {w : World} {K : PySem.W.Frag} {mg : Str → Option Value} {base : Heap} {tabs : Tabs}
theorem cut2 (h f k : Nat) : cutV (enc (.take h f k)) (some 2) none = [iN f, iN k] := rfl
theorem cut2_part (h f k : Nat) : ¬ (HT.sIx (enc (.take h f k)).length 0 (some 2) = 0 ∧ HT.sIx (enc (.take h f k)).length (enc (.take h f k)).length none = (enc (.take h f k)).length) := by
  intro z
  have : HT.sIx (enc (.take h f k)).length 0 (some 2) = 2 := rfl
  rw [this] at z
  exact absurd z.1 (by decide)
theorem rd_ownifL {many h s : Nat} {W : WA} {w : Ws} {σ : L2.St} {H : Hp} {D : Ends} (hW : WAt H w W) (s1 : σ[1]? = some (some (iN many))) (s4 : σ[4]? = some (some (.ref W.lk))) (s7 : σ[7]? = some (some (iN s))) (s8 : σ[8]? = some (some (iN h)))
    (hh : h < w.kn.length) (box : ∀ S ∈ w.kn, Box many S) (h4 : many ≤ 4) (k : ∀ H', Mv W.ks H H' → TK H H' → WAt H' { w with kn := bown many w.kn h s } W → D.nx σ H') :
    tIfS (tAnd (tTest (tOp (rI0 fun i j => V.bl (decide (i < j))) (tVar 8) (tVar 1))) (tTest (tOp (rI0 fun i j => V.bl (decide (j < i))) (tVar 7) (tC (V.int 0)))))
      (sDPut (tOp (rIxL K) (tVar 4) (tVar 8)) (tTup (tCons (tVar 8) (tCons (tVar 7) tNil))) (tC (V.bl true))) tNext D σ H := by
  have no : ¬ (h < many ∧ 0 < s) → D.nx σ H := fun c => k H (Mv.refl _ _) (TK.refl _) (by unfold bown; rw [if_neg c]; exact hW)
  refine ⟨_, s8, _, s1, _, _, rfl, rfl, _, rfl, ?_⟩
  refine ite2 (fun c => ?_) (fun c => ?_)
  · have c1 : h < many := by have := of_decide_eq_true c; omega
    refine ⟨_, s7, _, _, rfl, rfl, _, rfl, ?_⟩
    refine ite2 (fun d => ?_) (fun d => ?_)
    · have d1 : 0 < s := by have := of_decide_eq_true d; omega
      have hn : h < W.ks.length := by rw [← hW.kn.len]; exact hh
      have ea : W.ks[h]? = some W.ks[h] := List.getElem?_eq_getElem hn
      obtain ⟨S, hS, eS⟩ := hW.kn.getR ea
      have eS2 : w.kn.getD h [] = S := by rw [List.getD_eq_getElem?_getD, hS]; rfl
      have bx := box S (List.mem_of_getElem? hS)
      refine ⟨_, s4, _, s8, _, _, _, _, rfl, rfl, SqL.of hW.kl, atI_nat (v := V.ref W.ks[h]) (by rw [List.getElem?_map, ea]; rfl), ?_⟩
      refine ⟨_, s8, _, s7, (by show 2 ≤ sizeLine; decide), fun t nt => ?_⟩
      have et : upd H t (.tup [iN h, iN s]) t = some (.tup [iN h, iN s]) := upd_same
      have m1 : Mv [] H (upd H t (.tup [iN h, iN s])) := Mv.new nt
      have eS3 := m1.at eS (by simp)
      have hW1 := hW.mv m1
      generalize upd H t (.tup [iN h, iN s]) = H1 at *
      refine ⟨_, _, rfl, DPut.t (k := nk (h, s)) eS3 et (by rw [setD_len]; exact Nat.lt_of_le_of_lt (box_few bx h4) (by decide)), ?_⟩
      rw [setD_add]
      refine k _ ((m1.mono (by simp)).trans (Mv.upd (List.getElem_mem hn))) (m1.tk0.trans (TK.upd fun xs z => by rw [eS3] at z; cases z)) ?_
      unfold bown
      rw [if_pos ⟨c1, d1⟩, eS2]
      exact hW1.setKn ea
    · exact no fun z => d (by have := z.2; simp; omega)
  · exact no fun z => c (by have := z.1; simp; omega)
def spLWalk (tabs : Tabs) : Sp := fun vs H Q _ => ∃ (A : LoA) (rows : List Row) (wr : List Nat) (n : Nat), vs = [.ref A.d] ∧ LTownAt tabs H rows wr A n ∧ tabs.length ≤ 4 ∧ Fit tabs.length rows ∧
  ∀ (H' : Hp) (v : Addr) (W : WA), Mv [] H H' → (∀ a ∈ W.all, H a = none) → H' v = some (.dK [(.inr "worths", .ref W.lw), (.inr "knows", .ref W.lk), (.inr "items", .ref W.di)]) → WAt H' (lwalk tabs.length rows) W → Q (.ref v) H'
theorem sc39 : FnScope ["_law_town_here", "_law_many", "_law_worths", "_law_sent", "_law_knows", "_law_items", "_law_deed", "_law_step", "_law_who", "_law_item"] ["_law_town_here"] (defScope (top 39)) := ⟨rfl, rfl, rfl, by decide +kernel, rfl, by decide +kernel, by decide +kernel⟩
theorem ok_lwalk (D : DefAt K mg "_law_town_walk" (top 39)) (B : Bl mg) : LCal P w K mg base 1 "_law_town_walk" (spLWalk tabs) := by
  refine cal_of D sc39 (fun _ _ _ _ _ _ us hl => match us, hl with | [_], _ => rfl) (fun vs H Q E h => ?_) (fun f cdv Ar outer s H vs Q E hr h => ?_)
  · obtain ⟨A, rows, wr, n, rfl, _⟩ := h
    rfl
  · obtain ⟨A, rows, wr, n, rfl, hT, h4, hf, kq⟩ := h
    have nd := sc39.nd
    refine ⟨_, (pss_cons (ps_set (i := 1) nd rfl (Or.inl rfl) (pe_dget (hu_of hr) (pv 0) pe_str (fun _ _ => rfl)))
 (pss_cons (ps_set (i := 2) nd rfl (Or.inl rfl) (pe_op op_rep (pe_lst (pa_cons pe_int pa_nil)) (pe_op op_add (pv 1) pe_int)))
 (pss_cons (ps_set (i := 3) nd rfl (Or.inl rfl) (pe_op op_rep (pe_lst (pa_cons pe_int pa_nil)) (pe_op op_add (pv 1) pe_int)))
 (pss_cons (ps_setLc (i := 4) (own := [("_law_who", 8)]) (g := gName 8) (tt := tYes) rfl nd rfl rfl (sw_true rfl rfl rfl (by decide +kernel)) (pi_range1 (by rfl) B.range (pa_cons (pe_op op_add (pv 1) pe_int) pa_nil)) (blkOk_by (own := [("_law_who", 8)]) (N := ["_law_town_here", "_law_many", "_law_worths", "_law_sent", "_law_knows", "_law_items", "_law_deed", "_law_step", "_law_who", "_law_item"]) (sc := defScope (top 39)) (by decide +kernel)) (fun _ _ _ _ _ => (pg_name (i := 8) nd rfl (Or.inl rfl))) (fun _ _ _ _ _ => pts_nil) (fun _ _ _ _ _ => pe_dnewT))
 (pss_cons (ps_set (i := 5) nd rfl (Or.inl rfl) pe_dnewT)
 (pss_cons (ps_for PassesOwn.never rfl (pi_list (pe_dget (hu_of hr) (pv 0) pe_str (fun _ _ => rfl))) (pg_tup (n := 2) rfl (pgs_cons (pg_name (i := 6) nd rfl (Or.inl rfl)) (pgs_cons (pg_name (i := 7) nd rfl (Or.inl rfl)) pgs_nil)))
 (pss_cons (ps_set (i := 8) nd rfl (Or.inl rfl) (pe_ix ix_tup (pv 6) pe_int (fun _ _ => rfl)))
 (pss_cons (ps_if (PW.pt (pw_and (pt_cmpR op_lt (pv 8) (pv 1) (nomark _)) (pw_and1 (pt_cmpR op_gt (pv 7) pe_int (nomark _)))))
 (pss_one (ps_dput (hu_of hr) (pe_ix ix_list (pv 4) (pv 8) (fun _ _ => rfl)) (pe_tup (pa_cons (pv 8) (pa_cons (pv 7) pa_nil))) pe_bl rfl))
 pss_nil)
 (pss_cons (ps_if (pt_cmpR op_eq (pe_ix ix_tup (pv 6) pe_int (fun _ _ => rfl)) pe_str (nomark _))
 (pss_one (ps_asg (pe_ix ix_tup (pv 6) pe_int (fun _ _ => rfl)) (pg_sub (pv 2) (pv 8) set_list)))
 pss_nil)
 (pss_cons (ps_if (pt_cmpR op_eq (pe_ix ix_tup (pv 6) pe_int (fun _ _ => rfl)) pe_str (nomark _))
 (pss_cons (ps_dput (hu_of hr) (pv 5) (pe_tup (pa_cons (pv 8) (pa_cons (pe_ix ix_list (pv 3) (pv 8) (fun _ _ => rfl)) pa_nil))) (pe_lst (pa_cons (pe_ix ix_tup (pv 6) pe_int (fun _ _ => rfl)) (pa_cons (pe_ix ix_list (pv 2) (pv 8) (fun _ _ => rfl)) (pa_cons (pe_tup (pa_cons (pv 8) (pa_cons (pv 7) pa_nil))) (pa_cons pe_non (pa_cons (pe_callTy (call_dictT (hu20 hr)) (by rfl) B.dict (by decide +kernel) (pa_cons (pe_ix ix_list (pv 4) (pv 8) (fun _ _ => rfl)) pa_nil)) pa_nil)))))) rfl)
 (pss_one (ps_asg (pe_op op_add (pe_ix ix_list (pv 3) (pv 8) (fun _ _ => rfl)) pe_int) (pg_sub (pv 3) (pv 8) set_list))))
 pss_nil)
 (pss_one (ps_if (pt_cmpR op_eq (pe_ix ix_tup (pv 6) pe_int (fun _ _ => rfl)) pe_str (nomark _))
 (pss_cons (ps_set (i := 9) nd rfl (Or.inl rfl) (pe_dget (hu_of hr) (pv 5) (pe_slice sl_tup (pv 6) (po_some pe_int) po_none) (fun _ _ => rfl)))
 (pss_cons (ps_asg (pe_tup (pa_cons (pv 8) (pa_cons (pv 7) pa_nil))) (pg_sub (pv 9) pe_int set_list))
 (pss_cons (ps_asg (pe_op op_mod (pe_op op_add (pe_op op_add (pe_op op_mul pe_int (pe_ix ix_list (pv 2) (pv 8) (fun _ _ => rfl))) (pe_ix ix_list (pv 9) pe_int (fun _ _ => rfl))) pe_int) pe_int) (pg_sub (pv 2) (pv 8) set_list))
 (pss_one (ps_expr (pe_bm PySem.F.plainAttrs_dict PySem.F.slot_dict_update PySem.F.type_dict_update (mt_updT (hu_of hr)) (pe_ix ix_list (pv 4) (pv 8) (fun _ _ => rfl)) (pa_cons (pe_ix ix_list (pv 9) pe_int (fun _ _ => rfl)) pa_nil)))))))
 pss_nil)))))))
 (pss_one (ps_ret (pe_disp (pps_cons pe_str (pv 2) (pps_cons pe_str (pv 4) (pps_cons pe_str (pv 5) pps_nil))) (by rfl) (by rfl) (fun z => by cases z) (by decide)))))))))), ?_⟩
    obtain ⟨tv, _, ob⟩ := hT.tab
    obtain ⟨vs, hv, hA⟩ := hT.rows
    refine ⟨_, rfl, A.d, _, rfl, dgk (k := .inr "many") ob lo_many, ?_⟩
    refine rd_rep' (m := tabs.length + 1) (fun H Q q => ⟨_, rfl, _, _, rfl, rfl, q⟩) (by omega) fun lw H1 nlw ew m1 => ?_
    refine rd_rep' (m := tabs.length + 1) (fun H Q q => ⟨_, rfl, _, _, rfl, rfl, q⟩) (by omega) fun ls H2 nls es m2 => ?_
    have m12 := m1.trans m2
    refine ⟨_, rfl, _, _, rfl, rfl, ((tabs.length : Int) + 1), rfl, by omega, by omega, fun lk nlk => ?_⟩
    have en : ((tabs.length : Int) + 1).toNat = tabs.length + 1 := by omega
    refine lc_range (lo := 0) (n := ((tabs.length : Int) + 1).toNat) (fun i H' => ∃ as : List Addr, as.length = i ∧ as.Nodup ∧ H' lk = some (.lst (as.map V.ref)) ∧ (∀ a ∈ as, H2 a = none ∧ a ≠ lk ∧ H' a = some (.dT [])) ∧ Mv [] H2 H') ?_ ?_ ?_
    · exact ⟨[], rfl, .nil, upd_same, by simp, Mv.new nlk⟩
    · intro i H' hi ⟨as, hl, hn, hL, hA2, hM⟩
      refine ⟨rfl, fun a na => ⟨as.map V.ref, ?_, ?_, as ++ [a], ?_, ?_, ?_, ?_, ?_⟩⟩
      · rw [upd_ne (ne_none (some_ne hL) na)]; exact hL
      · rw [List.length_map, hl]; exact Nat.lt_of_lt_of_le hi (by rw [en]; exact Nat.le_trans (Nat.succ_le_succ h4) (by decide))
      · rw [List.length_append, hl]; rfl
      · refine List.nodup_append.mpr ⟨hn, by simp, fun x hx y hy => ?_⟩
        simp at hy; subst hy
        exact ne_none (some_ne (hA2 x hx).2.2) na
      · rw [upd_same, List.map_append]; rfl
      · intro x hx
        rcases List.mem_append.mp hx with hx | hx
        · obtain ⟨h1, h2, h3⟩ := hA2 x hx
          exact ⟨h1, h2, by rw [upd_ne h2, upd_ne (ne_none (some_ne h3) na)]; exact h3⟩
        · simp at hx; subst hx
          have c : x ≠ lk := (ne_none (some_ne hL) na).symm
          exact ⟨hM.none na, c, by rw [upd_ne c, upd_same]⟩
      · exact (hM.trans (Mv.new na)).own nlk
    · intro H3 ⟨ks, hl, hn, hL, hA2, hM⟩
      rw [en] at hl
      refine fun di ndi => ?_
      have edi : upd H3 di (.dT []) di = some (.dT []) := upd_same
      have m4 : Mv [] H3 (upd H3 di (.dT [])) := Mv.new ndi
      generalize upd H3 di (.dT []) = H4 at *
      have m24 := hM.trans m4
      have m14 := m2.trans m24
      have m04 := m1.trans m14
      have hW0 : WAt H4 (wstart (tabs.length + 1)) ⟨lw, lk, di, ks, []⟩ := by
        have w2 := m2.at ew (by simp)
        refine ⟨?_, ?_, m4.at hL (by simp), ?_, edi, .nil⟩
        · have a1 : lw ≠ lk := ne_none (some_ne w2) nlk
          have a2 : lw ≠ di := ne_none (some_ne (hM.at w2 (by simp))) ndi
          have a3 : lw ∉ ks := fun z => ne_none (some_ne w2) (hA2 lw z).1 rfl
          have b1 : lk ≠ di := ne_none (some_ne hL) ndi
          have b2 : lk ∉ ks := fun z => (hA2 lk z).2.1 rfl
          have c1 : di ∉ ks := fun z => ne_none (some_ne (hA2 di z).2.2) ndi rfl
          simp only [WA.all, List.append_nil, List.nodup_cons, List.mem_cons, not_or]
          exact ⟨⟨a1, a2, a3⟩, ⟨b1, b2⟩, c1, hn⟩
        · have := m14.at ew (by simp)
          show H4 lw = some (.lst ((List.replicate (tabs.length + 1) 0).map iN))
          rw [List.map_replicate]; exact this
        · show All2 _ (List.replicate (tabs.length + 1) []) ks
          rw [← hl]
          exact all2_rep fun a ha => m4.at (hA2 a ha).2.2 (by simp)
      have hs0 : NatsL H4 ls (wstart (tabs.length + 1)).se := by
        show H4 ls = some (.lst ((List.replicate (tabs.length + 1) 0).map iN))
        rw [List.map_replicate]; exact m24.at es (by simp)
      have ls0 : ls ∉ (⟨lw, lk, di, ks, []⟩ : WA).all := by
        simp only [WA.all, List.append_nil, List.mem_cons, not_or]
        exact ⟨(ne_none (some_ne ew) nls).symm, ne_none (some_ne es) nlk, ne_none (some_ne (hM.at es (by simp))) ndi, fun z => ne_none (some_ne es) (hA2 ls z).1 rfl⟩
      have all0 : ∀ a ∈ (⟨lw, lk, di, ks, []⟩ : WA).all, H a = none := by
        intro a ha
        simp only [WA.all, List.append_nil, List.mem_cons] at ha
        rcases ha with rfl | rfl | rfl | ha
        · exact nlw
        · exact m12.none nlk
        · exact (m12.trans hM).none ndi
        · exact m12.none (hA2 a ha).1
      have nls1 := m1.none nls
      refine ⟨_, rfl, A.d, _, rfl, dgk (k := .inr "rows") (m04.at ob (by simp)) lo_rows, A.lr, rfl, ⟨_, SqL.of (m04.at hv (by simp))⟩, ?_⟩
      refine for_list (xs := vs) (fun i σ H' => ∃ as, (∃ x6 x7 x8 x9, σ = [some (.ref A.d), some (iN tabs.length), some (.ref lw), some (.ref ls), some (.ref lk), some (.ref di), x6, x7, x8, x9]) ∧ WAt H' (lwalk tabs.length (rows.take i)) ⟨lw, lk, di, ks, as⟩ ∧ NatsL H' ls (lwalk tabs.length (rows.take i)).se ∧ (∀ a ∈ as, H a = none) ∧ ls ∉ as ∧ Mv [] H H') ?_ ?_ ?_ ?_
      · exact ⟨[], ⟨_, _, _, _, rfl⟩, hW0, hs0, by simp, by simp, m04⟩
      · exact fun i σ H' _ ⟨as, p⟩ => SqL.of (p.2.2.2.2.2.at hv (by simp))
      · intro i x σ H' hx ⟨as, ⟨x6, x7, x8, x9, hσ⟩, hW, hs, has, hls, hm⟩
        subst hσ
        obtain ⟨r, hr', ha⟩ := hA.getR hx
        obtain ⟨a, b, rfl, h1, h2⟩ := ha.mono hm.tk0
        have ok := hf.valid i r hr'
        have hi := lt_of_get hr'
        have hf2 := hf.few
        have bi := binv_take hf.valid i (Nat.le_of_lt hi)
        obtain ⟨wi, gl⟩ := winv_take hf.valid i (Nat.le_of_lt hi)
        have e1 := lwalk_snoc tabs.length (rows.take i) r
        rw [← take_snoc hr'] at e1
        rw [e1]
        clear e1
        have il : (rows.take i).length ≤ 1000 := by rw [List.length_take]; omega
        generalize going (tabs.length + 1) (rows.take i) = g at *
        generalize bearing tabs.length (rows.take i) = bb at *
        generalize lwalk tabs.length (rows.take i) = ww at *
        obtain ⟨d, s⟩ := r
        have wnl : ww.kn.length = tabs.length + 1 := by rw [wi.kn]; exact bi.kl
        have wkb : ∀ S ∈ ww.kn, Box tabs.length S := by rw [wi.kn]; exact bi.kn
        have hh : d.hand < tabs.length + 1 := Nat.lt_succ_of_le ok.hand
        refine ⟨a, _, rfl, SqT.of h1, rfl, _, _, rfl, _, _, rfl, rfl, ?_⟩
        refine ⟨_, rfl, _, _, _, _, rfl, rfl, SqT.of h2, atI_nat (v := iN d.hand) (j := 1) (by cases d <;> rfl), ?_⟩
        refine rd_ownifL (W := ⟨lw, lk, di, ks, as⟩) hW rfl rfl rfl rfl (by rw [wnl]; exact hh) wkb h4 fun G2 m2 k2 hW2 => ?_
        have ls_all : ls ∉ (⟨lw, lk, di, ks, as⟩ : WA).all := fun z => by
          have e : (⟨lw, lk, di, ks, as⟩ : WA).all = (⟨lw, lk, di, ks, []⟩ : WA).all ++ as := by simp [WA.all]
          rw [e] at z
          exact (List.mem_append.mp z).elim ls0 hls
        have allN : ∀ a ∈ (⟨lw, lk, di, ks, as⟩ : WA).all, H a = none := fun a z => by
          have e : (⟨lw, lk, di, ks, as⟩ : WA).all = (⟨lw, lk, di, ks, []⟩ : WA).all ++ as := by simp [WA.all]
          rw [e] at z
          exact (List.mem_append.mp z).elim (all0 a) (has a)
        have ks_all : ∀ a ∈ ks, a ∈ (⟨lw, lk, di, ks, as⟩ : WA).all := fun a ha => by simp [WA.all, ha]
        have hs2 : NatsL G2 ls ww.se := m2.at hs fun z => ls_all (ks_all ls z)
        have hm2 : Mv [] H G2 := ((hm.mono (S' := ks) (by simp)).trans m2).weak fun a ha => .inr (allN a (ks_all a ha))
        have h2' := k2 _ _ h2
        have wol : ww.wo.length = tabs.length + 1 := by rw [wi.wo]; exact gl
        have sel : ww.se.length = tabs.length + 1 := by rw [wi.se, ← bi.se]; exact bi.sl
        have hkl : (bown tabs.length ww.kn d.hand s).length = tabs.length + 1 := bown_len.trans wnl
        have hkb := bown_box (h := d.hand) wnl wkb ok.step
        clear hs h1 h2 hW ha
        cases d with
        | own h x =>
          refine ⟨_, rfl, _, _, _, _, rfl, rfl, SqT.of h2', atI_nat (j := 0) rfl, rfl, _, rfl, str_yes ?_⟩
          refine ⟨_, rfl, _, _, _, _, rfl, rfl, SqT.of h2', atI_nat (j := 2) rfl, _, rfl, _, rfl, _, _, _, _, rfl, rfl, hW2.wo, ixN_nat (by rw [List.length_map]; show h < ww.wo.length; rw [wol]; exact hh), ?_⟩
          have hW3 := hW2.setWo (ns := ww.wo.set h x)
          have m3 : Mv [lw] G2 (upd G2 lw (.lst ((ww.wo.set h x).map iN))) := Mv.upd (by simp)
          have h23 : upd G2 lw (.lst ((ww.wo.set h x).map iN)) b = some (.tup (enc (.own h x))) := m3.at h2' (by simp; exact fun z => by rw [z] at h2'; have := hW2.wo.symm.trans h2'; cases this)
          show tSeq _ _ _ _ (upd G2 lw (.lst ((ww.wo.map iN).set h (iN x))))
          rw [set_iN]
          have hs3 := m3.at hs2 (by simp; exact fun z => ls_all (by rw [z]; simp [WA.all]))
          have hm3 : Mv [] H (upd G2 lw (.lst ((ww.wo.set h x).map iN))) := ((hm2.mono (S' := [lw]) (by simp)).trans m3).weak (by simp [nlw])
          generalize upd G2 lw (.lst ((ww.wo.set h x).map iN)) = G3 at *
          refine ⟨_, rfl, _, _, _, _, rfl, rfl, SqT.of h23, atI_nat (j := 0) rfl, rfl, _, rfl, str_no (by decide) ?_⟩
          refine ⟨_, rfl, _, _, _, _, rfl, rfl, SqT.of h23, atI_nat (j := 0) rfl, rfl, _, rfl, str_no (by decide) ?_⟩
          exact ⟨as, ⟨_, _, _, _, rfl⟩, hW3, hs3, has, hls, hm3⟩
        | keep h =>
          refine ⟨_, rfl, _, _, _, _, rfl, rfl, SqT.of h2', atI_nat (j := 0) rfl, rfl, _, rfl, str_no (by decide) ?_⟩
          refine ⟨_, rfl, _, _, _, _, rfl, rfl, SqT.of h2', atI_nat (j := 0) rfl, rfl, _, rfl, str_no (by decide) ?_⟩
          refine ⟨_, rfl, _, _, _, _, rfl, rfl, SqT.of h2', atI_nat (j := 0) rfl, rfl, _, rfl, str_no (by decide) ?_⟩
          exact ⟨as, ⟨_, _, _, _, rfl⟩, hW2, hs2, has, hls, hm2⟩
        | send h to =>
          dsimp only [Deed.hand] at *
          refine ⟨_, rfl, _, _, _, _, rfl, rfl, SqT.of h2', atI_nat (j := 0) rfl, rfl, _, rfl, str_no (by decide) ?_⟩
          refine ⟨_, rfl, _, _, _, _, rfl, rfl, SqT.of h2', atI_nat (j := 0) rfl, rfl, _, rfl, str_yes ?_⟩
          have hwo : ww.wo[h]? = some (ww.wo.getD h 0) := getD_get (by rw [wol]; exact hh)
          have hse : ww.se[h]? = some (ww.se.getD h 0) := getD_get (by rw [sel]; exact hh)
          have hn : h < ks.length := by rw [← hW2.kn.len]; show h < (bown tabs.length ww.kn h s).length; rw [hkl]; exact hh
          have ea : ks[h]? = some ks[h] := List.getElem?_eq_getElem hn
          have ea' : (ks.map V.ref)[h]? = some (V.ref ks[h]) := by rw [List.getElem?_map, ea]; rfl
          obtain ⟨S, hS, eS⟩ := hW2.kn.getR ea
          replace hS : (bown tabs.length ww.kn h s)[h]? = some S := hS
          have eS2 : (bown tabs.length ww.kn h s).getD h [] = S := by rw [List.getD_eq_getElem?_getD, hS]; rfl
          have bx := hkb S (List.mem_of_getElem? hS)
          have fresh : ∀ p ∈ ww.it, p.1 ≠ (h, ww.se.getD h 0) := fun p hp e => by
            have := wi.keys p hp
            rw [e] at this
            exact Nat.lt_irrefl _ this
          refine ⟨_, rfl, _, _, _, _, rfl, rfl, SqT.of h2', atI_nat (j := 2) rfl, _, rfl, _, rfl, _, _, _, _, rfl, rfl, SqL.of hW2.wo, atI_nat (nats_get hwo), _, rfl, _, rfl, (by show 2 ≤ sizeLine; decide), fun pb npb => ?_⟩
          have epb : upd G2 pb (.tup [iN h, iN s]) pb = some (.tup [iN h, iN s]) := upd_same
          have m3 : Mv [] G2 (upd G2 pb (.tup [iN h, iN s])) := Mv.new npb
          have hW3 := hW2.mv m3
          have eS3 := m3.at eS (by simp)
          have hs3 := m3.at hs2 (by simp)
          generalize upd G2 pb (.tup [iN h, iN s]) = G3 at *
          refine ⟨_, rfl, _, rfl, _, _, _, _, rfl, rfl, SqL.of hW3.kl, atI_nat ea', ?_⟩
          refine ⟨ks[h], setD S, rfl, eS3, box_apart bx h4, fun kd nkd => ?_⟩
          have ekd : upd G3 kd (.dT (setD S)) kd = some (.dT (setD S)) := upd_same
          have m4' : Mv [] G3 (upd G3 kd (.dT (setD S))) := Mv.new nkd
          have kdn : kd ∉ di :: ks := fun z => hW3.live kd (by simp only [WA.all, List.mem_cons, List.mem_append]; rcases List.mem_cons.mp z with h | h; exact .inr (.inr (.inl h)); exact .inr (.inr (.inr (.inl h)))) nkd
          have hW4 := hW3.mv m4'
          have epb4 := m4'.at epb (by simp)
          have hs4 := m4'.at hs3 (by simp)
          generalize upd G3 kd (.dT (setD S)) = G4 at *
          refine ⟨(by show 5 ≤ sizeLine; decide), fun ia nia => ?_⟩
          have eia : upd G4 ia (.lst [iN to, iN (ww.wo.getD h 0), .ref pb, .non, .ref kd]) ia = some (.lst [iN to, iN (ww.wo.getD h 0), .ref pb, .non, .ref kd]) := upd_same
          have m5' : Mv [] G4 (upd G4 ia (.lst [iN to, iN (ww.wo.getD h 0), .ref pb, .non, .ref kd])) := Mv.new nia
          have ian : ia ∉ (⟨lw, lk, di, ks, as⟩ : WA).all := fun z => hW4.live ia z nia
          have hW5 := hW4.mv m5'
          have epb5 := m5'.at epb4 (by simp)
          have ekd5 := m5'.at ekd (by simp)
          have hs5 := m5'.at hs4 (by simp)
          have mm5 := (m3.trans m4').trans m5'
          generalize upd G4 ia (.lst [iN to, iN (ww.wo.getD h 0), .ref pb, .non, .ref kd]) = G5 at *
          refine ⟨_, rfl, _, rfl, _, rfl, _, rfl, _, _, _, _, rfl, rfl, SqL.of hs5, atI_nat (nats_get hse), (by show 2 ≤ sizeLine; decide), fun t nt => ?_⟩
          have et : upd G5 t (.tup [iN h, iN (ww.se.getD h 0)]) t = some (.tup [iN h, iN (ww.se.getD h 0)]) := upd_same
          have m6 : Mv [] G5 (upd G5 t (.tup [iN h, iN (ww.se.getD h 0)])) := Mv.new nt
          have hW6 := hW5.mv m6
          have hs6 := m6.at hs5 (by simp)
          have hit : ItemAt (upd G5 t (.tup [iN h, iN (ww.se.getD h 0)])) (di :: ks) ⟨to, ww.wo.getD h 0, (h, s), none, S⟩ ia := ⟨pb, kd, .non, m6.at eia (by simp), m6.at epb5 (by simp), rfl, m6.at ekd5 (by simp), kdn⟩
          have mm6 := mm5.trans m6
          have hDi := hW6.di
          clear m6
          generalize upd G5 t (.tup [iN h, iN (ww.se.getD h 0)]) = G6 at *
          replace hDi : G6 di = some (.dT (kvI ww.it as)) := hDi
          refine ⟨di, _, rfl, DPut.t (k := nk (h, ww.se.getD h 0)) hDi et (by rw [kvI_len hW6.it.len]; exact Nat.lt_of_le_of_lt (Nat.le_trans wi.len il) (by decide)), ?_⟩
          have hW7 := hW6.addIt (q := (h, ww.se.getD h 0)) fresh hit ian
          replace hW7 : WAt (upd G6 di (.dT (putK (kvI ww.it as) (nk (h, ww.se.getD h 0)) (.ref ia)))) { ww with kn := bown tabs.length ww.kn h s, it := ww.it ++ [((h, ww.se.getD h 0), ⟨to, ww.wo.getD h 0, (h, s), none, S⟩)] } ⟨lw, lk, di, ks, as ++ [ia]⟩ := hW7
          have m7 : Mv [di] G6 (upd G6 di (.dT (putK (kvI ww.it as) (nk (h, ww.se.getD h 0)) (.ref ia)))) := Mv.upd (by simp)
          have hs7 := m7.at hs6 (by simp; exact fun z => ls_all (by rw [z]; simp [WA.all]))
          have h26 := mm6.at h2' (by simp)
          have bdi : b ≠ di := fun z => by
            rw [z, hDi] at h26; cases h26
          have h27 := m7.at h26 (by simp; exact bdi)
          have dn : H di = none := all0 di (by simp [WA.all])
          have hm7 : Mv [] H (upd G6 di (.dT (putK (kvI ww.it as) (nk (h, ww.se.getD h 0)) (.ref ia)))) := (((hm2.trans mm6).mono (S' := [di]) (by simp)).trans m7).weak (by simp [dn])
          generalize upd G6 di (.dT (putK (kvI ww.it as) (nk (h, ww.se.getD h 0)) (.ref ia))) = G7 at *
          refine ⟨_, rfl, _, rfl, _, _, _, _, rfl, rfl, SqL.of hs7, atI_nat (nats_get hse), _, _, rfl, rfl, _, rfl, _, rfl, _, _, _, _, rfl, rfl, hs7, ixN_nat (by rw [List.length_map, sel]; exact hh), ?_⟩
          have e5 : (ww.se.map iN).set h (.int ((ww.se.getD h 0 : Nat) + 1 : Int)) = (ww.se.set h (ww.se.getD h 0 + 1)).map iN := by rw [← set_iN]; rfl
          dsimp only
          rw [e5]
          have m8 : Mv [ls] G7 (upd G7 ls (.lst ((ww.se.set h (ww.se.getD h 0 + 1)).map iN))) := Mv.upd (by simp)
          have hs8 : NatsL (upd G7 ls (.lst ((ww.se.set h (ww.se.getD h 0 + 1)).map iN))) ls (ww.se.set h (ww.se.getD h 0 + 1)) := upd_same
          have hW8 : WAt (upd G7 ls (.lst ((ww.se.set h (ww.se.getD h 0 + 1)).map iN))) { ww with kn := bown tabs.length ww.kn h s, it := ww.it ++ [((h, ww.se.getD h 0), ⟨to, ww.wo.getD h 0, (h, s), none, S⟩)] } ⟨lw, lk, di, ks, as ++ [ia]⟩ := hW7.other (by
            have e : (⟨lw, lk, di, ks, as ++ [ia]⟩ : WA).all = (⟨lw, lk, di, ks, as⟩ : WA).all ++ [ia] := by simp [WA.all]
            rw [e, List.mem_append, not_or, List.mem_singleton]
            exact ⟨ls_all, ne_none (some_ne hs4) nia⟩) hs7
          have hls' : ls ∉ as ++ [ia] := by
            rw [List.mem_append, not_or, List.mem_singleton]
            exact ⟨hls, ne_none (some_ne hs4) nia⟩
          have bls : b ≠ ls := fun z => by
            rw [z, hs7] at h27; cases h27
          have h28 := m8.at h27 (by simp; exact bls)
          have hm8 : Mv [] H (upd G7 ls (.lst ((ww.se.set h (ww.se.getD h 0 + 1)).map iN))) := ((hm7.mono (S' := [ls]) (by simp)).trans m8).weak (by simp [nls1])
          have has' : ∀ a ∈ as ++ [ia], H a = none := by
            intro a ha
            rcases List.mem_append.mp ha with h | h
            · exact has a h
            · rw [List.mem_singleton] at h
              rw [h]; exact hm2.none ((m3.trans m4').none nia)
          generalize upd G7 ls (.lst ((ww.se.set h (ww.se.getD h 0 + 1)).map iN)) = G8 at *
          refine ⟨_, rfl, _, _, _, _, rfl, rfl, SqT.of h28, atI_nat (j := 0) rfl, rfl, _, rfl, str_no (by decide) ?_⟩
          refine ⟨as ++ [ia], ⟨_, _, _, _, rfl⟩, ?_, hs8, has', hls', hm8⟩
          show WAt G8 { wo := ww.wo, se := _, kn := bown tabs.length ww.kn h s, it := ww.it ++ [((h, ww.se.getD h 0), ⟨to, ww.wo.getD h 0, (h, s), none, (bown tabs.length ww.kn h s).getD h []⟩)] } _
          rw [eS2]
          exact ⟨hW8.nd, hW8.wo, hW8.kl, hW8.kn, hW8.di, hW8.it⟩
        | take h f k =>
          dsimp only [Deed.hand] at *
          refine ⟨_, rfl, _, _, _, _, rfl, rfl, SqT.of h2', atI_nat (j := 0) rfl, rfl, _, rfl, str_no (by decide) ?_⟩
          refine ⟨_, rfl, _, _, _, _, rfl, rfl, SqT.of h2', atI_nat (j := 0) rfl, rfl, _, rfl, str_no (by decide) ?_⟩
          refine ⟨_, rfl, _, _, _, _, rfl, rfl, SqT.of h2', atI_nat (j := 0) rfl, rfl, _, rfl, str_yes ?_⟩
          have hwo : ww.wo[h]? = some (ww.wo.getD h 0) := getD_get (by rw [wol]; exact hh)
          have hn : h < ks.length := by rw [← hW2.kn.len]; show h < (bown tabs.length ww.kn h s).length; rw [hkl]; exact hh
          have ea : ks[h]? = some ks[h] := List.getElem?_eq_getElem hn
          have ea' : (ks.map V.ref)[h]? = some (V.ref ks[h]) := by rw [List.getElem?_map, ea]; rfl
          obtain ⟨S, hS, eS⟩ := hW2.kn.getR ea
          replace hS : (bown tabs.length ww.kn h s)[h]? = some S := hS
          have eS2 : (bown tabs.length ww.kn h s).getD h [] = S := by rw [List.getD_eq_getElem?_getD, hS]; rfl
          have bx := hkb S (List.mem_of_getElem? hS)
          obtain ⟨l, hl⟩ := (ok.take h f k rfl).2.2
          have hit : ∃ it, aget ww.it (f, k) = some it := by
            cases e : aget ww.it (f, k) with
            | some it => exact ⟨it, rfl⟩
            | none => have := (wi.none_ _ e).1; rw [hl] at this; cases this
          obtain ⟨it, hit⟩ := hit
          have bm : Box tabs.length it.kn := bi.bo _ (aget_mem (wi.some_ _ _ hit).2)
          refine ⟨_, rfl, _, rfl, 2, rfl, b, _, rfl, SqT.of h2', cut2_part h f k, fun c nc => ?_⟩
          rw [cut2]
          have ec : upd G2 c (.tup [iN f, iN k]) c = some (.tup [iN f, iN k]) := upd_same
          have m3 : Mv [] G2 (upd G2 c (.tup [iN f, iN k])) := Mv.new nc
          have hW3 := hW2.mv m3
          have eS3 := m3.at eS (by simp)
          have hs3 := m3.at hs2 (by simp)
          generalize upd G2 c (.tup [iN f, iN k]) = G3 at *
          have hDi := hW3.di
          replace hDi : G3 di = some (.dT (kvI ww.it as)) := hDi
          obtain ⟨j, ia, hj1, hj2, hj3⟩ := kvI_at hW3.it.len hit
          replace hj2 : as[j]? = some ia := hj2
          replace hj3 : valV (kvI ww.it as) (nk (f, k)) = some (V.ref ia) := hj3
          refine ⟨di, _, rfl, DGet.t (k := nk (f, k)) hDi ec |> fun x => by rw [hj3] at x; exact x, ?_⟩
          obtain ⟨b', hb', hitm⟩ := hW3.it.getL hj1
          have eb' : b' = ia := Option.some.inj (hb'.symm.trans hj2)
          rw [eb'] at hitm
          obtain ⟨pb, kd, tv3, hi1, hi2, hi3, hi4, hi5⟩ := hitm
          refine ⟨_, rfl, _, rfl, (by show 2 ≤ sizeLine; decide), fun u nu => ?_⟩
          have eu : upd G3 u (.tup [iN h, iN s]) u = some (.tup [iN h, iN s]) := upd_same
          have m4' : Mv [] G3 (upd G3 u (.tup [iN h, iN s])) := Mv.new nu
          have hW4 := hW3.mv m4'
          have eS4 := m4'.at eS3 (by simp)
          have hs4 := m4'.at hs3 (by simp)
          have hi1' := m4'.at hi1 (by simp)
          have hi2' := m4'.at hi2 (by simp)
          have hi4' := m4'.at hi4 (by simp)
          generalize upd G3 u (.tup [iN h, iN s]) = G4 at *
          refine ⟨_, rfl, _, _, _, _, rfl, rfl, hi1', ixN_nat (j := 3) (by show 3 < 5; decide), ?_⟩
          have iaas : ia ∈ as := List.mem_of_getElem? hj2
          have iaall : ia ∈ (⟨lw, lk, di, ks, as⟩ : WA).all := by simp [WA.all, iaas]
          have e5 : upd G4 ia (.lst ([iN it.to, iN it.wo, .ref pb, tv3, .ref kd].set 3 (.ref u))) = upd G4 ia (.lst [iN it.to, iN it.wo, .ref pb, .ref u, .ref kd]) := rfl
          rw [e5]
          have m5' : Mv [ia] G4 (upd G4 ia (.lst [iN it.to, iN it.wo, .ref pb, .ref u, .ref kd])) := Mv.upd (by simp)
          have k5 : TK G4 (upd G4 ia (.lst [iN it.to, iN it.wo, .ref pb, .ref u, .ref kd])) := TK.upd fun xs z => by rw [hi1'] at z; cases z
          have kdia : kd ≠ ia := fun z => by rw [z, hi1'] at hi4'; cases hi4'
          have hW5 := hW4.setIt (i' := { it with tk := some (h, s) }) (o := .lst [iN it.to, iN it.wo, .ref pb, .ref u, .ref kd]) hj1 hj2 (fun xs z => by cases z) ⟨pb, kd, .ref u, upd_same, k5 _ _ hi2', ⟨u, rfl, k5 _ _ eu⟩, by rw [upd_ne kdia]; exact hi4', hi5⟩
          have hs5 := m5'.at hs4 (by simp; exact fun z => ls_all (z ▸ iaall))
          have hW5' : WAt _ { ww with kn := bown tabs.length ww.kn h s, it := ww.it.set j ((f, k), { it with tk := some (h, s) }) } ⟨lw, lk, di, ks, as⟩ := hW5
          have hi5' : upd G4 ia (.lst [iN it.to, iN it.wo, .ref pb, .ref u, .ref kd]) ia = some (.lst [iN it.to, iN it.wo, .ref pb, .ref u, .ref kd]) := upd_same
          have ekd5 := m5'.at hi4' (by simp; exact kdia)
          have ksia : ks[h] ≠ ia := fun z => by rw [z, hi1'] at eS4; cases eS4
          have eS5 := m5'.at eS4 (by simp; exact ksia)
          have hm5 : Mv [] H (upd G4 ia (.lst [iN it.to, iN it.wo, .ref pb, .ref u, .ref kd])) := (((hm2.trans (m3.trans m4')).mono (S' := [ia]) (by simp)).trans m5').weak (by simp [has ia iaas])
          clear hW5
          generalize upd G4 ia (.lst [iN it.to, iN it.wo, .ref pb, .ref u, .ref kd]) = G5 at *
          refine ⟨_, rfl, _, rfl, _, _, _, _, rfl, rfl, SqL.of hW5'.wo, atI_nat (nats_get hwo), _, _, rfl, rfl, .inl ⟨by decide, by decide⟩, ?_⟩
          refine ⟨_, rfl, _, _, _, _, rfl, rfl, SqL.of hi5', atI_nat (j := 1) rfl, _, _, rfl, rfl, _, _, rfl, rfl, _, _, rfl, rfl, (by show (0 : Int) < 1000; decide), ?_⟩
          refine ⟨_, rfl, _, rfl, _, _, _, _, rfl, rfl, hW5'.wo, ixN_nat (by rw [List.length_map]; show h < ww.wo.length; rw [wol]; exact hh), ?_⟩
          have e6 : (ww.wo.map iN).set h (.int ((3 * (ww.wo.getD h 0 : Nat) + (it.wo : Nat) + 1 : Int) % 1000)) = (ww.wo.set h ((3 * ww.wo.getD h 0 + it.wo + 1) % 1000)).map iN := by
            rw [← set_iN]
            congr 2
          dsimp only
          rw [e6]
          have hW6 := hW5'.setWo (ns := ww.wo.set h ((3 * ww.wo.getD h 0 + it.wo + 1) % 1000))
          have m6 : Mv [lw] G5 (upd G5 lw (.lst ((ww.wo.set h ((3 * ww.wo.getD h 0 + it.wo + 1) % 1000)).map iN))) := Mv.upd (by simp)
          have lwne : ∀ {x : Addr} {S : List (List Key × V)}, G5 x = some (.dT S) → x ≠ lw := fun e z => by
            rw [z] at e
            have := hW5'.wo.symm.trans e; cases this
          have n5 := WNe.of hW5'.nd
          have hs6 := m6.at hs5 (by simp; exact fun z => ls_all (by rw [z]; simp [WA.all]))
          have hi6 := m6.at hi5' (by simp; exact mem_ne iaas n5.was)
          have ekd6 := m6.at ekd5 (by simp; exact lwne ekd5)
          have eS6 := m6.at eS5 (by simp; exact lwne eS5)
          have hm6 : Mv [] H (upd G5 lw (.lst ((ww.wo.set h ((3 * ww.wo.getD h 0 + it.wo + 1) % 1000)).map iN))) := ((hm5.mono (S' := [lw]) (by simp)).trans m6).weak (by simp [nlw])
          generalize upd G5 lw (.lst ((ww.wo.set h ((3 * ww.wo.getD h 0 + it.wo + 1) % 1000)).map iN)) = G6 at *
          refine ⟨_, rfl, _, rfl, _, _, _, _, rfl, rfl, SqL.of hW6.kl, atI_nat ea', .inr (.inr (.inl ⟨rfl, .inr ⟨_, eS6⟩⟩)), ?_⟩
          refine ⟨_, rfl, _, _, _, _, rfl, rfl, SqL.of hi6, atI_nat (j := 4) rfl, ?_⟩
          refine ⟨ks[h], kd, setD S, setD it.kn, rfl, rfl, fun z => hi5 (by rw [← z]; exact List.mem_cons_of_mem _ (List.getElem_mem hn)), eS6, ekd6, .inr (box_apart bm h4), ?_, ?_⟩
          · rw [setD_len, setD_len]
            have x1 := box_few bx h4
            have x2 := box_few bm h4
            exact Nat.le_trans (by omega : _ ≤ 340) (by decide)
          rw [setD_upd]
          have hW7 := hW6.setKn (S := kupd S it.kn) ea
          have m7 : Mv [ks[h]] G6 (upd G6 ks[h] (.dT (setD (kupd S it.kn)))) := Mv.upd (by simp)
          have hs7 := m7.at hs6 (by simp; exact fun z => ls_all (by rw [z]; exact ks_all _ (List.getElem_mem hn)))
          have hm7 : Mv [] H (upd G6 ks[h] (.dT (setD (kupd S it.kn)))) := ((hm6.mono (S' := [ks[h]]) (by simp)).trans m7).weak (by simp [allN _ (ks_all _ (List.getElem_mem hn))])
          refine ⟨as, ⟨_, _, _, _, rfl⟩, ?_, ?_, has, hls, hm7⟩
          · have ews : wstep tabs.length ww (.take h f k, s) = { ww with it := arep ww.it (f, k) { it with tk := some (h, s) }, wo := ww.wo.set h ((3 * ww.wo.getD h 0 + it.wo + 1) % 1000), kn := (bown tabs.length ww.kn h s).set h (kupd ((bown tabs.length ww.kn h s).getD h []) it.kn) } := by
              show (match aget ww.it (f, k) with | some i => _ | none => _ : Ws) = _
              rw [hit]
            rw [ews, eS2, arep_set wi.nd hj1]
            exact hW7
          · have ews : (wstep tabs.length ww (.take h f k, s)).se = ww.se := by
              show (match aget ww.it (f, k) with | some i => _ | none => _ : Ws).se = _
              rw [hit]
            rw [ews]
            exact hs7
      · intro σ H' ⟨as, ⟨x6, x7, x8, x9, hσ⟩, hW, hs, has, hls, hm⟩
        subst hσ
        rw [← hA.len, List.take_length] at hW
        refine fun v nv => ?_
        have ev : upd H' v (.dK []) v = some (.dK []) := upd_same
        have mv : Mv [] H' (upd H' v (.dK [])) := Mv.new nv
        refine ⟨_, rfl, _, rfl, _, rfl, ev, [(.inr "worths", .ref lw), (.inr "knows", .ref lk), (.inr "items", .ref di)], rfl, by simp, ?_⟩
        have mvv : Mv [] H' (upd (upd H' v (.dK [])) v (.dK (mergeK [] [((Sum.inr "worths" : Key), V.ref lw), (.inr "knows", .ref lk), (.inr "items", .ref di)]))) := mv.own nv
        refine kq _ v ⟨lw, lk, di, ks, as⟩ (hm.trans mvv) ?_ (by rw [upd_same]; rfl) (hW.mv mvv)
        intro a ha
        have e : (⟨lw, lk, di, ks, as⟩ : WA).all = (⟨lw, lk, di, ks, []⟩ : WA).all ++ as := by simp [WA.all]
        rw [e] at ha
        exact (List.mem_append.mp ha).elim (all0 a) (has a)
end
end Lor
end

section
set_option Elab.async false
set_option linter.all false
set_option maxRecDepth 100000
set_option maxHeartbeats 4000000
namespace Lor
open PySem PySem.Spec PyProof.Rows L2
theorem count_sends (rows : List Row) (h : Nat) (l : List Row) (hl : ∀ r ∈ l, isTake h r = false) : count (rows ++ l) h = count rows h := by
  unfold count
  rw [List.filter_append, List.length_append]
  have : l.filter (isTake h) = [] := by
    rw [List.filter_eq_nil_iff]
    intro r hr
    rw [hl r hr]; simp
  rw [this]; rfl
section
variable {P : Program} {w : World} {K : PySem.W.Frag} {mg : Str → Option Value} {base : Heap} {tabs : Tabs}
def spLSends (tabs : Tabs) : Sp := fun vs H Q _ => ∃ (A : LoA) (rows : List Row) (wr : List Nat) (n h : Nat), vs = [.ref A.d, iN h] ∧ LTownAt tabs H rows wr A n ∧ TabsOk tabs ∧ Fit tabs.length rows ∧ rows.length ≤ 900 ∧ h < tabs.length ∧
  ∀ H', Mv A.all H H' → LTownAt tabs H' (sendAll tabs rows h) wr A n → Q .non H'
theorem sc41 : FnScope ["_law_town_here", "_law_who", "_law_own_here", "_law_worth", "_law_to"] ["_law_town_here", "_law_who"] (defScope (top 41)) := ⟨rfl, rfl, rfl, by decide +kernel, rfl, by decide +kernel, by decide +kernel⟩
theorem ok_lsends (D : DefAt K mg "_law_town_sends" (top 41)) (B : Bl mg) (GW : LCal P w K mg base 1 "_law_town_walk" (spLWalk tabs)) (GC : LCal P w K mg base 1 "_law_town_count" (spLCount tabs)) : LCal P w K mg base 2 "_law_town_sends" (spLSends tabs) := by
  refine cal_of D sc41 (fun _ _ _ _ _ _ us hl => match us, hl with | [_, _], _ => rfl) (fun vs H Q E h => ?_) (fun f cdv Ar outer s H vs Q E hr h => ?_)
  · obtain ⟨A, rows, wr, n, h, rfl, _⟩ := h
    rfl
  · obtain ⟨A, rows, wr, n, h, rfl, hT, ok, hf, h900, hh, kq⟩ := h
    have nd := sc41.nd
    refine ⟨_, (pss_cons (ps_set (i := 2) nd rfl (Or.inl rfl) (pe_ix ix_tup (pe_dget (hu_of hr) (pv 0) pe_str (fun _ _ => rfl)) (pv 1) (fun _ _ => rfl)))
 (pss_cons (ps_set (i := 3) nd rfl (Or.inl rfl) (pe_ix ix_list (pe_dget (hu_of hr) (pe_f GW hr (by decide) (pa_cons (pv 0) pa_nil)) pe_str (fun _ _ => rfl)) (pv 1) (fun _ _ => rfl)))
 (pss_one (ps_for PassesOwn.never rfl (pi_tup (pe_ix ix_tup (pv 2) (pe_op op_mod (pv 3) (pe_callB call_len_seq (by rfl) B.len PySem.boot_len (pa_cons (pv 2) pa_nil))) (fun _ _ => rfl))) (pg_name (i := 4) nd rfl (Or.inl rfl))
 (pss_one (ps_expr (pe_bm PySem.F.plainAttrs_list PySem.F.slot_list_append PySem.F.type_list_append mt_append (pe_dget (hu_of hr) (pv 0) pe_str (fun _ _ => rfl)) (pa_cons (pe_tup (pa_cons (pe_tup (pa_cons pe_str (pa_cons (pv 1) (pa_cons (pv 4) pa_nil)))) (pa_cons (pe_f GC hr (by decide) (pa_cons (pv 0) (pa_cons (pv 1) pa_nil))) pa_nil))) pa_nil)))))))), ?_⟩
    obtain ⟨tv, ⟨tb, tvs, rfl, htb, htA⟩, ob⟩ := hT.tab
    have hth : tabs[h]? = some tabs[h] := List.getElem?_eq_getElem hh
    obtain ⟨ov, hov, ⟨oa, ovs, rfl, hoa, hoA⟩⟩ := htA.getL hth
    have hok := ok.own h _ hth
    refine ⟨_, rfl, A.d, _, rfl, dgk (k := .inr "tables") ob lo_tables, _, rfl, _, _, _, _, rfl, rfl, SqT.of htb, atI_nat hov, ?_⟩
    refine ⟨_, rfl, A, rows, wr, n, rfl, hT, ok.four, hf, fun H1 v W m1 hn hv hW => ?_⟩
    have wi := winv hf.valid
    have hwl : h < (lwalk tabs.length rows).wo.length := by rw [wi.wo, going_wo]; omega
    refine ⟨v, _, rfl, dgk (k := .inr "worths") hv rfl, _, rfl, _, _, _, _, rfl, rfl, SqL.of hW.wo, atI_nat (nats_get (getD_get hwl)), ?_⟩
    have hoa1 := m1.at hoa (by simp)
    have hol : ovs.length = tabs[h].length := hoA.len.symm
    refine ⟨_, rfl, _, rfl, _, rfl, oa, _, rfl, .inr (SqT.of hoa1), _, _, rfl, rfl, by rw [hol]; omega, ?_⟩
    rw [wi.wo]
    generalize hwo : (going (tabs.length + 1) rows).wo.getD h 0 = wo at *
    have hmod : ((wo : Int) % (ovs.length : Nat)) = ((wo % tabs[h].length : Nat) : Int) := by rw [hol]; omega
    have hlt : wo % tabs[h].length < tabs[h].length := Nat.mod_lt _ (by omega)
    have htg : tabs[h][wo % tabs[h].length]? = some tabs[h][wo % tabs[h].length] := List.getElem?_eq_getElem hlt
    obtain ⟨gv, hgv, ⟨ga, rfl, hga⟩⟩ := hoA.getL htg
    refine ⟨oa, _, _, _, rfl, rfl, SqT.of hoa1, by rw [hmod]; exact atI_nat hgv, ?_⟩
    have hts : targets tabs rows h = tabs[h][wo % tabs[h].length] := by
      unfold targets
      have e1 : tabs.getD h [] = tabs[h] := by rw [List.getD_eq_getElem?_getD, hth]; rfl
      rw [e1, hwo, List.getD_eq_getElem?_getD, htg]; rfl
    have h3 := (hok.2.2 _ (List.mem_of_getElem? htg)).1
    generalize tabs[h][wo % tabs[h].length] = ts at *
    have hT1 := hT.mv m1
    have hga1 := m1.at hga (by simp)
    have few := hf.few
    have gaA : ∀ {G : Hp}, Mv A.all H1 G → G ga = some (.tup (ts.map iN)) := fun m => m.at hga1 fun z => by
      obtain ⟨o, e, ne⟩ := hT1.live ga z
      rw [hga1] at e
      exact ne _ (Option.some.inj e).symm
    refine ⟨ga, rfl, ⟨_, SqT.of hga1⟩, ?_⟩
    refine for_tup (xs := ts.map iN) (fun i σ G => (∃ x4, σ = [some (.ref A.d), some (iN h), some (.ref oa), some (iN wo), x4]) ∧ Mv A.all H1 G ∧ LTownAt tabs G (rows ++ (ts.take i).map fun to => (.send h to, count rows h)) wr A n) ?_ ?_ ?_ ?_
    · exact ⟨⟨_, rfl⟩, Mv.refl _ _, by simpa using hT1⟩
    · exact fun i σ G _ p => SqT.of (gaA p.2.1)
    · intro i x σ G1 hx ⟨⟨x4, hσ⟩, m2, hT2⟩
      subst hσ
      obtain ⟨t, ht', rfl⟩ : ∃ t, ts[i]? = some t ∧ x = iN t := by
        rw [List.getElem?_map] at hx
        cases e : ts[i]? with
        | none => rw [e] at hx; cases hx
        | some t => rw [e] at hx; exact ⟨t, rfl, (Option.some.inj hx).symm⟩
      have hi := lt_of_get ht'
      obtain ⟨tv2, _, ob2⟩ := hT2.tab
      obtain ⟨vs, hv2, hA2⟩ := hT2.rows
      have rl : (rows ++ (ts.take i).map fun to => ((.send h to, count rows h) : Row)).length ≤ 903 := by
        rw [List.length_append, List.length_map, List.length_take]; omega
      refine ⟨_, rfl, A.d, _, rfl, dgk (k := .inr "rows") ob2 lo_rows, .inl ⟨rfl, _, SqL.of hv2⟩, ?_⟩
      refine ⟨_, rfl, _, rfl, (by show 3 ≤ sizeLine; decide), fun p np => ?_⟩
      have ep : upd G1 p (.tup [.str "send", iN h, iN t]) p = some (.tup (enc (.send h t))) := upd_same
      have m3 : Mv [] G1 (upd G1 p (.tup [.str "send", iN h, iN t])) := Mv.new np
      generalize upd G1 p (.tup [.str "send", iN h, iN t]) = G2 at *
      have hT3 := hT2.mv m3
      refine ⟨_, rfl, _, rfl, A, _, wr, n, h, rfl, hT3, Nat.le_trans rl (by decide), fun G3 m4 => ?_⟩
      rw [count_sends _ _ _ (by intro r hr; obtain ⟨z, _, e⟩ := List.mem_map.mp hr; rw [← e]; rfl)]
      refine ⟨(by show 2 ≤ sizeLine; decide), fun q nq => ?_⟩
      have m5 : Mv [] G3 (upd G3 q (.tup [.ref p, iN (count rows h)])) := Mv.new nq
      have hra : RowAt (upd G3 q (.tup [.ref p, iN (count rows h)])) (.send h t, count rows h) (.ref q) := ⟨q, p, rfl, upd_same, m5.at (m4.at ep (by simp)) (by simp)⟩
      have m45 := m4.trans m5
      have hT5 := hT3.mv m45
      have hv5 := (m3.trans m45).at hv2 (by simp)
      clear m5
      generalize upd G3 q (.tup [.ref p, iN (count rows h)]) = G4 at *
      refine ⟨_, _, _, rfl, rfl, hv5, by rw [← hA2.len]; exact Nat.lt_of_le_of_lt rl (by decide), ?_⟩
      have hT6 := hT5.addRow hv5 hra
      refine ⟨⟨_, rfl⟩, (m2.trans ((m3.trans m45).mono (by simp))).trans (Mv.upd (by simp [LoA.all])), ?_⟩
      rw [take_snoc ht', List.map_append, ← List.append_assoc]
      exact hT6
    · intro σ G ⟨_, m2, hT2⟩
      rw [List.length_map, List.take_length] at hT2
      have e : sendAll tabs rows h = rows ++ ts.map fun to => (.send h to, count rows h) := by unfold sendAll; rw [hts]
      refine kq G ((m1.mono (by simp)).trans m2) ?_
      rw [e]; exact hT2
def spLWrite (tabs : Tabs) : Sp := fun vs H Q _ => ∃ (A : LoA) (rows : List Row) (wr : List Nat) (n h : Nat), vs = [.ref A.d, iN h] ∧ LTownAt tabs H rows wr A n ∧ h < wr.length ∧
  ∀ H', Mv [A.lw] H H' → LTownAt tabs H' rows (wr.set h (wr.getD h 0 + 1)) A n → Q .non H'
theorem sc42 : FnScope ["_law_town_here", "_law_who"] ["_law_town_here", "_law_who"] (defScope (top 42)) := ⟨rfl, rfl, rfl, by decide +kernel, rfl, by decide +kernel, by decide +kernel⟩
theorem ok_lwrite (D : DefAt K mg "_law_town_write" (top 42)) : LCal P w K mg base 1 "_law_town_write" (spLWrite tabs) := by
  refine cal_of D sc42 (fun _ _ _ _ _ _ us hl => match us, hl with | [_, _], _ => rfl) (fun vs H Q E h => ?_) (fun f cdv Ar outer s H vs Q E hr h => ?_)
  · obtain ⟨A, rows, wr, n, h, rfl, _⟩ := h
    rfl
  · obtain ⟨A, rows, wr, n, h, rfl, hT, hh, kq⟩ := h
    have nd := sc42.nd
    refine ⟨_, (pss_cons (ps_asg (pe_op op_add (pe_ix ix_list (pe_dget (hu_of hr) (pv 0) pe_str (fun _ _ => rfl)) (pv 1) (fun _ _ => rfl)) pe_int) (pg_sub (pe_dget (hu_of hr) (pv 0) pe_str (fun _ _ => rfl)) (pv 1) set_list))
 (pss_one (ps_if (pt_cmpR op_eq (pe_dget (hu_of hr) (pv 0) pe_str (fun _ _ => rfl)) pe_str (nomark _))
 pss_never
 pss_nil))), ?_⟩
    obtain ⟨tv, _, ob⟩ := hT.tab
    have hwi : wr[h]? = some (wr.getD h 0) := getD_get hh
    refine ⟨_, rfl, A.d, _, rfl, dgk (k := .inr "written") ob lo_wr, _, rfl, _, _, _, _, rfl, rfl, SqL.of hT.wr, atI_nat (nats_get hwi), _, _, rfl, rfl, ?_⟩
    refine ⟨_, rfl, A.d, _, rfl, dgk (k := .inr "written") ob lo_wr, _, rfl, _, _, _, _, rfl, rfl, hT.wr, ixN_nat (by rw [List.length_map]; exact hh), ?_⟩
    have e5 : (wr.map iN).set h (.int ((wr.getD h 0 : Nat) + 1 : Int)) = (wr.set h (wr.getD h 0 + 1)).map iN := by rw [← set_iN]; rfl
    dsimp only
    rw [e5]
    have hT2 := hT.setWr (ns := wr.set h (wr.getD h 0 + 1))
    obtain ⟨tv2, _, ob2⟩ := hT2.tab
    refine ⟨_, rfl, A.d, _, rfl, dgk (k := .inr "kind") ob2 lo_kind, rfl, _, rfl, str_no (by decide) ?_⟩
    exact kq _ (Mv.upd (by simp)) hT2
end
end Lor
end

section
set_option Elab.async false
set_option linter.all false
set_option maxRecDepth 100000
set_option maxHeartbeats 4000000
namespace Lor
open PySem PySem.Spec PyProof.Rows L2
theorem gstep_has {g : Gs} {d : Deed} {q : Nm} (h : ahas g.ls q = true) : ahas (gstep g d).ls q = true := by
  cases d with
  | own h' x => exact h
  | keep h' => exact h
  | send h' to => exact ahas_aput_mono h
  | take h' f k =>
    show ahas (match aget g.ls (f, k) with | some l => _ | none => g : Gs).ls q = true
    cases aget g.ls (f, k) with
    | none => exact h
    | some l => exact ahas_aput_mono h
theorem going_has {m : Nat} {q : Nm} (l : List Row) : ∀ {l' : List Row}, ahas (going m l).ls q = true → ahas (going m (l ++ l')).ls q = true := by
  intro l'
  induction l' using rev_ind with
  | h0 => rw [List.append_nil]; exact id
  | hs s a ih => intro h; rw [← List.append_assoc, going_snoc]; exact gstep_has (ih h)
/-- what a tell adds: takes of the outside, of letters to it that are under way -/
structure TellsN (many : Nat) (rows : List Row) (T : List Nm) : Prop where
  nd : T.Nodup
  few : T.length ≤ rows.length
  way : ∀ q ∈ T, ∃ l, aget (going (many + 1) rows).ls q = some l ∧ l.to = many ∧ l.tk = false
def tkRow (many : Nat) (q : Nm) : Row := (.take many q.1 q.2, 0)
def pd (q : Nm) : PyData := .tuple [.int q.1, .int q.2]
theorem dp_pairs {K : PySem.W.Frag} {H : Hp} : ∀ {qs : List Nm} {vs : List V}, All2 (PairR H) qs vs → DpAll K H vs (qs.map pd)
  | _, _, .nil => .nil
  | _, _, .cons (a := q) h t => by
    obtain ⟨a, rfl, ha⟩ := h
    exact .cons (dp_pair ha) (dp_pairs t)
theorem can_pairs : ∀ l : List Nm, PyData.canLayAll0 (l.map pd) = true
  | [] => rfl
  | a :: r => by
    show PyData.canLayAll0 (pd a :: _) = true
    rw [PyData.canLayAll0, can_pairs r]; rfl
theorem depth_pairs : ∀ l : List Nm, PyData.depthAll (l.map pd) ≤ 2
  | [] => by decide
  | a :: r => by
    show PyData.depthAll (pd a :: _) ≤ 2
    rw [PyData.depthAll]
    exact Nat.max_le.mpr ⟨by simp [pd, PyData.depth, PyData.depthAll], depth_pairs r⟩
theorem shaped_pairs (l : List Nm) : SeqAt.shaped (.list (l.map pd)) = true := by
  unfold SeqAt.shaped
  rw [Bool.and_eq_true]
  refine ⟨?_, decide_eq_true ?_⟩
  · rw [PyData.canLay0]; exact can_pairs l
  · rw [PyData.depth]; have := depth_pairs l; omega
section
variable {P : Program} {w : World} {K : PySem.W.Frag} {mg : Str → Option Value} {base : Heap} {tabs : Tabs}
def spLTell (tabs : Tabs) : Sp := fun vs H Q _ => ∃ (A : LoA) (rows : List Row) (wr : List Nat) (n : Nat), vs = [.ref A.d] ∧ LTownAt tabs H rows wr A n ∧ tabs.length ≤ 4 ∧ Valid tabs.length rows ∧ rows.length ≤ 400 ∧ wr.length = tabs.length ∧ n ≤ 100000 ∧
  ∀ (H' : Hp) (T : List Nm), Mv A.all H H' → TellsN tabs.length rows T → LTownAt tabs H' (rows ++ T.map (tkRow tabs.length)) wr A (n + T.length) → Q .non H'
theorem sc47 : FnScope ["_law_town_here", "_law_walk", "_law_goes", "_law_deed", "_law_step", "_law_name", "_law_to", "_law_worth", "_law_by", "_law_taken", "_law_knows", "_law_fresh", "_law_one"] ["_law_town_here"] (defScope (top 47)) := ⟨rfl, rfl, rfl, by decide +kernel, rfl, by decide +kernel, by decide +kernel⟩
theorem ok_ltell (D : DefAt K mg "_law_town_tell" (top 47)) (B : Bl mg) (GW : LCal P w K mg base 1 "_law_town_walk" (spLWalk tabs)) : LCal P w K mg base 2 "_law_town_tell" (spLTell tabs) := by
  refine cal_of D sc47 (fun _ _ _ _ _ _ us hl => match us, hl with | [_], _ => rfl) (fun vs H Q E h => ?_) (fun f cdv Ar outer s H vs Q E hr h => ?_)
  · obtain ⟨A, rows, wr, n, rfl, _⟩ := h
    rfl
  · obtain ⟨A, rows, wr, n, rfl, hT, h4, hval, hfew, hwl, hn, kq⟩ := h
    have nd := sc47.nd
    refine ⟨_, (pss_cons (ps_set (i := 1) nd rfl (Or.inl rfl) (pe_f GW hr (by decide) (pa_cons (pv 0) pa_nil)))
 (pss_cons (ps_set (i := 2) nd rfl (Or.inl rfl) (pe_op op_rep (pe_lst (pa_cons pe_int pa_nil)) (pe_op op_add (pe_dget (hu_of hr) (pv 0) pe_str (fun _ _ => rfl)) pe_int)))
 (pss_one (ps_for PassesOwn.never rfl (pi_list (pe_callTy call_list_of (by rfl) B.list (by decide +kernel) (pa_cons (pe_dget (hu_of hr) (pv 0) pe_str (fun _ _ => rfl)) pa_nil))) (pg_tup (n := 2) rfl (pgs_cons (pg_name (i := 3) nd rfl (Or.inl rfl)) (pgs_cons (pg_name (i := 4) nd rfl (Or.inl rfl)) pgs_nil)))
 (pss_one (ps_if (pt_cmpR op_eq (pe_ix ix_tup (pv 3) pe_int (fun _ _ => rfl)) pe_str (nomark _))
 (pss_cons (ps_set (i := 5) nd rfl (Or.inl rfl) (pe_tup (pa_cons (pe_ix ix_tup (pv 3) pe_int (fun _ _ => rfl)) (pa_cons (pe_ix ix_list (pv 2) (pe_ix ix_tup (pv 3) pe_int (fun _ _ => rfl)) (fun _ _ => rfl)) pa_nil))))
 (pss_cons (ps_asg (pe_op op_add (pe_ix ix_list (pv 2) (pe_ix ix_tup (pv 3) pe_int (fun _ _ => rfl)) (fun _ _ => rfl)) pe_int) (pg_sub (pv 2) (pe_ix ix_tup (pv 3) pe_int (fun _ _ => rfl)) set_list))
 (pss_cons (ps_asg (pe_dget (hu_of hr) (pe_dget (hu_of hr) (pv 1) pe_str (fun _ _ => rfl)) (pv 5) (fun _ _ => rfl)) (pg_unl (n := 5) rfl (pgs_cons (pg_name (i := 6) nd rfl (Or.inl rfl)) (pgs_cons (pg_name (i := 7) nd rfl (Or.inl rfl)) (pgs_cons (pg_name (i := 8) nd rfl (Or.inl rfl)) (pgs_cons (pg_name (i := 9) nd rfl (Or.inl rfl)) (pgs_cons (pg_name (i := 10) nd rfl (Or.inl rfl)) pgs_nil)))))))
 (pss_cons (ps_lock (ps_setLc (i := 11) (own := [("_law_one", 12)]) (g := gName 12) rfl nd rfl rfl (sw_true rfl rfl rfl (by decide +kernel)) (pi_keys (pv 10)) (blkOk_by (own := [("_law_one", 12)]) (N := ["_law_town_here", "_law_walk", "_law_goes", "_law_deed", "_law_step", "_law_name", "_law_to", "_law_worth", "_law_by", "_law_taken", "_law_knows", "_law_fresh", "_law_one"]) (sc := defScope (top 47)) (by decide +kernel)) (fun _ _ _ _ _ => (pg_name (i := 12) nd rfl (Or.inl rfl))) (fun _ _ _ _ _ => pts_one (pt_cmpR op_gt (pe_ix (ix_tupK (K := K)) (pv 12) pe_int (fun _ _ => rfl)) (pe_ix (ix_listK (K := K)) (pe_dget (hu_of hr) (pv 0) pe_str (fun _ _ => rfl)) (pe_ix (ix_tupK (K := K)) (pv 12) pe_int (fun _ _ => rfl)) (fun _ _ => rfl)) (nomark _))) (fun _ _ _ _ _ => (pv 12))))
 (pss_one (ps_if (PW.pt (pw_and (pt_cmpR op_eq (pv 6) (pe_dget (hu_of hr) (pv 0) pe_str (fun _ _ => rfl)) (nomark _)) (pw_and (pt_cmp (pc_isN (pv 9))) (pw_and1 (pt_cmpR (op_eqD hr.units) (pv 11) (pe_lst pa_nil) (nomark _))))))
 (pss_cons (ps_expr (pe_bm PySem.F.plainAttrs_list PySem.F.slot_list_append PySem.F.type_list_append mt_append (pe_dget (hu_of hr) (pv 0) pe_str (fun _ _ => rfl)) (pa_cons (pe_tup (pa_cons (pe_op op_catT (pe_tup (pa_cons pe_str (pa_cons (pe_dget (hu_of hr) (pv 0) pe_str (fun _ _ => rfl)) pa_nil))) (pv 5)) (pa_cons pe_int pa_nil))) pa_nil)))
 (pss_one (ps_expr (pe_bm PySem.F.plainAttrs_list PySem.F.slot_list_append PySem.F.type_list_append mt_append (pe_dget (hu_of hr) (pv 0) pe_str (fun _ _ => rfl)) (pa_cons (pe_op op_catT (pv 5) (pe_tup (pa_cons (pv 7) pa_nil))) pa_nil)))))
 pss_nil))))))
 pss_nil)))))), ?_⟩
    have wi := winv hval
    have bi := binv hval
    have hf : Fit tabs.length rows := ⟨hval, Nat.le_trans hfew (by decide)⟩
    refine ⟨_, rfl, A, rows, wr, n, rfl, hT, h4, hf, fun H1 v W m1 hWn hv hW => ?_⟩
    have hT1 := hT.mv m1
    obtain ⟨tv, _, ob⟩ := hT1.tab
    refine rd_rep2 (m := tabs.length + 1) (fun H' Q m q => ⟨_, rfl, A.d, _, rfl, dgk (k := .inr "many") (m.at ob (by simp)) lo_many, _, _, rfl, rfl, q⟩) (by omega) fun gs H2 ngs egs m2 => ?_
    have hT2 := hT1.mv m2
    have hW2 := hW.mv m2
    have hv2 := m2.at hv (by simp)
    obtain ⟨tv2, _, ob2⟩ := hT2.tab
    obtain ⟨vs, hvs, hA⟩ := hT2.rows
    refine ⟨_, rfl, A.d, _, rfl, dgk (k := .inr "rows") ob2 lo_rows, _, _, rfl, .inl (SqL.of hvs), fun L nL => ?_⟩
    have eL : upd H2 L (.lst vs) L = some (.lst vs) := upd_same
    have m3 : Mv [] H2 (upd H2 L (.lst vs)) := Mv.new nL
    have hT3 := hT2.mv m3
    have hW3 := hW2.mv m3
    have hv3 := m3.at hv2 (by simp)
    have eg3 := m3.at egs (by simp)
    have m13 := (m1.trans m2).trans m3
    have LA : L ∉ A.all := hT2.fresh nL
    have gA : gs ∉ A.all := hT1.fresh ngs
    have vA : ∀ {o : HO} {a : Addr}, H1 a = some o → H a = none → a ∉ A.all := fun _ e => hT.fresh e
    have gL : gs ≠ L := ne_none (some_ne egs) nL
    have gW : gs ∉ W.all := fun z => hW.live gs z ngs
    have hA3 : All2 (RowAt (upd H2 L (.lst vs))) rows vs := hA.imp fun _ _ z => z.mono m3.tk0
    have gv : gs ≠ v := fun z => by rw [z, hv] at ngs; cases ngs
    generalize upd H2 L (.lst vs) = H3 at *
    have AW : ∀ a ∈ A.all, a ∉ W.all := fun a ha z => by
      obtain ⟨o, e, _⟩ := hT.live a ha
      rw [hWn a z] at e; cases e
    refine ⟨L, rfl, ⟨_, SqL.of eL⟩, ?_⟩
    have vA3 : v ∉ A.all := fun z => by
      simp only [LoA.all, List.mem_cons, List.not_mem_nil, or_false] at z
      rcases z with z | z | z | z
      · rw [← z, hv] at ob
        have := congrArg (fun o => match o with | some (HO.dK kvs) => kvs.length | _ => 0) ob
        simp [loF] at this
      · obtain ⟨vs', e, _⟩ := hT1.rows
        rw [← z, hv] at e; cases e
      · have e := hT1.wr
        unfold NatsL at e
        rw [← z, hv] at e; cases e
      · obtain ⟨vs', e, _⟩ := hT1.heard
        rw [← z, hv] at e; cases e
    have sel : ∀ i, (going (tabs.length + 1) (rows.take i)).se.length = tabs.length + 1 := fun i => by
      by_cases hi : i ≤ rows.length
      · rw [← (binv_take hval i hi).se]; exact (binv_take hval i hi).sl
      · rw [List.take_of_length_le (by omega), ← bi.se]; exact bi.sl
    refine for_list (xs := vs) (fun i σ G => ∃ T : List Nm, (∃ x3 x4 x5 x6 x7 x8 x9 x10 x11 x12, σ = [some (.ref A.d), some (.ref v), some (.ref gs), x3, x4, x5, x6, x7, x8, x9, x10, x11, x12]) ∧ LTownAt tabs G (rows ++ T.map (tkRow tabs.length)) wr A (n + T.length) ∧ WAt G (lwalk tabs.length rows) W ∧
      NatsL G gs (going (tabs.length + 1) (rows.take i)).se ∧ Mv (A.all ++ [gs]) H3 G ∧ TK H3 G ∧ T.Nodup ∧ T.length ≤ i ∧ ∀ q ∈ T, (∃ l, aget (going (tabs.length + 1) rows).ls q = some l ∧ l.to = tabs.length ∧ l.tk = false) ∧ q.2 < (going (tabs.length + 1) (rows.take i)).se.getD q.1 0) ?_ ?_ ?_ ?_
    · refine ⟨[], ⟨_, _, _, _, _, _, _, _, _, _, rfl⟩, by simpa using hT3, hW3, ?_, Mv.refl _ _, TK.refl _, .nil, Nat.le_refl _, by simp⟩
      show H3 gs = some (.lst ((List.replicate (tabs.length + 1) 0).map iN))
      rw [List.map_replicate]; exact eg3
    · exact fun i σ G _ ⟨T, p⟩ => SqL.of (p.2.2.2.2.1.at eL (by simp [LA]; exact fun z => gL z.symm))
    · intro i x σ G hx ⟨T, ⟨x3, x4, x5, x6, x7, x8, x9, x10, x11, x12, hσ⟩, hTG, hWG, hg, hm, hk, tnd, tfew, tway⟩
      subst hσ
      obtain ⟨r, hr', ha⟩ := hA3.getR hx
      obtain ⟨a, b, rfl, h1, h2⟩ := ha.mono hk
      have hi := lt_of_get hr'
      have ok := hval i r hr'
      have vA' : v ∉ A.all ++ [gs] := by simp [vA3]; exact fun z => gv z.symm
      have hvG := hm.at hv3 vA'
      obtain ⟨d, s⟩ := r
      have gsn : going (tabs.length + 1) (rows.take (i + 1)) = gstep (going (tabs.length + 1) (rows.take i)) d := by rw [take_snoc hr', going_snoc]
      have keep : ∀ σ' : L2.St, (∃ x3 x4 x5 x6 x7 x8 x9 x10 x11 x12, σ' = [some (V.ref A.d), some (V.ref v), some (V.ref gs), x3, x4, x5, x6, x7, x8, x9, x10, x11, x12]) → (gstep (going (tabs.length + 1) (rows.take i)) d).se = (going (tabs.length + 1) (rows.take i)).se → ∃ T : List Nm, (∃ x3 x4 x5 x6 x7 x8 x9 x10 x11 x12, σ' = [some (.ref A.d), some (.ref v), some (.ref gs), x3, x4, x5, x6, x7, x8, x9, x10, x11, x12]) ∧ LTownAt tabs G (rows ++ T.map (tkRow tabs.length)) wr A (n + T.length) ∧ WAt G (lwalk tabs.length rows) W ∧
          NatsL G gs (going (tabs.length + 1) (rows.take (i + 1))).se ∧ Mv (A.all ++ [gs]) H3 G ∧ TK H3 G ∧ T.Nodup ∧ T.length ≤ i + 1 ∧ ∀ q ∈ T, (∃ l, aget (going (tabs.length + 1) rows).ls q = some l ∧ l.to = tabs.length ∧ l.tk = false) ∧ q.2 < (going (tabs.length + 1) (rows.take (i + 1))).se.getD q.1 0 := fun σ' hs e => by
        rw [gsn, e]
        exact ⟨T, hs, hTG, hWG, hg, hm, hk, tnd, Nat.le_succ_of_le tfew, tway⟩
      refine ⟨a, _, rfl, SqT.of h1, rfl, _, _, rfl, _, _, rfl, rfl, ?_⟩
      cases d with
      | own h x => exact ⟨_, rfl, _, _, _, _, rfl, rfl, SqT.of h2, atI_nat (j := 0) rfl, rfl, _, rfl, str_no (by decide) (keep _ ⟨_, _, _, _, _, _, _, _, _, _, rfl⟩ rfl)⟩
      | keep h => exact ⟨_, rfl, _, _, _, _, rfl, rfl, SqT.of h2, atI_nat (j := 0) rfl, rfl, _, rfl, str_no (by decide) (keep _ ⟨_, _, _, _, _, _, _, _, _, _, rfl⟩ rfl)⟩
      | take h f k =>
        refine ⟨_, rfl, _, _, _, _, rfl, rfl, SqT.of h2, atI_nat (j := 0) rfl, rfl, _, rfl, str_no (by decide) (keep _ ⟨_, _, _, _, _, _, _, _, _, _, rfl⟩ ?_)⟩
        show (match aget (going (tabs.length + 1) (rows.take i)).ls (f, k) with | some l => _ | none => _ : Gs).se = _
        cases aget (going (tabs.length + 1) (rows.take i)).ls (f, k) <;> rfl
      | send h to =>
        have hh : h < tabs.length + 1 := Nat.lt_succ_of_le ok.hand
        have hsei := sel i
        have hname : ahas (going (tabs.length + 1) rows).ls (h, (going (tabs.length + 1) (rows.take i)).se.getD h 0) = true := by
          have e : rows = rows.take (i + 1) ++ rows.drop (i + 1) := (List.take_append_drop _ _).symm
          rw [e]
          refine going_has _ ?_
          rw [gsn]
          show ahas (aput _ (h, _) _) _ = true
          rw [ahas_aput]; simp
        have esn : (gstep (going (tabs.length + 1) (rows.take i)) (.send h to)).se = (going (tabs.length + 1) (rows.take i)).se.set h ((going (tabs.length + 1) (rows.take i)).se.getD h 0 + 1) := rfl
        rw [gsn, esn]
        clear keep gsn esn
        generalize (going (tabs.length + 1) (rows.take i)).se = se at *
        have hse : se[h]? = some (se.getD h 0) := getD_get (by rw [hsei]; exact hh)
        refine ⟨_, rfl, _, _, _, _, rfl, rfl, SqT.of h2, atI_nat (j := 0) rfl, rfl, _, rfl, str_yes ?_⟩
        refine ⟨_, rfl, _, _, _, _, rfl, rfl, SqT.of h2, atI_nat (j := 1) rfl, _, rfl, _, rfl, _, _, _, _, rfl, rfl, SqT.of h2, atI_nat (j := 1) rfl, _, _, _, _, rfl, rfl, SqL.of hg, atI_nat (nats_get hse), (by show 2 ≤ sizeLine; decide), fun t nt => ?_⟩
        generalize hkk : se.getD h 0 = kk at *
        have et : upd G t (.tup [iN h, iN kk]) t = some (.tup [iN h, iN kk]) := upd_same
        have mt : Mv [] G (upd G t (.tup [iN h, iN kk])) := Mv.new nt
        have hTG1 := hTG.mv mt
        have hWG1 := hWG.mv mt
        have hg1 := mt.at hg (by simp)
        have hm1 := hm.trans (mt.mono (by simp))
        have hk1 := hk.trans mt.tk0
        have h21 := mt.at h2 (by simp)
        have hv1 := mt.at hvG (by simp)
        clear hTG hWG hg hm hk h2 hvG h1
        generalize upd G t (.tup [iN h, iN kk]) = G1 at *
        refine ⟨_, rfl, _, rfl, _, _, _, _, rfl, rfl, SqT.of h21, atI_nat (j := 1) rfl, _, _, _, _, rfl, rfl, SqL.of hg1, atI_nat (nats_get hse), _, _, rfl, rfl, _, rfl, _, rfl, _, _, _, _, rfl, rfl, SqT.of h21, atI_nat (j := 1) rfl, _, _, _, _, rfl, rfl, hg1, ixN_nat (by rw [List.length_map, hsei]; exact hh), ?_⟩
        have e5 : (se.map iN).set h (.int ((kk : Nat) + 1 : Int)) = (se.set h (kk + 1)).map iN := by rw [← set_iN]; rfl
        dsimp only
        rw [e5]
        have mg : Mv [gs] G1 (upd G1 gs (.lst ((se.set h (kk + 1)).map iN))) := Mv.upd (by simp)
        have kg : TK G1 (upd G1 gs (.lst ((se.set h (kk + 1)).map iN))) := TK.upd fun xs z => by rw [hg1] at z; cases z
        have hTG2 : LTownAt tabs (upd G1 gs (.lst ((se.set h (kk + 1)).map iN))) (rows ++ T.map (tkRow tabs.length)) wr A (n + T.length) := hTG1.move mg kg fun x hx z => by
          rw [List.mem_singleton] at z
          exact gA (z ▸ hx)
        have hWG2 : WAt (upd G1 gs (.lst ((se.set h (kk + 1)).map iN))) (lwalk tabs.length rows) W := hWG1.other gW hg1
        have hg2 : NatsL (upd G1 gs (.lst ((se.set h (kk + 1)).map iN))) gs (se.set h (kk + 1)) := upd_same
        have hm2 := hm1.trans (mg.mono (S' := A.all ++ [gs]) (by simp))
        have hk2 := hk1.trans kg
        have hv2' := mg.at hv1 (by simp; exact fun z => gv z.symm)
        have et2 := kg _ _ et
        clear hTG1 hWG1 hg1 hm1 hk1 h21 hv1 mg kg mt et
        generalize upd G1 gs (.lst ((se.set h (kk + 1)).map iN)) = G2 at *
        obtain ⟨gl, hgl⟩ := Option.isSome_iff_exists.mp hname
        have hit : ∃ it, aget (lwalk tabs.length rows).it (h, kk) = some it := by
          cases e : aget (lwalk tabs.length rows).it (h, kk) with
          | some it => exact ⟨it, rfl⟩
          | none => have := (wi.none_ _ e).1; rw [hgl] at this; cases this
        obtain ⟨it, hit⟩ := hit
        obtain ⟨hgl2, hbo⟩ := wi.some_ _ _ hit
        have bm : Box tabs.length it.kn := bi.bo _ (aget_mem hbo)
        obtain ⟨j, ia, hj1, hj2, hj3⟩ := kvI_at hWG2.it.len hit
        obtain ⟨b', hb', hitm⟩ := hWG2.it.getL hj1
        have eb' : b' = ia := Option.some.inj (hb'.symm.trans hj2)
        rw [eb'] at hitm
        obtain ⟨pb, kd, tv3, hi1, hi2, hi3, hi4, hi5⟩ := hitm
        refine ⟨_, rfl, v, _, rfl, dgk (k := .inr "items") hv2' rfl, _, rfl, W.di, _, rfl, DGet.t (k := nk (h, kk)) hWG2.di et2 |> fun x => by rw [hj3] at x; exact x, ?_⟩
        refine ⟨ia, _, rfl, SqL.of hi1, rfl, _, _, rfl, _, _, rfl, _, _, rfl, _, _, rfl, _, _, rfl, rfl, ?_⟩
        refine ⟨kd, .dT (setD it.kn), hi4, trivial, fun od => ?_⟩
        have mf : Mv [kd] G2 (upd G2 kd (.frz od (.dT (setD it.kn)))) := mv_frz
        have ef : upd G2 kd (.frz od (.dT (setD it.kn))) kd = some (.frz od (.dT (setD it.kn))) := upd_same
        have fin2 : ∀ {G'}, Mv [] (upd G2 kd (.frz od (.dT (setD it.kn)))) G' → Mv [] G2 (upd G' kd (.dT (setD it.kn))) := fun m => mv_lock hi4 m
        generalize upd G2 kd (.frz od (.dT (setD it.kn))) = Gf at *
        obtain ⟨tvf, _, obf⟩ := hTG2.tab
        have kdd : A.d ≠ kd := fun z => by rw [z, hi4] at obf; cases obf
        have kdw : A.lw ≠ kd := fun z => by
          have := hTG2.wr
          unfold NatsL at this
          rw [z, hi4] at this; cases this
        have obf' := mf.at obf (by simp; exact kdd)
        have wrf : NatsL Gf A.lw wr := mf.at hTG2.wr (by simp; exact kdw)
        refine ⟨_, rfl, kd, od, rfl, .inr ⟨setD it.kn, ef, fun D nD => ?_⟩⟩
        refine lc_it walk_keysT (fun j G' => Mv [] Gf G' ∧ ∃ (acc : List V) (qs : List Nm), G' D = some (.lst acc) ∧ All2 (PairR G') qs acc ∧ acc.length ≤ j) ⟨Mv.new nD, [], [], upd_same, .nil, Nat.le_refl _⟩ (fun j G' _ p => p.1.at ef (by simp)) ?_ ?_
        · intro j' x G3 G3' hj ⟨hm3, acc, qs, hacc, hqs, hal⟩ ⟨eH, k, v', kq', hkv2, hx', hkq⟩
          subst eH hx'
          obtain ⟨q2, hq2', e2⟩ : ∃ q2, it.kn[j']? = some q2 ∧ (nk q2, V.bl true) = (k, v') := by
            unfold setD at hkv2
            rw [List.getElem?_map] at hkv2
            cases e : it.kn[j']? with
            | none => rw [e] at hkv2; cases hkv2
            | some q2 => rw [e] at hkv2; exact ⟨q2, rfl, Option.some.inj hkv2⟩
          cases e2
          have low := bm.low q2 (List.mem_of_getElem? hq2')
          refine ⟨rfl, _, rfl, _, _, _, _, rfl, rfl, SqT.of hkq, atI_nat (j := 1) rfl, ?_⟩
          refine ⟨_, rfl, A.d, _, rfl, dgk (k := .inr "written") (hm3.at obf' (by simp)) lo_wr, _, rfl, _, _, _, _, rfl, rfl, SqT.of hkq, atI_nat (j := 0) rfl, _, _, _, _, rfl, rfl, SqL.of (hm3.at wrf (by simp)), atI_nat (j := q2.1) (nats_get (getD_get (by rw [hwl]; exact low.1))), _, _, rfl, rfl, _, rfl, ?_⟩
          refine ite2 (fun _ => ?_) (fun _ => ⟨hm3, acc, qs, hacc, hqs, Nat.le_succ_of_le hal⟩)
          refine ⟨_, rfl, acc, hacc, ?_, hm3.own nD, acc ++ [.ref kq'], qs ++ [q2], upd_same, ?_, ?_⟩
          · refine Nat.lt_of_le_of_lt hal ?_
            rw [setD_len] at hj
            exact Nat.lt_of_lt_of_le hj (Nat.le_trans (box_few bm h4) (by decide))
          · have kk' : TK G3' (upd G3' D (.lst (acc ++ [.ref kq']))) := TK.upd fun xs z => by rw [hacc] at z; cases z
            exact All2.snoc ⟨kq', rfl, kk' _ _ hkq⟩ (hqs.imp fun _ _ z => z.mono kk')
          · rw [List.length_append]; exact Nat.succ_le_succ hal
        · intro G3 ⟨hm3, acc, qs, hacc, hqs, hal⟩
          have mf2 := fin2 hm3
          have eD : D ≠ kd := (ne_none (some_ne ef) nD).symm
          refine ⟨hm3.at ef (by simp), ?_⟩
          have hacc4 : upd G3 kd (.dT (setD it.kn)) D = some (.lst acc) := by rw [upd_ne eD]; exact hacc
          have hqs4 : All2 (PairR (upd G3 kd (.dT (setD it.kn)))) qs acc := hqs.imp fun q u (z : PairR G3 q u) => by
            obtain ⟨x, e1, e2⟩ := z
            refine ⟨x, e1, ?_⟩
            rw [upd_ne (fun y => by
              have := hm3.at ef (by simp)
              rw [← y, e2] at this; cases this)]
            exact e2
          have hTG4 := hTG2.mv mf2
          have hWG4 := hWG2.mv mf2
          have hg4 := mf2.at hg2 (by simp)
          have hm4 := hm2.trans (mf2.mono (by simp))
          have hk4 := hk2.trans mf2.tk0
          have et4 := mf2.at et2 (by simp)
          clear hTG2 hWG2 hg2 hm2 hk2 et2 mf2 hacc hqs obf obf' wrf mf
          generalize upd G3 kd (.dT (setD it.kn)) = G4 at *
          obtain ⟨tv4, _, ob4⟩ := hTG4.tab
          have skip : ∀ (σ' : L2.St) (G' : Hp), (∃ x3 x4 x5 x6 x7 x8 x9 x10 x11 x12, σ' = [some (V.ref A.d), some (V.ref v), some (V.ref gs), x3, x4, x5, x6, x7, x8, x9, x10, x11, x12]) → Mv [] G4 G' → ∃ T : List Nm, (∃ x3 x4 x5 x6 x7 x8 x9 x10 x11 x12, σ' = [some (.ref A.d), some (.ref v), some (.ref gs), x3, x4, x5, x6, x7, x8, x9, x10, x11, x12]) ∧ LTownAt tabs G' (rows ++ T.map (tkRow tabs.length)) wr A (n + T.length) ∧ WAt G' (lwalk tabs.length rows) W ∧
              NatsL G' gs (se.set h (kk + 1)) ∧ Mv (A.all ++ [gs]) H3 G' ∧ TK H3 G' ∧ T.Nodup ∧ T.length ≤ i + 1 ∧ ∀ q ∈ T, (∃ l, aget (going (tabs.length + 1) rows).ls q = some l ∧ l.to = tabs.length ∧ l.tk = false) ∧ q.2 < (se.set h (kk + 1)).getD q.1 0 := fun σ' G' hs m => by
            refine ⟨T, hs, hTG4.mv m, hWG4.mv m, m.at hg4 (by simp), hm4.trans (m.mono (by simp)), hk4.trans m.tk0, tnd, Nat.le_succ_of_le tfew, fun q hq => ⟨(tway q hq).1, ?_⟩⟩
            rw [getD_set (by rw [hsei]; exact hh)]
            have := (tway q hq).2
            split
            next e => rw [e, hkk] at this; omega
            next => exact this
          have few2 : (rows ++ T.map (tkRow tabs.length)).length ≤ 900 := by
            rw [List.length_append, List.length_map]; omega
          refine ⟨_, rfl, _, rfl, A.d, _, rfl, dgk (k := .inr "many") ob4 lo_many, rfl, _, rfl, ?_⟩
          refine ite2 (fun c1 => ?_) (fun c1 => ?_)
          rotate_left
          · exact skip _ _ ⟨_, _, _, _, _, _, _, _, _, _, rfl⟩ (Mv.refl _ _)
          have c1' : it.to = tabs.length := iN_inj (of_decide_eq_true c1)
          refine ⟨_, rfl, _, rfl, ?_⟩
          refine ite2 (fun c2 => ?_) (fun c2 => ?_)
          rotate_left
          · exact skip _ _ ⟨_, _, _, _, _, _, _, _, _, _, rfl⟩ (Mv.refl _ _)
          have c2' : it.tk = none := by
            cases e : it.tk with
            | none => rfl
            | some q =>
              rw [e] at hi3
              obtain ⟨x, hx2, _⟩ := hi3
              rw [hx2] at c2
              simp at c2
          refine ⟨_, rfl, by decide, fun e ne => ?_⟩
          have ee : upd G4 e (.lst []) e = some (.lst []) := upd_same
          have me : Mv [] G4 (upd G4 e (.lst [])) := Mv.new ne
          refine ⟨.list (qs.map pd), .list [], .lst (SqL.of (me.at hacc4 (by simp))) (dp_pairs (hqs4.imp fun _ _ z => z.mono me.tk0)), .lst (SqL.of ee) .nil, shaped_pairs qs, rfl, _, rfl, ?_⟩
          refine ite2 (fun c3 => ?_) (fun c3 => ?_)
          rotate_left
          · exact skip _ _ ⟨_, _, _, _, _, _, _, _, _, _, rfl⟩ me
          clear skip c3
          have hTG5 := hTG4.mv me
          have hWG5 := hWG4.mv me
          have hg5 := me.at hg4 (by simp)
          have hm5 := hm4.trans (me.mono (by simp))
          have hk5 := hk4.trans me.tk0
          have et5 := me.at et4 (by simp)
          clear hTG4 hWG4 hg4 hm4 hk4 et4 me ee ob4 hacc4 hqs4
          generalize upd G4 e (.lst []) = G5 at *
          obtain ⟨tv5, _, ob5⟩ := hTG5.tab
          obtain ⟨rvs, hrv, hrA⟩ := hTG5.rows
          refine ⟨_, rfl, A.d, _, rfl, dgk (k := .inr "rows") ob5 lo_rows, .inl ⟨rfl, _, SqL.of hrv⟩, ?_⟩
          refine ⟨_, rfl, A.d, _, rfl, dgk (k := .inr "many") ob5 lo_many, (by show 2 ≤ sizeLine; decide), fun p1 np1 => ?_⟩
          have ep1 : upd G5 p1 (.tup [.str "take", iN tabs.length]) p1 = some (.tup [.str "take", iN tabs.length]) := upd_same
          have mp1 : Mv [] G5 (upd G5 p1 (.tup [.str "take", iN tabs.length])) := Mv.new np1
          have et6 := mp1.at et5 (by simp)
          generalize upd G5 p1 (.tup [.str "take", iN tabs.length]) = G6 at *
          refine ⟨_, rfl, p1, t, _, _, rfl, rfl, SqT.of ep1, SqT.of et6, by simp, (by show 4 ≤ sizeLine; decide), (fun z => by cases z), fun _ p2 np2 => ?_⟩
          have ep2 : upd G6 p2 (.tup [.str "take", iN tabs.length, iN h, iN kk]) p2 = some (.tup (enc (.take tabs.length h kk))) := upd_same
          have mp2 : Mv [] G6 (upd G6 p2 (.tup ([.str "take", iN tabs.length] ++ [iN h, iN kk]))) := Mv.new np2
          replace ep2 : upd G6 p2 (.tup ([.str "take", iN tabs.length] ++ [iN h, iN kk])) p2 = some (.tup (enc (.take tabs.length h kk))) := ep2
          generalize upd G6 p2 (.tup ([.str "take", iN tabs.length] ++ [iN h, iN kk])) = G7 at *
          refine ⟨(by show 2 ≤ sizeLine; decide), fun p3 np3 => ?_⟩
          have mp3 : Mv [] G7 (upd G7 p3 (.tup [.ref p2, .int 0])) := Mv.new np3
          have hra : RowAt (upd G7 p3 (.tup [.ref p2, .int 0])) (tkRow tabs.length (h, kk)) (.ref p3) := ⟨p3, p2, rfl, upd_same, mp3.at ep2 (by simp)⟩
          have m58 := (mp1.trans mp2).trans mp3
          have et8 := (mp2.trans mp3).at et6 (by simp)
          clear mp3
          generalize upd G7 p3 (.tup [.ref p2, .int 0]) = G8 at *
          have hrv8 := m58.at hrv (by simp)
          have hTG8 := hTG5.mv m58
          have hWG8 := hWG5.mv m58
          have hg8 := m58.at hg5 (by simp)
          have hm8 := hm5.trans (m58.mono (by simp))
          have hk8 := hk5.trans m58.tk0
          refine ⟨_, _, _, rfl, rfl, hrv8, by rw [← hrA.len]; exact Nat.lt_of_le_of_lt few2 (by decide), ?_⟩
          have hTG9 := hTG8.addRow hrv8 hra
          have k9 : TK G8 (upd G8 A.lr (.lst (rvs ++ [.ref p3]))) := hTG8.tkU (by simp [LoA.all])
          have hWG9 : WAt (upd G8 A.lr (.lst (rvs ++ [.ref p3]))) (lwalk tabs.length rows) W := hWG8.other (AW _ (by simp [LoA.all])) hrv8
          have lrgs : A.lr ≠ gs := fun z => gA (by rw [← z]; simp [LoA.all])
          have hg9 : NatsL (upd G8 A.lr (.lst (rvs ++ [.ref p3]))) gs (se.set h (kk + 1)) := by
            unfold NatsL; rw [upd_ne lrgs.symm]; exact hg8
          have hm9 := hm8.trans (Mv.upd (S := A.all ++ [gs]) (a := A.lr) (o := .lst (rvs ++ [.ref p3])) (by simp [LoA.all]))
          have hk9 := hk8.trans k9
          have et9 := k9 _ _ et8
          clear hTG8 hWG8 hg8 hm8 hk8 et8 hra k9 hTG5 hWG5 hg5 hm5 hk5 et5 ob5
          generalize upd G8 A.lr (.lst (rvs ++ [.ref p3])) = G9 at *
          obtain ⟨tv9, _, ob9⟩ := hTG9.tab
          obtain ⟨hvs, hhv, hhl⟩ := hTG9.heard
          refine ⟨_, rfl, A.d, _, rfl, dgk (k := .inr "heard") ob9 lo_heard, .inl ⟨rfl, _, SqL.of hhv⟩, ?_⟩
          refine ⟨_, rfl, _, rfl, (by show 1 ≤ sizeLine; decide), fun p4 np4 => ?_⟩
          have ep4 : upd G9 p4 (.tup [iN it.wo]) p4 = some (.tup [iN it.wo]) := upd_same
          have mp4 : Mv [] G9 (upd G9 p4 (.tup [iN it.wo])) := Mv.new np4
          have et10 := mp4.at et9 (by simp)
          generalize upd G9 p4 (.tup [iN it.wo]) = G10 at *
          refine ⟨t, p4, _, _, rfl, rfl, SqT.of et10, SqT.of ep4, by simp, (by show 3 ≤ sizeLine; decide), (fun z => by cases z), fun _ p5 np5 => ?_⟩
          have mp5 : Mv [] G10 (upd G10 p5 (.tup ([iN h, iN kk] ++ [iN it.wo]))) := Mv.new np5
          have m911 := mp4.trans mp5
          clear mp5
          generalize upd G10 p5 (.tup ([iN h, iN kk] ++ [iN it.wo])) = G11 at *
          have hhv11 := m911.at hhv (by simp)
          have hTG11 := hTG9.mv m911
          have hWG11 := hWG9.mv m911
          refine ⟨_, _, _, rfl, rfl, hhv11, Nat.lt_of_le_of_lt (Nat.le_trans hhl (by omega : _ ≤ 100400)) (by decide), ?_⟩
          have hTG12 := hTG11.addHeard (v := .ref p5) hhv11
          have k12 : TK G11 (upd G11 A.lh (.lst (hvs ++ [.ref p5]))) := hTG11.tkU (by simp [LoA.all])
          have lhgs : A.lh ≠ gs := fun z => gA (by rw [← z]; simp [LoA.all])
          refine ⟨T ++ [(h, kk)], ⟨_, _, _, _, _, _, _, _, _, _, rfl⟩, ?_, hWG11.other (AW _ (by simp [LoA.all])) hhv11, ?_, ?_, (hk9.trans m911.tk0).trans k12, ?_, ?_, ?_⟩
          · rw [List.map_append, ← List.append_assoc, List.length_append]
            exact hTG12
          · unfold NatsL; rw [upd_ne lhgs.symm]; exact m911.at hg9 (by simp)
          · exact (hm9.trans (m911.mono (by simp))).trans (Mv.upd (by simp [LoA.all]))
          · refine List.nodup_append.mpr ⟨tnd, by simp, fun x hx y hy => ?_⟩
            rw [List.mem_singleton] at hy
            intro z
            have := (tway x hx).2
            rw [z, hy, hkk] at this
            exact Nat.lt_irrefl _ this
          · rw [List.length_append]; exact Nat.succ_le_succ tfew
          · intro q hq
            rw [getD_set (by rw [hsei]; exact hh)]
            rcases List.mem_append.mp hq with hq | hq
            · refine ⟨(tway q hq).1, ?_⟩
              have := (tway q hq).2
              split
              next e => rw [e, hkk] at this; omega
              next => exact this
            · rw [List.mem_singleton] at hq
              rw [hq]
              refine ⟨⟨_, hgl2, c1', by rw [c2']; rfl⟩, ?_⟩
              rw [if_pos rfl]; exact Nat.lt_succ_self _
    · intro σ G ⟨T, _, hTG, _, _, hm, hk, tnd, tfew, tway⟩
      refine kq G T ?_ ⟨tnd, by rw [hA.len]; exact tfew, fun q hq => (tway q hq).1⟩ hTG
      exact ((m13.mono (by simp)).trans hm).weak fun a ha => by
        rcases List.mem_append.mp ha with h | h
        · exact .inl h
        · rw [List.mem_singleton] at h
          rw [h]; exact .inr (m1.none ngs)
end
end Lor
end

section
set_option Elab.async false
set_option linter.all false
set_option maxRecDepth 100000
set_option maxHeartbeats 4000000
namespace Lor
open PySem PySem.Spec PyProof.Rows L2
/-- the hands of a deed that is drawn -/
def LHand (many : Nat) (rows : List Row) (wr : List Nat) : TD → Prop
  | .put _ _ => True
  | .step h _ _ => h < many
  | .write h => h < many
  | .keep h => h < many ∧ wr.getD h 0 ≤ count rows h
  | .fall _ => False
abbrev lst_ (rows : List Row) (wr : List Nat) : TS := ⟨rows, wr, [], []⟩
section
variable {P : Program} {w : World} {K : PySem.W.Frag} {mg : Str → Option Value} {base : Heap} {tabs : Tabs}
def spLDone (tabs : Tabs) : Sp := fun vs H Q _ => ∃ (A : LoA) (rows : List Row) (wr : List Nat) (n : Nat) (td : TD) (dv : V), vs = [.ref A.d, dv] ∧ LTownAt tabs H rows wr A n ∧ TDAt H td dv ∧ TabsOk tabs ∧ wr.length = tabs.length ∧ rows.length ≤ 400 ∧ n ≤ 100000 ∧ LHand tabs.length rows wr td ∧
  (∀ st', Does tabs false (lst_ rows wr) td st' → Valid tabs.length st'.rows ∧ st'.rows.length ≤ 400) ∧
  ∀ (H' : Hp) (st' : TS) (T : List Nm), Mv A.all H H' → Does tabs false (lst_ rows wr) td st' → TellsN tabs.length st'.rows T → LTownAt tabs H' (st'.rows ++ T.map (tkRow tabs.length)) st'.wr A (n + T.length) → Q .non H'
theorem sc48 : FnScope ["_law_town_here", "_law_deed", "_law_word", "_law_rest"] ["_law_town_here", "_law_deed"] (defScope (top 48)) := ⟨rfl, rfl, rfl, by decide +kernel, rfl, by decide +kernel, by decide +kernel⟩
theorem ok_ldone (D : DefAt K mg "_law_town_done" (top 48)) (GC : LCal P w K mg base 1 "_law_town_count" (spLCount tabs)) (GS : LCal P w K mg base 2 "_law_town_sends" (spLSends tabs)) (GW : LCal P w K mg base 1 "_law_town_write" (spLWrite tabs)) (GT : LCal P w K mg base 2 "_law_town_tell" (spLTell tabs)) :
    LCal P w K mg base 3 "_law_town_done" (spLDone tabs) := by
  refine cal_of D sc48 (fun _ _ _ _ _ _ us hl => match us, hl with | [_, _], _ => rfl) (fun vs H Q E h => ?_) (fun f cdv Ar outer s H vs Q E hr h => ?_)
  · obtain ⟨A, rows, wr, n, td, dv, rfl, _⟩ := h
    rfl
  · obtain ⟨A, rows, wr, n, td, dv, rfl, hT, ⟨da, r, rfl, hda, hr'⟩, ok, hwl, hfew, hn, hl, hv, kq⟩ := h
    have nd := sc48.nd
    refine ⟨_, (pss_cons (ps_par (i := 2) (j := 3) (by rfl) nd rfl rfl (by decide) rfl rfl (pa_cons (pe_ix ix_tup (pv 1) pe_int (fun _ _ => rfl)) (pa_cons (pe_slice sl_tup (pv 1) (po_some pe_int) po_none) pa_nil)) (by rfl))
 (pss_cons (ps_if (pt_cmpR op_eq (pv 2) pe_str (nomark _))
 (pss_cons (ps_expr (pe_bm PySem.F.plainAttrs_list PySem.F.slot_list_append PySem.F.type_list_append mt_append (pe_dget (hu_of hr) (pv 0) pe_str (fun _ _ => rfl)) (pa_cons (pe_tup (pa_cons (pe_tup (pa_cons pe_str (pa_cons (pe_dget (hu_of hr) (pv 0) pe_str (fun _ _ => rfl)) (pa_cons (pe_ix ix_tup (pv 3) pe_int (fun _ _ => rfl)) pa_nil)))) (pa_cons pe_int pa_nil))) pa_nil)))
 (pss_one (ps_expr (pe_bm PySem.F.plainAttrs_list PySem.F.slot_list_append PySem.F.type_list_append mt_append (pe_dget (hu_of hr) (pv 0) pe_str (fun _ _ => rfl)) (pa_cons (pe_tup (pa_cons (pe_tup (pa_cons pe_str (pa_cons (pe_dget (hu_of hr) (pv 0) pe_str (fun _ _ => rfl)) (pa_cons (pe_ix ix_tup (pv 3) pe_int (fun _ _ => rfl)) pa_nil)))) (pa_cons pe_int pa_nil))) pa_nil)))))
 (pss_one (ps_if (pt_cmpR op_eq (pv 2) pe_str (nomark _))
 (pss_cons (ps_expr (pe_bm PySem.F.plainAttrs_list PySem.F.slot_list_append PySem.F.type_list_append mt_append (pe_dget (hu_of hr) (pv 0) pe_str (fun _ _ => rfl)) (pa_cons (pe_tup (pa_cons (pe_op op_catT (pe_tup (pa_cons pe_str pa_nil)) (pv 3)) (pa_cons (pe_op op_add (pe_f GC hr (by decide) (pa_cons (pv 0) (pa_cons (pe_ix ix_tup (pv 3) pe_int (fun _ _ => rfl)) pa_nil))) pe_int) pa_nil))) pa_nil)))
 (pss_one (ps_if (pt_cmpR op_ne (pe_dget (hu_of hr) (pv 0) pe_str (fun _ _ => rfl)) pe_str (nomark _))
 (pss_one (ps_expr (pe_f GS hr (by decide) (pa_cons (pv 0) (pa_cons (pe_ix ix_tup (pv 3) pe_int (fun _ _ => rfl)) pa_nil)))))
 pss_nil)))
 (pss_one (ps_if (pt_cmpR op_eq (pv 2) pe_str (nomark _))
 (pss_one (ps_expr (pe_f GW hr (by decide) (pa_cons (pv 0) (pa_cons (pe_ix ix_tup (pv 3) pe_int (fun _ _ => rfl)) pa_nil)))))
 (pss_one (ps_if (pt_cmpR op_eq (pv 2) pe_str (nomark _))
 (pss_cons (ps_while PassesOwn.never (pt_cmpR op_lt (pe_ix ix_list (pe_dget (hu_of hr) (pv 0) pe_str (fun _ _ => rfl)) (pe_ix ix_tup (pv 3) pe_int (fun _ _ => rfl)) (fun _ _ => rfl)) (pe_f GC hr (by decide) (pa_cons (pv 0) (pa_cons (pe_ix ix_tup (pv 3) pe_int (fun _ _ => rfl)) pa_nil))) (nomark _))
 (pss_one (ps_expr (pe_f GW hr (by decide) (pa_cons (pv 0) (pa_cons (pe_ix ix_tup (pv 3) pe_int (fun _ _ => rfl)) pa_nil))))))
 (pss_one (ps_expr (pe_bm PySem.F.plainAttrs_list PySem.F.slot_list_append PySem.F.type_list_append mt_append (pe_dget (hu_of hr) (pv 0) pe_str (fun _ _ => rfl)) (pa_cons (pe_tup (pa_cons (pe_tup (pa_cons pe_str (pa_cons (pe_ix ix_tup (pv 3) pe_int (fun _ _ => rfl)) pa_nil))) (pa_cons (pe_f GC hr (by decide) (pa_cons (pv 0) (pa_cons (pe_ix ix_tup (pv 3) pe_int (fun _ _ => rfl)) pa_nil))) pa_nil))) pa_nil)))))
 (pss_one (ps_if (pt_cmpR op_eq (pv 2) pe_str (nomark _))
 pss_never
 pss_never)))))))))
 (pss_one (ps_expr (pe_f GT hr (by decide) (pa_cons (pv 0) pa_nil)))))), ?_⟩
    refine ⟨_, rfl, _, _, _, _, rfl, rfl, SqT.of hda, atI_nat (j := 0) rfl, _, rfl, 1, rfl, da, _, rfl, SqT.of hda, cut_part _ _, fun ra nra => ?_⟩
    rw [cutV_tail]
    have era : upd H ra (.tup r) ra = some (.tup r) := upd_same
    have m1 : Mv [] H (upd H ra (.tup r)) := Mv.new nra
    have hr1 := hr'.mono m1.tk0
    have hT1 := hT.mv m1
    generalize upd H ra (.tup r) = H1 at *
    refine ⟨_, _, rfl, ?_⟩
    have era2 := era
    have hr2 := hr1
    have hT2 := hT1
    have m12 := m1
    clear hT hT1 hr' hr1 m1 era nra hda
    have tell : ∀ (G : Hp) (st' : TS), Mv A.all H1 G → Does tabs false (lst_ rows wr) td st' → LTownAt tabs G st'.rows st'.wr A n → st'.wr.length = tabs.length → spLTell tabs [.ref A.d] G (fun v H' => Q .non H') (fun _ _ _ => True) := fun G st' m hd hT' hw =>
      ⟨A, st'.rows, st'.wr, n, rfl, hT', ok.four, (hv st' hd).1, (hv st' hd).2, hw, hn, fun H' T m' hT hTl => kq H' st' T (((m12.mono (by simp)).trans m).trans m') hd hT hTl⟩
    obtain ⟨tv, _, ob⟩ := hT2.tab
    obtain ⟨vs, hvs, hA⟩ := hT2.rows
    cases td with
    | put h x =>
      obtain rfl := hr2
      refine ⟨_, rfl, rfl, _, rfl, str_yes ?_⟩
      refine ⟨_, rfl, A.d, _, rfl, dgk (k := .inr "rows") ob lo_rows, .inl ⟨rfl, _, SqL.of hvs⟩, ?_⟩
      refine ⟨_, rfl, A.d, _, rfl, dgk (k := .inr "many") ob lo_many, _, rfl, _, _, _, _, rfl, rfl, SqT.of era2, atI_nat (j := 1) rfl, (by show 3 ≤ sizeLine; decide), fun p np => ?_⟩
      have ep : upd H1 p (.tup [.str "own", iN tabs.length, iN x]) p = some (.tup (enc (.own tabs.length x))) := upd_same
      have m3 : Mv [] H1 (upd H1 p (.tup [.str "own", iN tabs.length, iN x])) := Mv.new np
      generalize upd H1 p (.tup [.str "own", iN tabs.length, iN x]) = H3 at *
      refine ⟨(by show 2 ≤ sizeLine; decide), fun p2 np2 => ?_⟩
      have m4 : Mv [] H3 (upd H3 p2 (.tup [.ref p, .int 0])) := Mv.new np2
      have hra : RowAt (upd H3 p2 (.tup [.ref p, .int 0])) (.own tabs.length x, 0) (.ref p2) := ⟨p2, p, rfl, upd_same, m4.at ep (by simp)⟩
      have m34 := m3.trans m4
      clear m4
      generalize upd H3 p2 (.tup [.ref p, .int 0]) = H4 at *
      have hvs4 := m34.at hvs (by simp)
      refine ⟨_, _, _, rfl, rfl, hvs4, by rw [← hA.len]; exact Nat.lt_of_le_of_lt hfew (by decide), ?_⟩
      have hT5 := (hT2.mv m34).addRow hvs4 hra
      have k5 : TK H4 (upd H4 A.lr (.lst (vs ++ [.ref p2]))) := (hT2.mv m34).tkU (by simp [LoA.all])
      have era5 := k5 _ _ (m34.at era2 (by simp))
      have m5 : Mv A.all H1 (upd H4 A.lr (.lst (vs ++ [.ref p2]))) := (m34.mono (by simp)).trans (Mv.upd (by simp [LoA.all]))
      have hvs5 : upd H4 A.lr (.lst (vs ++ [.ref p2])) A.lr = some (.lst (vs ++ [.ref p2])) := upd_same
      generalize upd H4 A.lr (.lst (vs ++ [.ref p2])) = H5 at *
      obtain ⟨tv5, _, ob5⟩ := hT5.tab
      refine ⟨_, rfl, A.d, _, rfl, dgk (k := .inr "rows") ob5 lo_rows, .inl ⟨rfl, _, SqL.of hvs5⟩, ?_⟩
      refine ⟨_, rfl, A.d, _, rfl, dgk (k := .inr "many") ob5 lo_many, _, rfl, _, _, _, _, rfl, rfl, SqT.of era5, atI_nat (j := 0) rfl, (by show 3 ≤ sizeLine; decide), fun p3 np3 => ?_⟩
      have ep3 : upd H5 p3 (.tup [.str "send", iN tabs.length, iN h]) p3 = some (.tup (enc (.send tabs.length h))) := upd_same
      have m6 : Mv [] H5 (upd H5 p3 (.tup [.str "send", iN tabs.length, iN h])) := Mv.new np3
      generalize upd H5 p3 (.tup [.str "send", iN tabs.length, iN h]) = H6 at *
      refine ⟨(by show 2 ≤ sizeLine; decide), fun p4 np4 => ?_⟩
      have m7 : Mv [] H6 (upd H6 p4 (.tup [.ref p3, .int 0])) := Mv.new np4
      have hra7 : RowAt (upd H6 p4 (.tup [.ref p3, .int 0])) (.send tabs.length h, 0) (.ref p4) := ⟨p4, p3, rfl, upd_same, m7.at ep3 (by simp)⟩
      have m67 := m6.trans m7
      clear m7
      generalize upd H6 p4 (.tup [.ref p3, .int 0]) = H7 at *
      have hvs7 := m67.at hvs5 (by simp)
      refine ⟨_, _, _, rfl, rfl, hvs7, by rw [List.length_append, ← hA.len]; exact Nat.lt_of_le_of_lt (Nat.add_le_add_right hfew 1) (by decide), ?_⟩
      have hT8 := (hT5.mv m67).addRow hvs7 hra7
      refine ⟨_, rfl, tell _ _ ((m5.trans (m67.mono (by simp))).trans (Mv.upd (by simp [LoA.all]))) (.put h x) ?_ hwl⟩
      have e : rows ++ [((.own tabs.length x, 0) : Row), (.send tabs.length h, 0)] = (rows ++ [(.own tabs.length x, 0)]) ++ [(.send tabs.length h, 0)] := by rw [List.append_assoc]; rfl
      show LTownAt tabs _ (rows ++ [(.own tabs.length x, 0), (.send tabs.length h, 0)]) wr A n
      rw [e]
      exact hT8
    | step h f k =>
      obtain rfl := hr2
      have hh : h < tabs.length := hl
      obtain ⟨v1, v2⟩ := hv _ (.step h f k)
      replace v1 : Valid tabs.length (sendAll tabs (rows ++ [(.take h f k, count rows h + 1)]) h) := v1
      replace v2 : (sendAll tabs (rows ++ [(.take h f k, count rows h + 1)]) h).length ≤ 400 := v2
      have v3 : (rows ++ [((.take h f k, count rows h + 1) : Row)]).length ≤ 400 := by
        unfold sendAll at v2
        rw [List.length_append] at v2
        omega
      refine ⟨_, rfl, rfl, _, rfl, str_no (by simp only [tdW]; decide) ?_⟩
      refine ⟨_, rfl, rfl, _, rfl, str_yes ?_⟩
      refine ⟨_, rfl, A.d, _, rfl, dgk (k := .inr "rows") ob lo_rows, .inl ⟨rfl, _, SqL.of hvs⟩, ?_⟩
      refine ⟨(by show 1 ≤ sizeLine; decide), fun p np => ?_⟩
      have ep : upd H1 p (.tup [.str "take"]) p = some (.tup [.str "take"]) := upd_same
      have m3 : Mv [] H1 (upd H1 p (.tup [.str "take"])) := Mv.new np
      have era3 := m3.at era2 (by simp)
      generalize upd H1 p (.tup [.str "take"]) = H3 at *
      refine ⟨_, rfl, p, ra, _, _, rfl, rfl, SqT.of ep, SqT.of era3, by simp, (by show 4 ≤ sizeLine; decide), (fun z => by cases z), fun _ p2 np2 => ?_⟩
      have ep2 : upd H3 p2 (.tup ([.str "take"] ++ [iN h, iN f, iN k])) p2 = some (.tup (enc (.take h f k))) := upd_same
      have m4 : Mv [] H3 (upd H3 p2 (.tup ([.str "take"] ++ [iN h, iN f, iN k]))) := Mv.new np2
      have m34 := m3.trans m4
      have era4 := m4.at era3 (by simp)
      generalize upd H3 p2 (.tup ([.str "take"] ++ [iN h, iN f, iN k])) = H4 at *
      refine ⟨_, rfl, _, rfl, _, _, _, _, rfl, rfl, SqT.of era4, atI_nat (j := 0) rfl, A, rows, wr, n, h, rfl, hT2.mv m34, Nat.le_trans hfew (by decide), fun H5 m5 => ?_⟩
      refine ⟨_, _, rfl, rfl, (by show 2 ≤ sizeLine; decide), fun q nq => ?_⟩
      have m6 : Mv [] H5 (upd H5 q (.tup [.ref p2, .int ((count rows h : Nat) + 1 : Int)])) := Mv.new nq
      have hra : RowAt (upd H5 q (.tup [.ref p2, .int ((count rows h : Nat) + 1 : Int)])) (.take h f k, count rows h + 1) (.ref q) := ⟨q, p2, rfl, upd_same, m6.at (m5.at ep2 (by simp)) (by simp)⟩
      have m36 := m34.trans (m5.trans m6)
      have era6 := (m5.trans m6).at era4 (by simp)
      clear m6
      generalize upd H5 q (.tup [.ref p2, .int ((count rows h : Nat) + 1 : Int)]) = H6 at *
      have hvs6 := m36.at hvs (by simp)
      refine ⟨_, _, _, rfl, rfl, hvs6, by rw [← hA.len]; exact Nat.lt_of_le_of_lt hfew (by decide), ?_⟩
      have hT6 := hT2.mv m36
      have hT7 := hT6.addRow hvs6 hra
      have k7 : TK H6 (upd H6 A.lr (.lst (vs ++ [.ref q]))) := hT6.tkU (by simp [LoA.all])
      have era7 := k7 _ _ era6
      have m7 : Mv A.all H1 (upd H6 A.lr (.lst (vs ++ [.ref q]))) := (m36.mono (by simp)).trans (Mv.upd (by simp [LoA.all]))
      generalize upd H6 A.lr (.lst (vs ++ [.ref q])) = H7 at *
      obtain ⟨tv7, _, ob7⟩ := hT7.tab
      refine ⟨_, rfl, A.d, _, rfl, dgk (k := .inr "kind") ob7 lo_kind, rfl, _, rfl, ?_⟩
      refine ifT (by decide) ?_
      refine ⟨_, rfl, _, rfl, _, _, _, _, rfl, rfl, SqT.of era7, atI_nat (j := 0) rfl, A, _, wr, n, h, rfl, hT7, ok, ⟨valid_pre v1, Nat.le_trans v3 (by decide)⟩, Nat.le_trans v3 (by decide), hh, fun H8 m8 hT8 => ?_⟩
      exact ⟨_, rfl, tell H8 _ (m7.trans m8) (.step h f k) hT8 hwl⟩
    | write h =>
      obtain rfl := hr2
      have hh : h < tabs.length := hl
      refine ⟨_, rfl, rfl, _, rfl, str_no (by simp only [tdW]; decide) ?_⟩
      refine ⟨_, rfl, rfl, _, rfl, str_no (by simp only [tdW]; decide) ?_⟩
      refine ⟨_, rfl, rfl, _, rfl, str_yes ?_⟩
      refine ⟨_, rfl, _, rfl, _, _, _, _, rfl, rfl, SqT.of era2, atI_nat (j := 0) rfl, A, rows, wr, n, h, rfl, hT2, by rw [hwl]; exact hh, fun H3 m3 hT3 => ?_⟩
      exact ⟨_, rfl, tell H3 _ (m3.mono (by simp [LoA.all])) (.write h) hT3 (by show (wr.set h _).length = _; rw [List.length_set]; exact hwl)⟩
    | keep h =>
      obtain rfl := hr2
      obtain ⟨hh, hw0⟩ := hl
      have hwi : wr[h]? = some (wr.getD h 0) := getD_get (by rw [hwl]; exact hh)
      refine ⟨_, rfl, rfl, _, rfl, str_no (by simp only [tdW]; decide) ?_⟩
      refine ⟨_, rfl, rfl, _, rfl, str_no (by simp only [tdW]; decide) ?_⟩
      refine ⟨_, rfl, rfl, _, rfl, str_no (by simp only [tdW]; decide) ?_⟩
      refine ⟨_, rfl, rfl, _, rfl, str_yes ?_⟩
      refine while_by (fun σ H' => ∃ wi, σ = [some (.ref A.d), some (.ref da), some (.str "keep"), some (.ref ra)] ∧ Mv [A.lw] H1 H' ∧ wi ≤ count rows h ∧ LTownAt tabs H' rows (wr.set h wi) A n)
        (fun σ H' => match H' A.lw with | some (.lst vs) => (match vs[h]? with | some (.int i) => count rows h - i.toNat | _ => 0) | _ => 0) ?_ ?_ ?_
      · refine ⟨wr.getD h 0, rfl, Mv.refl _ _, hw0, ?_⟩
        have : wr.set h (wr.getD h 0) = wr := by
          apply List.ext_getElem?
          intro i
          rw [List.getElem?_set]
          split
          next e =>
            subst e
            rw [if_pos (by rw [hwl]; exact hh)]
            exact hwi.symm
          next => rfl
        rw [this]; exact hT2
      · intro σ H2 ⟨wi, hσ, m2, hwi, hT3⟩
        subst hσ
        have lwT : ∀ a ∈ [A.lw], ∀ xs, H1 a ≠ some (.tup xs) := fun a ha xs z => by
          rw [List.mem_singleton] at ha
          subst ha
          have := hT2.wr.symm.trans z; cases this
        have k2 := m2.tk lwT
        obtain ⟨tv3, _, ob3⟩ := hT3.tab
        have era3 := k2 _ _ era2
        have hwg : (wr.set h wi)[h]? = some wi := by rw [List.getElem?_set, if_pos rfl, if_pos (by rw [hwl]; exact hh)]
        have mu : ∀ {G : Hp} {x : Nat}, NatsL G A.lw (wr.set h x) → (match G A.lw with | some (.lst vs) => (match vs[h]? with | some (.int i) => count rows h - i.toNat | _ => 0) | _ => 0) = count rows h - x := fun {G x} hg => by
          rw [hg]
          show (match ((wr.set h x).map iN)[h]? with | some (.int i) => count rows h - i.toNat | _ => 0) = _
          rw [nats_get (by rw [List.getElem?_set, if_pos rfl, if_pos (by rw [hwl]; exact hh)] : (wr.set h x)[h]? = some x)]
          show count rows h - ((x : Nat) : Int).toNat = _
          rw [Int.toNat_natCast]
        rw [mu hT3.wr]
        refine ⟨_, rfl, A.d, _, rfl, dgk (k := .inr "written") ob3 lo_wr, _, rfl, _, _, _, _, rfl, rfl, SqT.of era3, atI_nat (j := 0) rfl, _, _, _, _, rfl, rfl, SqL.of hT3.wr, atI_nat (nats_get hwg), ?_⟩
        refine ⟨_, rfl, _, rfl, _, _, _, _, rfl, rfl, SqT.of era3, atI_nat (j := 0) rfl, A, rows, _, n, h, rfl, hT3, Nat.le_trans hfew (by decide), fun H4 m4 => ?_⟩
        have hT4 := hT3.mv m4
        have m14 : Mv [A.lw] H1 H4 := m2.trans (m4.mono (by simp))
        have era4 := m4.at era3 (by simp)
        refine ⟨_, _, rfl, rfl, _, rfl, ?_⟩
        refine ite2 (fun c => ?_) (fun c => ?_)
        · have c' : wi < count rows h := Int.ofNat_lt.mp (of_decide_eq_true c)
          refine ⟨_, rfl, _, rfl, _, _, _, _, rfl, rfl, SqT.of era4, atI_nat (j := 0) rfl, A, rows, _, n, h, rfl, hT4, by rw [List.length_set, hwl]; exact hh, fun H5 m5 hT5 => ?_⟩
          have e : ((wr.set h wi).set h ((wr.set h wi).getD h 0 + 1)) = wr.set h (wi + 1) := by
            rw [List.set_set, List.getD_eq_getElem?_getD, hwg]; rfl
          rw [e] at hT5
          refine ⟨⟨wi + 1, rfl, m14.trans m5, c', hT5⟩, ?_⟩
          rw [mu hT5.wr]; omega
        · have c' : ¬ wi < count rows h := fun z => c (decide_eq_true (Int.ofNat_lt.mpr z))
          have ew : wi = count rows h := by omega
          subst ew
          obtain ⟨vs4, hv4, hA4⟩ := hT4.rows
          obtain ⟨tv4, _, ob4⟩ := hT4.tab
          refine ⟨_, rfl, A.d, _, rfl, dgk (k := .inr "rows") ob4 lo_rows, .inl ⟨rfl, _, SqL.of hv4⟩, ?_⟩
          refine ⟨_, rfl, _, _, _, _, rfl, rfl, SqT.of era4, atI_nat (j := 0) rfl, (by show 2 ≤ sizeLine; decide), fun p np => ?_⟩
          have ep : upd H4 p (.tup [.str "keep", iN h]) p = some (.tup (enc (.keep h))) := upd_same
          have m5 : Mv [] H4 (upd H4 p (.tup [.str "keep", iN h])) := Mv.new np
          have era5 := m5.at era4 (by simp)
          generalize upd H4 p (.tup [.str "keep", iN h]) = H5 at *
          refine ⟨_, rfl, _, rfl, _, _, _, _, rfl, rfl, SqT.of era5, atI_nat (j := 0) rfl, A, rows, _, n, h, rfl, hT4.mv m5, Nat.le_trans hfew (by decide), fun H6 m6 => ?_⟩
          refine ⟨(by show 2 ≤ sizeLine; decide), fun q nq => ?_⟩
          have m7 : Mv [] H6 (upd H6 q (.tup [.ref p, iN (count rows h)])) := Mv.new nq
          have hra : RowAt (upd H6 q (.tup [.ref p, iN (count rows h)])) (.keep h, count rows h) (.ref q) := ⟨q, p, rfl, upd_same, m7.at (m6.at ep (by simp)) (by simp)⟩
          have m57 := m5.trans (m6.trans m7)
          have hT7 := hT4.mv m57
          have hv7 := m57.at hv4 (by simp)
          clear m7
          generalize upd H6 q (.tup [.ref p, iN (count rows h)]) = H7 at *
          refine ⟨_, _, _, rfl, rfl, hv7, by rw [← hA4.len]; exact Nat.lt_of_le_of_lt hfew (by decide), ?_⟩
          have hT8 := hT7.addRow hv7 hra
          refine ⟨_, rfl, tell _ _ ?_ (.keep h) hT8 (by show (wr.set h _).length = _; rw [List.length_set]; exact hwl)⟩
          exact ((m14.mono (by simp [LoA.all])).trans (m57.mono (by simp))).trans (Mv.upd (by simp [LoA.all]))
      · intro σ H Q Q' hq h
        obtain ⟨v1, s1, g1, g2, e1, e2, v2, s2, p2, x2, i2, u2, e3, e4, t2, y2, p3, x3, i3, u3, e5, e6, t3, y3, v4, s4, v5, s5, p5, x5, i5, u5, e7, e8, t5, y5, A5, r5, w5, n5, h5, e9, hT5, hf5, k5⟩ := h
        exact ⟨v1, s1, g1, g2, e1, e2, v2, s2, p2, x2, i2, u2, e3, e4, t2, y2, p3, x3, i3, u3, e5, e6, t3, y3, v4, s4, v5, s5, p5, x5, i5, u5, e7, e8, t5, y5, A5, r5, w5, n5, h5, e9, hT5, hf5, fun H' m => let ⟨i, j, ei, ej, b, eb, q⟩ := k5 H' m; ⟨i, j, ei, ej, b, eb, hq _ _ q⟩⟩
    | fall l => exact hl.elim
end
end Lor
end

section
set_option Elab.async false
set_option linter.all false
set_option maxRecDepth 100000
set_option maxHeartbeats 4000000
namespace Lor
open PySem PySem.Spec PyProof.Rows L2
theorem dgt_frz {H : Hp} {a b : Addr} {od : Obj} {kvs : List (List Key × V)} {k : List Key} (e : H a = some (.frz od (.dT kvs))) (eb : H b = some (.tup (k.map kV))) : DGet H a (.ref b) (valV kvs k) := .inr ⟨kvs, k, b, .inr ⟨od, e⟩, rfl, eb, rfl⟩
theorem pick_all {H : Hp} {S : Nm → Prop} : ∀ {ys : List V}, (∀ y ∈ ys, ∃ q, S q ∧ PairR H q y) → ∃ qs, All2 (PairR H) qs ys ∧ ∀ q ∈ qs, S q
  | [], _ => ⟨[], .nil, by simp⟩
  | y :: r, h => by
    obtain ⟨q, hs, hq⟩ := h y List.mem_cons_self
    obtain ⟨qs, h1, h2⟩ := pick_all (ys := r) fun z hz => h z (List.mem_cons_of_mem _ hz)
    exact ⟨q :: qs, .cons hq h1, fun x hx => (List.mem_cons.mp hx).elim (fun e => e ▸ hs) (h2 x)⟩
theorem nodup_idx {α : Type} : ∀ {l : List α} {i j : Nat} {a : α}, l.Nodup → l[i]? = some a → l[j]? = some a → i = j
  | [], _, _, _, _, h, _ => by simp at h
  | x :: r, 0, 0, _, _, _, _ => rfl
  | x :: r, 0, j + 1, a, n, h, g => by
    have e : x = a := by simpa using h
    have m : a ∈ r := List.mem_of_getElem? (by simpa using g)
    exact absurd (e ▸ m) (List.nodup_cons.mp n).1
  | x :: r, i + 1, 0, a, n, h, g => by
    have e : x = a := by simpa using g
    have m : a ∈ r := List.mem_of_getElem? (by simpa using h)
    exact absurd (e ▸ m) (List.nodup_cons.mp n).1
  | x :: r, i + 1, j + 1, a, n, h, g => congrArg Nat.succ (nodup_idx (l := r) (i := i) (j := j) (a := a) (List.nodup_cons.mp n).2 (by simpa using h) (by simpa using g))
theorem nodup_fst {α : Type} {l : List (Nm × α)} {i j : Nat} {q : Nm} {a b : α} (n : (l.map (·.1)).Nodup) (h : l[i]? = some (q, a)) (g : l[j]? = some (q, b)) : i = j :=
  nodup_idx n (a := q) (by rw [List.getElem?_map, h]; rfl) (by rw [List.getElem?_map, g]; rfl)
theorem kvI_get {it : List (Nm × LIt)} {as : List Addr} {j : Nat} {k : List Key} {v : V} (h : (kvI it as)[j]? = some (k, v)) : ∃ q i a, it[j]? = some (q, i) ∧ as[j]? = some a ∧ k = nk q ∧ v = .ref a := by
  unfold kvI at h
  rw [List.getElem?_map] at h
  cases e : (it.zip as)[j]? with
  | none => rw [e] at h; cases h
  | some p =>
    rw [e] at h
    obtain ⟨⟨q, i⟩, a⟩ := p
    obtain ⟨h1, h2⟩ := (List.getElem?_zip_eq_some (l₁ := it) (l₂ := as) (z := ((q, i), a))).mp e
    have := Option.some.inj h
    exact ⟨q, i, a, h1, h2, (congrArg Prod.fst this).symm, (congrArg Prod.snd this).symm⟩
section
variable {P : Program} {w : World} {K : PySem.W.Frag} {mg : Str → Option Value} {base : Heap} {tabs : Tabs}
def spLWait (tabs : Tabs) : Sp := fun vs H Q _ => ∃ (A : LoA) (rows : List Row) (wr : List Nat) (n : Nat), vs = [.ref A.d] ∧ LTownAt tabs H rows wr A n ∧ tabs.length ≤ 4 ∧ Fit tabs.length rows ∧
  ∀ (H' : Hp) (p : Addr) (vs : List V) (qs : List Nm), Mv [] H H' → H p = none → H' p = some (.lst vs) → All2 (PairR H') qs vs → (∀ q ∈ qs, ∃ it, aget (lwalk tabs.length rows).it q = some it ∧ it.tk = none) → vs.length ≤ rows.length → Q (.ref p) H'
theorem sc49 : FnScope ["_law_town_here", "_law_items", "_law_name"] ["_law_town_here"] (defScope (top 49)) := ⟨rfl, rfl, rfl, by decide +kernel, rfl, by decide +kernel, by decide +kernel⟩
theorem ok_lwait (D : DefAt K mg "_law_town_waiting" (top 49)) (B : Bl mg) (GW : LCal P w K mg base 1 "_law_town_walk" (spLWalk tabs)) : LCal P w K mg base 2 "_law_town_waiting" (spLWait tabs) := by
  refine cal_of D sc49 (fun _ _ _ _ _ _ us hl => match us, hl with | [_], _ => rfl) (fun vs H Q E h => ?_) (fun f cdv Ar outer s H vs Q E hr h => ?_)
  · obtain ⟨A, rows, wr, n, rfl, _⟩ := h
    rfl
  · obtain ⟨A, rows, wr, n, rfl, hT, h4, hf, kq⟩ := h
    have nd := sc49.nd
    refine ⟨_, (pss_cons (ps_set (i := 1) nd rfl (Or.inr rfl) (pe_dget (hu_of hr) (pe_f GW hr (by decide) (pa_cons (pv 0) pa_nil)) pe_str (fun _ _ => rfl)))
 (pss_one (ps_ret (pe_callB cr_sortedP (by rfl) B.sorted (by decide +kernel) (pa_cons (pe_lock (pe_lc (own := [("_law_name", 2)]) (g := gName 2) rfl nd (pi_keys (pv 1)) (blkOk_by (own := [("_law_name", 2)]) (N := ["_law_town_here", "_law_items", "_law_name"]) (sc := defScope (top 49)) (by decide +kernel)) (fun _ _ _ _ _ => (pg_name (i := 2) nd rfl (Or.inl rfl))) (fun _ _ _ _ _ => pts_one (pt_cmp (pc_isN (pe_ix (ix_listK (K := K)) (pe_dget (hu_of hr) (pv 1) (pv 2) (fun _ _ => rfl)) pe_int (fun _ _ => rfl))))) (fun _ _ _ _ _ => (pv 2)))) pa_nil))))), ?_⟩
    have wi := winv hf.valid
    refine ⟨_, rfl, A, rows, wr, n, rfl, hT, h4, hf, fun H1 v W m1 hWn hv hW => ?_⟩
    refine ⟨v, _, rfl, dgk (k := .inr "items") hv rfl, ?_⟩
    have hdi := hW.di
    refine ⟨W.di, .dT _, hdi, trivial, fun od => ?_⟩
    have mf : Mv [W.di] H1 (upd H1 W.di (.frz od (.dT (kvI (lwalk tabs.length rows).it W.as)))) := mv_frz
    have ef : upd H1 W.di (.frz od (.dT (kvI (lwalk tabs.length rows).it W.as))) W.di = some (.frz od (.dT (kvI (lwalk tabs.length rows).it W.as))) := upd_same
    have fin : ∀ {G'}, Mv [] (upd H1 W.di (.frz od (.dT (kvI (lwalk tabs.length rows).it W.as)))) G' → Mv [] H1 (upd G' W.di (.dT (kvI (lwalk tabs.length rows).it W.as))) := fun m => mv_lock hdi m
    generalize upd H1 W.di (.frz od (.dT (kvI (lwalk tabs.length rows).it W.as))) = Hf at *
    have n := WNe.of hW.nd
    refine ⟨_, rfl, W.di, od, rfl, .inr ⟨_, ef, fun D nD => ?_⟩⟩
    refine lc_it walk_keysT (fun j G => Mv [] Hf G ∧ ∃ acc, G D = some (.lst acc) ∧ acc.length ≤ j ∧ ∀ y ∈ acc, ∃ q, (∃ it, aget (lwalk tabs.length rows).it q = some it ∧ it.tk = none) ∧ PairR G q y) ⟨Mv.new nD, [], upd_same, Nat.le_refl _, by simp⟩ (fun j G _ p => p.1.at ef (by simp)) ?_ ?_
    · intro j x G G' hj ⟨hm, acc, hacc, hal, hpr⟩ ⟨eH, k, v', kq', hkv, hx, hkq⟩
      subst eH hx
      obtain ⟨q, i, a, h1, h2, rfl, rfl⟩ := kvI_get hkv
      have hj' : j < (lwalk tabs.length rows).it.length := lt_of_get h1
      obtain ⟨b', hb', pb, kd, tv, hi1, hi2, hi3, hi4, hi5⟩ := hW.it.getL h1
      have eb' : b' = a := Option.some.inj (hb'.symm.trans h2)
      rw [eb'] at hi1
      have hq : aget (lwalk tabs.length rows).it q = some i := by
        obtain ⟨i', hi'⟩ : ∃ i', aget (lwalk tabs.length rows).it q = some i' := Option.isSome_iff_exists.mp (ahas_mem (List.mem_of_getElem? h1))
        obtain ⟨j2, hj2⟩ := List.getElem?_of_mem (aget_mem hi')
        have ej : j2 = j := nodup_fst wi.nd hj2 h1
        rw [ej, h1] at hj2
        have := congrArg Prod.snd (Option.some.inj hj2)
        rw [hi']; exact congrArg some this.symm
      have hv2 : valV (kvI (lwalk tabs.length rows).it W.as) (nk q) = some (.ref a) := by
        obtain ⟨j2, a2, k1, k2, k3⟩ := kvI_at hW.it.len hq
        rw [k3]
        have ej : j2 = j := nodup_fst wi.nd k1 h1
        rw [ej, h2] at k2
        rw [Option.some.inj k2]
      have adi : a ≠ W.di := fun z => n.das (by rw [← z]; exact List.mem_of_getElem? h2)
      refine ⟨rfl, _, rfl, _, rfl, W.di, _, rfl, dgt_frz (k := nk q) ((hm.at ef (by simp))) hkq |> fun x => by rw [hv2] at x; exact x, ?_⟩
      refine ⟨_, _, _, _, rfl, rfl, SqL.of (hm.at (mf.at hi1 (by simp; exact adi)) (by simp)), atI_nat (j := 3) rfl, _, rfl, ?_⟩
      refine ite2 (fun c => ?_) (fun c => ⟨hm, acc, hacc, Nat.le_succ_of_le hal, hpr⟩)
      have ctk : i.tk = none := by
        cases e : i.tk with
        | none => rfl
        | some z =>
          rw [e] at hi3
          obtain ⟨x, hx2, _⟩ := hi3
          rw [hx2] at c
          simp at c
      refine ⟨_, rfl, acc, hacc, ?_, hm.own nD, acc ++ [.ref kq'], upd_same, by rw [List.length_append]; exact Nat.succ_le_succ hal, ?_⟩
      · have := wi.len
        exact Nat.lt_of_le_of_lt (Nat.le_trans hal (Nat.le_trans (Nat.le_of_lt hj') (Nat.le_trans this hf.few))) (by decide)
      · have kk : TK G' (upd G' D (.lst (acc ++ [.ref kq']))) := TK.upd fun xs z => by rw [hacc] at z; cases z
        intro y hy
        rcases List.mem_append.mp hy with h | h
        · obtain ⟨q2, s2, r2⟩ := hpr y h
          exact ⟨q2, s2, r2.mono kk⟩
        · rw [List.mem_singleton] at h
          rw [h]
          exact ⟨q, ⟨i, hq, ctk⟩, kq', rfl, kk _ _ hkq⟩
    · intro G ⟨hm, acc, hacc, hal, hpr⟩
      have eD : D ≠ W.di := (ne_none (some_ne ef) nD).symm
      refine ⟨hm.at ef (by simp), ?_⟩
      have mu := fin hm
      have hacc2 : upd G W.di (.dT (kvI (lwalk tabs.length rows).it W.as)) D = some (.lst acc) := by rw [upd_ne eD]; exact hacc
      have hpr2 : ∀ y ∈ acc, ∃ q, (∃ it, aget (lwalk tabs.length rows).it q = some it ∧ it.tk = none) ∧ PairR (upd G W.di (.dT (kvI (lwalk tabs.length rows).it W.as))) q y := fun y hy => by
        obtain ⟨q, s, x, e1, e2⟩ := hpr y hy
        refine ⟨q, s, x, e1, ?_⟩
        rw [upd_ne (fun z => by
          have := hm.at ef (by simp)
          rw [← z, e2] at this; cases this)]
        exact e2
      generalize upd G W.di (.dT (kvI (lwalk tabs.length rows).it W.as)) = G2 at *
      refine ⟨D, acc, rfl, SqL.of hacc2, fun y hy => ?_, fun ys p hp np => ?_⟩
      · obtain ⟨q, _, x, e1, e2⟩ := hpr2 y hy
        exact ⟨x, _, _, e1, e2⟩
      · have m3 : Mv [] G2 (upd G2 p (.lst ys)) := Mv.new np
        obtain ⟨qs, q1, q2⟩ := pick_all (H := upd G2 p (.lst ys)) (S := fun q => ∃ it, aget (lwalk tabs.length rows).it q = some it ∧ it.tk = none) (ys := ys) fun y hy => by
          obtain ⟨q, s, r⟩ := hpr2 y (hp.mem_iff.mp hy)
          exact ⟨q, s, r.mono m3.tk0⟩
        refine kq _ p ys qs ((m1.trans mu).trans m3) (m1.none (mu.none np)) upd_same q1 q2 ?_
        rw [hp.length_eq]
        have := wi.len
        rw [kvI_len hW.it.len] at hal
        omega
def spLTakes (tabs : Tabs) : Sp := fun vs H Q _ => ∃ (A : LoA) (rows : List Row) (wr : List Nat) (n : Nat), vs = [.ref A.d] ∧ LTownAt tabs H rows wr A n ∧ tabs.length ≤ 4 ∧ Fit tabs.length rows ∧
  ∀ (H' : Hp) (p : Addr) (vs : List V) (ts : List TD), Mv [] H H' → H p = none → H' p = some (.lst vs) → All2 (TDAt H') ts vs → (∀ td ∈ ts, ∃ h f k wo, td = .step h f k ∧ h < tabs.length ∧ aget (going (tabs.length + 1) rows).ls (f, k) = some ⟨h, wo, false⟩) → vs.length ≤ 1000 → Q (.ref p) H'
theorem sc50 : FnScope ["_law_town_here", "_law_items", "_law_found", "_law_name", "_law_to"] ["_law_town_here"] (defScope (top 50)) := ⟨rfl, rfl, rfl, by decide +kernel, rfl, by decide +kernel, by decide +kernel⟩
theorem ok_ltakes (D : DefAt K mg "_law_town_takes" (top 50)) (B : Bl mg) (GW : LCal P w K mg base 1 "_law_town_walk" (spLWalk tabs)) (GI : LCal P w K mg base 2 "_law_town_waiting" (spLWait tabs)) (GC : LCal P w K mg base 1 "_law_town_count" (spLCount tabs)) : LCal P w K mg base 3 "_law_town_takes" (spLTakes tabs) := by
  refine cal_of D sc50 (fun _ _ _ _ _ _ us hl => match us, hl with | [_], _ => rfl) (fun vs H Q E h => ?_) (fun f cdv Ar outer s H vs Q E hr h => ?_)
  · obtain ⟨A, rows, wr, n, rfl, _⟩ := h
    rfl
  · obtain ⟨A, rows, wr, n, rfl, hT, h4, hf, kq⟩ := h
    have nd := sc50.nd
    refine ⟨_, (pss_cons (ps_set (i := 1) nd rfl (Or.inl rfl) (pe_dget (hu_of hr) (pe_f GW hr (by decide) (pa_cons (pv 0) pa_nil)) pe_str (fun _ _ => rfl)))
 (pss_cons (ps_set (i := 2) nd rfl (Or.inl rfl) (pe_lst pa_nil))
 (pss_cons (ps_for PassesOwn.never rfl (pi_list (pe_f GI hr (by decide) (pa_cons (pv 0) pa_nil))) (pg_name (i := 3) nd rfl (Or.inl rfl))
 (pss_cons (ps_set (i := 4) nd rfl (Or.inl rfl) (pe_ix ix_list (pe_dget (hu_of hr) (pv 1) (pv 3) (fun _ _ => rfl)) pe_int (fun _ _ => rfl)))
 (pss_one (ps_if (pt_cmpR op_lt (pv 4) (pe_dget (hu_of hr) (pv 0) pe_str (fun _ _ => rfl)) (nomark _))
 (pss_one (ps_if (PW.pt (pw_or (pt_cmpR op_ne (pe_dget (hu_of hr) (pv 0) pe_str (fun _ _ => rfl)) pe_str (nomark _)) (pw_or1 (pt_cmpR op_eq (pe_ix ix_list (pe_dget (hu_of hr) (pv 0) pe_str (fun _ _ => rfl)) (pv 4) (fun _ _ => rfl)) (pe_f GC hr (by decide) (pa_cons (pv 0) (pa_cons (pv 4) pa_nil))) (nomark _)))))
 (pss_one (ps_expr (pe_bm PySem.F.plainAttrs_list PySem.F.slot_list_append PySem.F.type_list_append mt_append (pv 2) (pa_cons (pe_op op_catT (pe_tup (pa_cons pe_str (pa_cons (pv 4) pa_nil))) (pv 3)) pa_nil))))
 pss_nil))
 pss_nil))))
 (pss_one (ps_ret (pv 2)))))), ?_⟩
    have wi := winv hf.valid
    refine ⟨_, rfl, A, rows, wr, n, rfl, hT, h4, hf, fun H1 v W m1 hWn hv hW => ?_⟩
    refine ⟨v, _, rfl, dgk (k := .inr "items") hv rfl, ?_⟩
    refine ⟨by decide, fun F nF => ?_⟩
    have eF : upd H1 F (.lst []) F = some (.lst []) := upd_same
    have m2 : Mv [] H1 (upd H1 F (.lst [])) := Mv.new nF
    generalize upd H1 F (.lst []) = H2 at *
    have m12 := m1.trans m2
    refine ⟨_, rfl, A, rows, wr, n, rfl, hT.mv m12, h4, hf, fun H3 p vs qs m3 np hp hqs hway hlen => ?_⟩
    have hW3 := hW.mv (m2.trans m3)
    have hT3 := hT.mv (m12.trans m3)
    have nF0 := m1.none nF
    have FW : F ∉ W.all := fun z => hW.live F z nF
    have FA : F ∉ A.all := hT.fresh nF0
    have pF : p ≠ F := fun z => by rw [z, eF] at np; cases np
    have few := hf.few
    refine ⟨p, rfl, ⟨_, SqL.of hp⟩, ?_⟩
    refine for_list (xs := vs) (fun i σ G => (∃ x3 x4, σ = [some (.ref A.d), some (.ref W.di), some (.ref F), x3, x4]) ∧ Mv [F] H3 G ∧ ∃ acc ts, G F = some (.lst acc) ∧ All2 (TDAt G) ts acc ∧ (∀ td ∈ ts, ∃ h f k wo, td = .step h f k ∧ h < tabs.length ∧ aget (going (tabs.length + 1) rows).ls (f, k) = some ⟨h, wo, false⟩) ∧ acc.length ≤ i) ?_ ?_ ?_ ?_
    · exact ⟨⟨_, _, rfl⟩, Mv.refl _ _, [], [], m3.at eF (by simp), .nil, by simp, Nat.le_refl _⟩
    · exact fun i σ G _ q => SqL.of (q.2.1.at hp (by simp; exact pF))
    · intro i x σ G hx ⟨⟨x3, x4, hσ⟩, hm, acc, ts, hF, hts, htd, hal⟩
      subst hσ
      obtain ⟨q, hq', t, rfl, ht⟩ := hqs.getR hx
      obtain ⟨it, hit, htk⟩ := hway q (List.mem_of_getElem? hq')
      have hi := lt_of_get hx
      have tkF : ∀ a ∈ [F], ∀ xs, H3 a ≠ some (.tup xs) := fun a ha xs z => by
        rw [List.mem_singleton] at ha
        rw [ha, m3.at eF (by simp)] at z; cases z
      have k3 := hm.tk tkF
      have htG := k3 _ _ ht
      obtain ⟨j, ia, hj1, hj2, hj3⟩ := kvI_at hW3.it.len hit
      obtain ⟨b', hb', pb, kd, tv, hi1, hi2, hi3, hi4, hi5⟩ := hW3.it.getL hj1
      have eb' : b' = ia := Option.some.inj (hb'.symm.trans hj2)
      rw [eb'] at hi1
      have iaF : ia ≠ F := fun z => FW (by rw [← z]; simp [WA.all, List.mem_of_getElem? hj2])
      have diF : W.di ≠ F := fun z => FW (by rw [← z]; simp [WA.all])
      obtain ⟨tv3, _, ob3⟩ := hT3.tab
      have dF : A.d ≠ F := fun z => FA (by rw [← z]; simp [LoA.all])
      refine ⟨_, rfl, _, rfl, W.di, _, rfl, DGet.t (k := nk q) (hm.at hW3.di (by simp; exact diF)) htG |> fun x => by rw [hj3] at x; exact x, ?_⟩
      refine ⟨_, _, _, _, rfl, rfl, SqL.of (hm.at hi1 (by simp; exact iaF)), atI_nat (j := 0) rfl, ?_⟩
      refine ⟨_, rfl, _, rfl, A.d, _, rfl, dgk (k := .inr "many") (hm.at ob3 (by simp; exact dF)) lo_many, _, _, rfl, rfl, _, rfl, ?_⟩
      refine ite2 (fun c => ?_) (fun c => ⟨⟨_, _, rfl⟩, hm, acc, ts, hF, hts, htd, Nat.le_succ_of_le hal⟩)
      have c' : it.to < tabs.length := Int.ofNat_lt.mp (of_decide_eq_true c)
      refine ⟨_, rfl, A.d, _, rfl, dgk (k := .inr "kind") (hm.at ob3 (by simp; exact dF)) lo_kind, rfl, true, by decide, ?_⟩
      refine ⟨_, rfl, .inl ⟨rfl, _, SqL.of hF⟩, ?_⟩
      refine ⟨_, rfl, (by show 2 ≤ sizeLine; decide), fun p1 np1 => ?_⟩
      have ep1 : upd G p1 (.tup [.str "step", iN it.to]) p1 = some (.tup [.str "step", iN it.to]) := upd_same
      have m4 : Mv [] G (upd G p1 (.tup [.str "step", iN it.to])) := Mv.new np1
      have ht4 := m4.at htG (by simp)
      generalize upd G p1 (.tup [.str "step", iN it.to]) = G4 at *
      refine ⟨_, rfl, p1, t, _, _, rfl, rfl, SqT.of ep1, SqT.of ht4, by simp, (by show 4 ≤ sizeLine; decide), (fun z => by cases z), fun _ p2 np2 => ?_⟩
      have ep2 : upd G4 p2 (.tup ([.str "step", iN it.to] ++ [iN q.1, iN q.2])) p2 = some (.tup [.str "step", iN it.to, iN q.1, iN q.2]) := upd_same
      have m5 : Mv [] G4 (upd G4 p2 (.tup ([.str "step", iN it.to] ++ [iN q.1, iN q.2]))) := Mv.new np2
      have m45 := m4.trans m5
      have hF5 := m45.at hF (by simp)
      generalize upd G4 p2 (.tup ([.str "step", iN it.to] ++ [iN q.1, iN q.2])) = G5 at *
      refine ⟨_, _, _, rfl, rfl, hF5, Nat.lt_of_le_of_lt (Nat.le_trans hal (by omega : i ≤ 1000)) (by decide), ?_⟩
      have k6 : TK G5 (upd G5 F (.lst (acc ++ [.ref p2]))) := TK.upd fun xs z => by rw [hF5] at z; cases z
      refine ⟨⟨_, _, rfl⟩, (hm.trans (m45.mono (by simp))).trans (Mv.upd (by simp)), acc ++ [.ref p2], ts ++ [.step it.to q.1 q.2], upd_same, ?_, ?_, by rw [List.length_append]; exact Nat.succ_le_succ hal⟩
      · exact All2.snoc ⟨p2, _, rfl, k6 _ _ ep2, rfl⟩ (hts.imp fun _ _ z => (z.mono m45.tk0).mono k6)
      · intro td hd
        rcases List.mem_append.mp hd with h | h
        · exact htd td h
        · rw [List.mem_singleton] at h
          have e := (wi.some_ _ _ hit).1
          rw [htk] at e
          exact ⟨it.to, q.1, q.2, it.wo, h, c', e⟩
    · intro σ G ⟨⟨x3, x4, hσ⟩, hm, acc, ts, hF, hts, htd, hal⟩
      subst hσ
      refine ⟨_, rfl, kq G F acc ts ?_ nF0 hF hts htd (by omega)⟩
      exact (((m12.trans m3).mono (S' := [F]) (by simp)).trans hm).weak (by simp [nF0])
end
end Lor
end

section
set_option Elab.async false
set_option linter.all false
set_option maxRecDepth 100000
set_option maxHeartbeats 4000000
namespace Lor
open PySem PySem.Spec PyProof.Rows L2
/-- a deed that may be drawn -/
def LDraw (many : Nat) (rows : List Row) (wr : List Nat) : TD → Prop
  | .put h x => h < many ∧ x ≤ 999
  | .step h f k => h < many ∧ ∃ wo, aget (going (many + 1) rows).ls (f, k) = some ⟨h, wo, false⟩
  | .write h => h < many ∧ wr.getD h 0 < count rows h
  | .keep h => h < many
  | .fall _ => False
/-- what the law's own town has come to, by these deeds -/
inductive LRun (tabs : Tabs) : List TD → List Row → List Nat → Prop where
  | nil : LRun tabs [] [] (List.replicate tabs.length 0)
  | snoc {ds : List TD} {rows : List Row} {wr : List Nat} {td : TD} {st' : TS} {T : List Nm} : LRun tabs ds rows wr → LDraw tabs.length rows wr td → Does tabs false (lst_ rows wr) td st' → TellsN tabs.length st'.rows T →
      LRun tabs (ds ++ [td]) (st'.rows ++ T.map (tkRow tabs.length)) st'.wr
/-- what is known of it -/
structure LGood (tabs : Tabs) (rows : List Row) (wr : List Nat) : Prop where
  valid : Valid tabs.length rows
  few : rows.length ≤ 400
  wlen : wr.length = tabs.length
  wrc : ∀ h, h < tabs.length → wr.getD h 0 ≤ count rows h
  next : ∀ td st', LDraw tabs.length rows wr td → Does tabs false (lst_ rows wr) td st' → Valid tabs.length st'.rows ∧ st'.rows.length ≤ 400
section
variable {P : Program} {w : World} {K : PySem.W.Frag} {mg : Str → Option Value} {base : Heap} {tabs : Tabs}
def sdd (td : TD) : PyData := match td with
  | .step h f k => .tuple [.str "step", .int h, .int f, .int k]
  | _ => .tuple []
theorem dp_steps {H : Hp} : ∀ {ts : List TD} {vs : List V}, All2 (TDAt H) ts vs → (∀ td ∈ ts, ∃ h f k, td = .step h f k) → DpAll K H vs (ts.map sdd)
  | _, _, .nil, _ => .nil
  | _, _, .cons (a := td) h t, hs => by
    obtain ⟨a, r, rfl, ha, hr⟩ := h
    obtain ⟨h, f, k, e⟩ := hs td List.mem_cons_self
    subst e
    obtain rfl := hr
    exact .cons (.tup (SqT.of ha) (.cons (.str _) (.cons (.int _) (.cons (.int _) (.cons (.int _) .nil))))) (dp_steps t fun x hx => hs x (List.mem_cons_of_mem _ hx))
theorem can_steps : ∀ l : List TD, PyData.canLayAll0 (l.map sdd) = true
  | [] => rfl
  | a :: r => by
    show PyData.canLayAll0 (sdd a :: _) = true
    rw [PyData.canLayAll0, can_steps r]
    have : (sdd a).canLay0 = true := by
      have := tdW_ok (.step 0 0 0)
      cases a <;> simp [sdd, PyData.canLay0, PyData.canLayAll0]
      exact this
    rw [this]; rfl
theorem depth_steps : ∀ l : List TD, PyData.depthAll (l.map sdd) ≤ 2
  | [] => by decide
  | a :: r => by
    show PyData.depthAll (sdd a :: _) ≤ 2
    rw [PyData.depthAll]
    exact Nat.max_le.mpr ⟨by cases a <;> simp [sdd, PyData.depth, PyData.depthAll], depth_steps r⟩
theorem shaped_steps (l : List TD) : SeqAt.shaped (.list (l.map sdd)) = true := by
  unfold SeqAt.shaped
  rw [Bool.and_eq_true]
  refine ⟨?_, decide_eq_true ?_⟩
  · rw [PyData.canLay0]; exact can_steps l
  · rw [PyData.depth]; have := depth_steps l; omega
def spLDeed (tabs : Tabs) : Sp := fun vs H Q _ => ∃ (p : Addr) (A : LoA) (rows : List Row) (wr : List Nat) (n : Nat), vs = [.ref p, .ref A.d, iN 10] ∧ PoolAt H p ∧ p ∉ A.all ∧ LTownAt tabs H rows wr A n ∧ TabsOk tabs ∧ Fit tabs.length rows ∧ wr.length = tabs.length ∧
  ∀ (H' : Hp) (td : TD) (dv : V), Mv [p] H H' → PoolAt H' p → TDAt H' td dv → LDraw tabs.length rows wr td → Q dv H'
theorem sc52 : FnScope ["_law_pool_here", "_law_town_here", "_law_odds", "_law_sort", "_law_who", "_law_some"] ["_law_pool_here", "_law_town_here", "_law_odds"] (defScope (top 52)) := ⟨rfl, rfl, rfl, by decide +kernel, rfl, by decide +kernel, by decide +kernel⟩
theorem ok_ldeed (D : DefAt K mg "_law_town_deed" (top 52)) (B : Bl mg) (TKE : LCal P w K mg base 1 "_law_take" spTake) (GI : LCal P w K mg base 3 "_law_town_takes" (spLTakes tabs)) (GC : LCal P w K mg base 1 "_law_town_count" (spLCount tabs)) : LCal P w K mg base 4 "_law_town_deed" (spLDeed tabs) := by
  refine cal_of D sc52 (fun _ _ _ _ _ _ us hl => match us, hl with | [_, _, _], _ => rfl) (fun vs H Q E h => ?_) (fun f cdv Ar outer s H vs Q E hr h => ?_)
  · obtain ⟨p, A, rows, wr, n, rfl, _⟩ := h
    rfl
  · obtain ⟨p, A, rows, wr, n, rfl, hp, pA, hT, ok, hf, hwl, kq⟩ := h
    have nd := sc52.nd
    have o2 := ok.two
    have o4 := ok.four
    refine ⟨_, (pss_cons (ps_set (i := 3) nd rfl (Or.inl rfl) (pe_f TKE hr (by decide) (pa_cons (pv 0) (pa_cons (pv 2) pa_nil))))
 (pss_cons (ps_set (i := 4) nd rfl (Or.inl rfl) (pe_f TKE hr (by decide) (pa_cons (pv 0) (pa_cons (pe_dget (hu_of hr) (pv 1) pe_str (fun _ _ => rfl)) pa_nil))))
 (pss_cons (ps_set (i := 5) nd rfl (Or.inl rfl) (pe_f GI hr (by decide) (pa_cons (pv 1) pa_nil)))
 (pss_cons (ps_if (pt_cmpR op_gt (pv 3) pe_int (nomark _))
 pss_never
 pss_nil)
 (pss_cons (ps_if (PW.pt (pw_and (pt_cmpR op_gt (pv 3) pe_int (nomark _)) (pw_and (pt_cmpR (op_neD hr.units) (pv 5) (pe_lst pa_nil) (nomark _)) (pw_and1 (pt_cmpR op_lt (pv 3) pe_int (nomark _))))))
 (pss_one (ps_ret (pe_ix ix_list (pv 5) (pe_f TKE hr (by decide) (pa_cons (pv 0) (pa_cons (pe_callB call_len_seq (by rfl) B.len PySem.boot_len (pa_cons (pv 5) pa_nil)) pa_nil))) (fun _ _ => rfl))))
 pss_nil)
 (pss_cons (ps_if (PW.pt (pw_and (pt_cmpR op_in_seq (pv 3) (pe_lst (pa_cons pe_int (pa_cons pe_int (pa_cons pe_int pa_nil)))) rfl) (pw_and1 (pt_cmpR op_lt (pe_ix ix_list (pe_dget (hu_of hr) (pv 1) pe_str (fun _ _ => rfl)) (pv 4) (fun _ _ => rfl)) (pe_f GC hr (by decide) (pa_cons (pv 1) (pa_cons (pv 4) pa_nil))) (nomark _)))))
 (pss_one (ps_ret (pe_tup (pa_cons pe_str (pa_cons (pv 4) pa_nil)))))
 pss_nil)
 (pss_cons (ps_if (pt_cmpR op_eq (pv 3) pe_int (nomark _))
 (pss_one (ps_ret (pe_tup (pa_cons pe_str (pa_cons (pv 4) pa_nil)))))
 pss_nil)
 (pss_one (ps_ret (pe_tup (pa_cons pe_str (pa_cons (pv 4) (pa_cons (pe_f TKE hr (by decide) (pa_cons (pv 0) (pa_cons pe_int pa_nil))) pa_nil))))))))))))), ?_⟩
    have hmT : ∀ {G : Hp}, Mv [p] H G → LTownAt tabs G rows wr A n := fun m => hT.move m (hp.tk m) fun a ha z => by
      rw [List.mem_singleton] at z
      exact pA (z ▸ ha)
    refine ⟨_, rfl, _, rfl, p, 10, rfl, hp, by decide, by decide, fun sort H1 hs m1 hp1 => ?_⟩
    obtain ⟨tv1, _, ob1⟩ := (hmT m1).tab
    refine ⟨_, rfl, _, rfl, A.d, _, rfl, dgk (k := .inr "many") ob1 lo_many, p, tabs.length, rfl, hp1, by omega, by omega, fun who H2 hw m2 hp2 => ?_⟩
    have m12 := m1.trans m2
    refine ⟨_, rfl, A, rows, wr, n, rfl, hmT m12, o4, hf, fun H3 L vs ts m3 nL hL hts htd hvl => ?_⟩
    have m13 : Mv [p] H H3 := m12.trans (m3.mono (by simp))
    have hp3 := hp2.mv m3 (by simp)
    have pL : p ≠ L := fun z => by
      obtain ⟨c, x, e, _⟩ := hp2
      rw [z, nL] at e; cases e
    refine ⟨_, rfl, _, _, rfl, rfl, _, rfl, ?_⟩
    refine ifF (decide_eq_false (by omega)) ?_
    have hT3 := hmT m13
    obtain ⟨tv3, _, ob3⟩ := hT3.tab
    have four : ∀ (G : Hp), Mv [p] H G → PoolAt G p → ∀ σ : L2.St, σ[0]? = some (some (.ref p)) → σ[4]? = some (some (iN who)) → tTup (tCons (tC (V.str "put")) (tCons (tVar 4) (tCons (tCall spTake [] E0 (tCons (tVar 0) (tCons (tC (V.int 1000)) tNil))) tNil))) σ G Q := by
      intro G m hpG σ s0 s4
      refine ⟨_, s4, _, s0, p, 1000, rfl, hpG, by decide, by decide, fun x G2 hx m2 hp2 => ?_⟩
      refine ⟨(by show 3 ≤ sizeLine; decide), fun t nt => ?_⟩
      have mt : Mv [] G2 (upd G2 t (.tup [.str "put", iN who, iN x])) := Mv.new nt
      exact kq _ (.put who x) _ ((m.trans m2).trans (mt.mono (by simp))) (hp2.mv mt (by simp)) ⟨t, _, rfl, upd_same, rfl⟩ ⟨hw, by omega⟩
    have three : ∀ (G : Hp), Mv [p] H G → PoolAt G p → ∀ σ : L2.St, σ[0]? = some (some (.ref p)) → σ[3]? = some (some (iN sort)) → σ[4]? = some (some (iN who)) →
        tSeq (tIfS (tTest (tOp rEq (tVar 3) (tC (V.int 9)))) (tRet (tTup (tCons (tC (V.str "keep")) (tCons (tVar 4) tNil)))) tNext) (tRet (tTup (tCons (tC (V.str "put")) (tCons (tVar 4) (tCons (tCall spTake [] E0 (tCons (tVar 0) (tCons (tC (V.int 1000)) tNil))) tNil))))) { nx := fun _ H' => Q .non H', rt := Q } σ G := by
      intro G m hpG σ s0 s3 s4
      refine ⟨_, s3, rfl, _, rfl, ?_⟩
      refine ite2 (fun _ => ?_) (fun _ => four G m hpG σ s0 s4)
      refine ⟨_, s4, (by show 2 ≤ sizeLine; decide), fun t nt => ?_⟩
      have mt : Mv [] G (upd G t (.tup [.str "keep", iN who])) := Mv.new nt
      exact kq _ (.keep who) _ (m.trans (mt.mono (by simp))) (hpG.mv mt (by simp)) ⟨t, _, rfl, upd_same, rfl⟩ hw
    have two : ∀ (G : Hp), Mv [] H3 G → ∀ σ : L2.St, σ = [some (.ref p), some (.ref A.d), some (iN 10), some (iN sort), some (iN who), some (.ref L)] →
        tSeq (tIfS (tAnd (tTest (tOp (rIn K false) (tVar 3) (tLst (tCons (tC (V.int 2)) (tCons (tC (V.int 3)) (tCons (tC (V.int 8)) tNil)))))) (tTest (tOp (rI0 fun i j => V.bl (decide (i < j))) (tOp (rIxL K) (tDGet (tVar 1) (tC (V.str "written"))) (tVar 4)) (tCall (spLCount tabs) [] E0 (tCons (tVar 1) (tCons (tVar 4) tNil)))))) (tRet (tTup (tCons (tC (V.str "write")) (tCons (tVar 4) tNil)))) tNext)
          (tSeq (tIfS (tTest (tOp rEq (tVar 3) (tC (V.int 9)))) (tRet (tTup (tCons (tC (V.str "keep")) (tCons (tVar 4) tNil)))) tNext) (tRet (tTup (tCons (tC (V.str "put")) (tCons (tVar 4) (tCons (tCall spTake [] E0 (tCons (tVar 0) (tCons (tC (V.int 1000)) tNil))) tNil)))))) { nx := fun _ H' => Q .non H', rt := Q } σ G := by
      intro G m σ hσ
      subst hσ
      refine ⟨_, rfl, by decide, fun l nl => ?_⟩
      have ml : Mv [] G (upd G l (.lst [.int 2, .int 3, .int 8])) := Mv.new nl
      have el : upd G l (.lst [.int 2, .int 3, .int 8]) l = some (.lst [.int 2, .int 3, .int 8]) := upd_same
      generalize upd G l (.lst [.int 2, .int 3, .int 8]) = G2 at *
      have m2 := m.trans ml
      have mH : Mv [p] H G2 := m13.trans (m2.mono (by simp))
      have hpG := hp3.mv m2 (by simp)
      refine ⟨l, _, rfl, .inl (SqL.of el), rfl, rfl, _, rfl, ?_⟩
      refine ite2 (fun _ => ?_) (fun _ => three G2 mH hpG _ rfl rfl rfl)
      have hTG := hmT mH
      obtain ⟨tvG, _, obG⟩ := hTG.tab
      refine ⟨_, rfl, A.d, _, rfl, dgk (k := .inr "written") obG lo_wr, _, rfl, _, _, _, _, rfl, rfl, SqL.of hTG.wr, atI_nat (nats_get (getD_get (by rw [hwl]; exact hw))), ?_⟩
      refine ⟨_, rfl, _, rfl, A, rows, wr, n, who, rfl, hTG, hf.few, fun G3 m3 => ?_⟩
      have mH3 : Mv [p] H G3 := mH.trans (m3.mono (by simp))
      have hp4 := hpG.mv m3 (by simp)
      refine ⟨_, _, rfl, rfl, _, rfl, ?_⟩
      refine ite2 (fun c => ?_) (fun _ => three G3 mH3 hp4 _ rfl rfl rfl)
      refine ⟨_, rfl, (by show 2 ≤ sizeLine; decide), fun t nt => ?_⟩
      have mt : Mv [] G3 (upd G3 t (.tup [.str "write", iN who])) := Mv.new nt
      exact kq _ (.write who) _ (mH3.trans (mt.mono (by simp))) (hp4.mv mt (by simp)) ⟨t, _, rfl, upd_same, rfl⟩ ⟨hw, Int.ofNat_lt.mp (of_decide_eq_true c)⟩
    refine ⟨_, rfl, _, _, rfl, rfl, _, rfl, ?_⟩
    refine ite2 (fun _ => ?_) (fun _ => two H3 (Mv.refl _ _) _ rfl)
    refine ⟨_, rfl, by decide, fun e ne => ?_⟩
    have ee : upd H3 e (.lst []) e = some (.lst []) := upd_same
    have me : Mv [] H3 (upd H3 e (.lst [])) := Mv.new ne
    have hL4 := me.at hL (by simp)
    have hts4 := hts.imp fun _ _ z => z.mono me.tk0
    generalize upd H3 e (.lst []) = H4 at *
    refine ⟨.list (ts.map sdd), .list [], .lst (SqL.of hL4) (dp_steps hts4 fun td h => let ⟨a, b, c, _, e, _⟩ := htd td h; ⟨a, b, c, e⟩), .lst (SqL.of ee) .nil, shaped_steps ts, rfl, _, rfl, ?_⟩
    refine ite2 (fun c1 => ?_) (fun _ => two H4 me _ rfl)
    have hne : 0 < vs.length := by
      rw [← hts.len]
      cases ts with
      | nil => rw [List.map_nil, PyData.eqv] at c1; exact absurd c1 (by decide)
      | cons a r => simp
    refine ⟨_, rfl, _, _, rfl, rfl, _, rfl, ?_⟩
    refine ite2 (fun _ => ?_) (fun _ => two H4 me _ rfl)
    have m4H : Mv [p] H H4 := m13.trans (me.mono (by simp))
    have hp4 := hp3.mv me (by simp)
    refine ⟨_, rfl, _, rfl, _, rfl, L, _, rfl, .inl (SqL.of hL4), p, vs.length, rfl, hp4, hne, by omega, fun r H5 hr5 m5 hp5 => ?_⟩
    have hL5 := m5.at hL4 (by simp; exact pL.symm)
    have ev : vs[r]? = some vs[r] := List.getElem?_eq_getElem hr5
    refine ⟨_, _, _, _, rfl, rfl, SqL.of hL5, atI_nat ev, ?_⟩
    obtain ⟨td, ht, htv⟩ := hts4.getR ev
    refine kq H5 td _ (m4H.trans m5) hp5 (htv.mono (hp4.tk m5)) ?_
    obtain ⟨h, f', k, wo, e1, e2, e3⟩ := htd td (List.mem_of_getElem? ht)
    rw [e1]
    exact ⟨e2, wo, e3⟩
end
end Lor
end

section
set_option Elab.async false
set_option linter.all false
set_option maxRecDepth 100000
set_option maxHeartbeats 4000000
namespace Lor
open PySem PySem.Spec PyProof.Rows L2
theorem ldraw_hand {many : Nat} {rows : List Row} {wr : List Nat} {td : TD} (h : LDraw many rows wr td) (w : ∀ h, h < many → wr.getD h 0 ≤ count rows h) : LHand many rows wr td := by
  cases td with
  | put h x => trivial
  | step h' f k => exact h.1
  | write h' => exact h.1
  | keep h' => exact ⟨h, w _ h⟩
  | fall l => exact h
section
variable {P : Program} {w : World} {K : PySem.W.Frag} {mg : Str → Option Value} {base : Heap} {tabs : Tabs}
def spLDrawn (tabs : Tabs) : Sp := fun vs H Q _ => ∃ (p : Addr) (tv : V), vs = [.ref p, tv, .str "free", iN 30, iN 10] ∧ PoolAt H p ∧ TabsAt H tabs tv ∧ TabsOk tabs ∧ (∀ ds rows wr, LRun tabs ds rows wr → ds.length ≤ 30 → LGood tabs rows wr) ∧
  ∀ (H' : Hp) (t d L : Addr) (vs : List V) (ds : List TD) (rows : List Row) (wr : List Nat), Mv [p] H H' → PoolAt H' p → H' t = some (.tup [.ref d, .ref L]) → H L = none → H' L = some (.lst vs) → All2 (TDAt H') ds vs → LRun tabs ds rows wr → ds.length ≤ 30 → Q (.ref t) H'
theorem sc53 : FnScope ["_law_pool_here", "_law_tables_here", "_law_kind", "_law_long", "_law_odds", "_law_town_here", "_law_deeds", "_law_turn"] ["_law_pool_here", "_law_tables_here", "_law_kind", "_law_long", "_law_odds"] (defScope (top 53)) := ⟨rfl, rfl, rfl, by decide +kernel, rfl, by decide +kernel, by decide +kernel⟩
theorem ok_ldrawn (D : DefAt K mg "_law_town_drawn" (top 53)) (B : Bl mg) (TKE : LCal P w K mg base 1 "_law_take" spTake) (GT : LCal P w K mg base 1 "_law_town" (spLTown tabs)) (GD : LCal P w K mg base 4 "_law_town_deed" (spLDeed tabs)) (GN : LCal P w K mg base 3 "_law_town_done" (spLDone tabs)) : LCal P w K mg base 5 "_law_town_drawn" (spLDrawn tabs) := by
  refine cal_of D sc53 (fun _ _ _ _ _ _ us hl => match us, hl with | [_, _, _, _, _], _ => rfl) (fun vs H Q E h => ?_) (fun f cdv Ar outer s H vs Q E hr h => ?_)
  · obtain ⟨p, tv, rfl, _⟩ := h
    rfl
  · obtain ⟨p, tv, rfl, hp, htv, ok, good, kq⟩ := h
    have nd := sc53.nd
    refine ⟨_, (pss_cons (ps_set (i := 5) nd rfl (Or.inl rfl) (pe_f GT hr (by decide) (pa_cons (pv 1) (pa_cons (pv 2) pa_nil))))
 (pss_cons (ps_set (i := 6) nd rfl (Or.inl rfl) (pe_lst pa_nil))
 (pss_cons (ps_for PassesOwn.never rfl (pi_range1 (by rfl) B.range (pa_cons (pe_f TKE hr (by decide) (pa_cons (pv 0) (pa_cons (pe_op op_add (pv 3) pe_int) pa_nil))) pa_nil)) (pg_name (i := 7) nd rfl (Or.inl rfl))
 (pss_cons (ps_expr (pe_bm PySem.F.plainAttrs_list PySem.F.slot_list_append PySem.F.type_list_append mt_append (pv 6) (pa_cons (pe_f GD hr (by decide) (pa_cons (pv 0) (pa_cons (pv 5) (pa_cons (pv 4) pa_nil)))) pa_nil)))
 (pss_one (ps_expr (pe_f GN hr (by decide) (pa_cons (pv 5) (pa_cons (pe_ix ix_list (pv 6) (pe_un un_neg pe_int) (fun _ _ => rfl)) pa_nil)))))))
 (pss_one (ps_ret (pe_tup (pa_cons (pv 5) (pa_cons (pv 6) pa_nil)))))))), ?_⟩
    refine ⟨_, rfl, _, rfl, tv, rfl, htv, ok, fun A H1 m1 hAn hT1 => ?_⟩
    have hp1 := hp.mv m1 (by simp)
    have pA : p ∉ A.all := fun z => by
      obtain ⟨c, x, e, _⟩ := hp
      rw [hAn p z] at e; cases e
    refine ⟨by decide, fun L nL => ?_⟩
    have eL : upd H1 L (.lst []) L = some (.lst []) := upd_same
    have m2 : Mv [] H1 (upd H1 L (.lst [])) := Mv.new nL
    have LA : L ∉ A.all := hT1.fresh nL
    have hT2 := hT1.mv m2
    have hp2 := hp1.mv m2 (by simp)
    have pL : p ≠ L := fun z => by
      obtain ⟨c, x, e, _⟩ := hp1
      rw [z, nL] at e; cases e
    have nL0 := m1.none nL
    generalize upd H1 L (.lst []) = H2 at *
    refine ⟨_, rfl, _, rfl, _, _, rfl, rfl, p, 31, rfl, hp2, by decide, by decide, fun r H3 hr3 m3 hp3 => ?_⟩
    refine ⟨(r : Int), rfl, by omega, by omega, ?_⟩
    have S0 : ∀ a ∈ A.all, a ∉ [p] := fun a ha z => by
      rw [List.mem_singleton] at z
      exact pA (z ▸ ha)
    have hT3 := hT2.move m3 (hp2.tk m3) S0
    have m13 : Mv [p] H H3 := ((m1.trans m2).mono (by simp)).trans m3
    refine for_range (lo := 0) (n := ((r : Nat) : Int).toNat) (fun i σ G => (∃ x7, σ = [some (.ref p), some tv, some (.str "free"), some (iN 30), some (iN 10), some (.ref A.d), some (.ref L), x7]) ∧ ∃ ds rows wr n vs, Mv [p] H G ∧ PoolAt G p ∧ LTownAt tabs G rows wr A n ∧ G L = some (.lst vs) ∧ All2 (TDAt G) ds vs ∧ LRun tabs ds rows wr ∧ ds.length = i ∧ n ≤ 400 * i) ?_ ?_ ?_
    · exact ⟨⟨_, rfl⟩, [], [], _, 0, [], m13, hp3, hT3, m3.at eL (by simp; exact pL.symm), .nil, .nil, rfl, Nat.le_refl _⟩
    · intro i σ G hi ⟨⟨x7, hσ⟩, ds, rows, wr, n, vs, mG, hpG, hTG, hL, hds, hrun, hdl, hn⟩
      subst hσ
      have hi30 : i < 31 := by omega
      have gd := good ds rows wr hrun (by omega)
      refine ⟨_, rfl, .inl ⟨rfl, _, SqL.of hL⟩, ?_⟩
      refine ⟨_, rfl, _, rfl, _, rfl, p, A, rows, wr, n, rfl, hpG, pA, hTG, ok, ⟨gd.valid, Nat.le_trans gd.few (by decide)⟩, gd.wlen, fun G2 td dv m2' hp2' htd hdr => ?_⟩
      have hL2 := m2'.at hL (by simp; exact pL.symm)
      have k2 := hpG.tk m2'
      have vl : vs.length = i := by rw [← hds.len, hdl]
      refine ⟨_, _, _, rfl, rfl, hL2, by rw [vl]; exact Nat.lt_of_lt_of_le hi30 (by decide), ?_⟩
      have mL : Mv [L] G2 (upd G2 L (.lst (vs ++ [dv]))) := Mv.upd (by simp)
      have kL : TK G2 (upd G2 L (.lst (vs ++ [dv]))) := TK.upd fun xs z => by rw [hL2] at z; cases z
      have eL3 : upd G2 L (.lst (vs ++ [dv])) L = some (.lst (vs ++ [dv])) := upd_same
      have hp4 := hp2'.mv mL (by simp; exact pL)
      have hT4 := (hTG.move m2' k2 S0).move mL kL fun a ha z => by
        rw [List.mem_singleton] at z
        exact LA (z ▸ ha)
      have htd4 := htd.mono kL
      have hds4 := All2.snoc htd4 (hds.imp fun _ _ z => (z.mono k2).mono kL)
      have mG4 : Mv [p] H (upd G2 L (.lst (vs ++ [dv]))) := (((mG.trans m2').mono (S' := p :: [L]) (by simp)).trans (mL.mono (by simp))).weak (by simp [nL0])
      clear m2' hp2' k2 mL kL hTG hL hds hpG htd hL2
      generalize upd G2 L (.lst (vs ++ [dv])) = G4 at *
      have hat : atI (vs ++ [dv]) (-1) = some dv := by
        unfold atI
        have : ixN (vs ++ [dv]).length (-1) = some vs.length := by
          unfold ixN
          rw [if_neg (by omega), if_pos (by rw [List.length_append]; simp; omega), List.length_append]
          congr 1
          simp; omega
        rw [this]
        show (vs ++ [dv])[vs.length]? = some dv
        rw [List.getElem?_append_right (Nat.le_refl _), Nat.sub_self]; rfl
      refine ⟨_, rfl, _, rfl, _, rfl, _, _, _, _, rfl, rfl, SqL.of eL3, hat, ?_⟩
      refine ⟨A, rows, wr, n, td, dv, rfl, hT4, htd4, ok, gd.wlen, gd.few, by omega, ldraw_hand hdr gd.wrc, fun st' hd => gd.next td st' hdr hd, fun G5 st' T m5 hd hTl hT5 => ?_⟩
      have k5 : TK G4 G5 := m5.tk fun a ha xs z => by
        obtain ⟨o, e, ne⟩ := hT4.live a ha
        rw [e] at z
        exact ne xs (Option.some.inj z)
      refine ⟨⟨_, rfl⟩, ds ++ [td], _, _, _, vs ++ [dv], ?_, hp4.mv m5 pA, hT5, m5.at eL3 LA, hds4.imp fun _ _ z => z.mono k5, .snoc hrun hdr hd hTl, by rw [List.length_append, hdl]; rfl, ?_⟩
      · exact ((mG4.mono (S' := p :: A.all) (by simp)).trans (m5.mono (by simp; exact fun a h => .inr h))).weak fun a ha => by
          rcases List.mem_cons.mp ha with h | h
          · exact .inl (by simp [h])
          · exact .inr (hAn a h)
      · have := hTl.few
        have := (gd.next td st' hdr hd).2
        omega
    · intro σ G ⟨⟨x7, hσ⟩, ds, rows, wr, n, vs, mG, hpG, hTG, hL, hds, hrun, hdl, hn⟩
      subst hσ
      refine ⟨_, rfl, _, rfl, (by show 2 ≤ sizeLine; decide), fun t nt => ?_⟩
      have mt : Mv [] G (upd G t (.tup [.ref A.d, .ref L])) := Mv.new nt
      exact kq _ t A.d L vs ds rows wr (mG.trans (mt.mono (by simp))) (hpG.mv mt (by simp)) upd_same nL0 (mt.at hL (by simp)) (hds.imp fun _ _ z => z.mono mt.tk0) hrun (by omega)
/-! own -/
def spLOwn (tabs : Tabs) : Sp := fun vs H Q _ => ∃ (pa u : Addr) (m : V) (ds : List Deed) (dv : List V) (h : Nat), vs = [.ref pa, iN h] ∧ H pa = some (.tup [m, .ref u]) ∧ H u = some (.tup dv) ∧ All2 (DeedAt H) ds dv ∧ ds.length ≤ 1000 ∧
  ∀ (H' : Hp) (L : Addr) (vs : List V), Mv [] H H' → H L = none → H' L = some (.lst vs) → All2 (DeedAt H') (ds.filter fun d => decide (d.hand = h)) vs → Q (.ref L) H'
theorem sc54 : FnScope ["_law_past", "_law_who", "_law_deed"] ["_law_past", "_law_who"] (defScope (top 54)) := ⟨rfl, rfl, rfl, by decide +kernel, rfl, by decide +kernel, by decide +kernel⟩
theorem ok_lown (D : DefAt K mg "_law_own" (top 54)) : LCal P w K mg base 1 "_law_own" (spLOwn tabs) := by
  refine cal_of D sc54 (fun _ _ _ _ _ _ us hl => match us, hl with | [_, _], _ => rfl) (fun vs H Q E h => ?_) (fun f cdv Ar outer s H vs Q E hr h => ?_)
  · obtain ⟨pa, u, m, ds, dv, h, rfl, _⟩ := h
    rfl
  · obtain ⟨pa, u, m, ds, dv, h, rfl, hpa, hu, hds, hl, kq⟩ := h
    have nd := sc54.nd
    refine ⟨_, (pss_one (ps_ret (pe_lc (own := [("_law_deed", 2)]) (g := gName 2) rfl nd (pi_tup (pe_ix ix_tup (pv 0) pe_int (fun _ _ => rfl))) (blkOk_by (own := [("_law_deed", 2)]) (N := ["_law_past", "_law_who", "_law_deed"]) (sc := defScope (top 54)) (by decide +kernel)) (fun _ _ _ _ _ => (pg_name (i := 2) nd rfl (Or.inl rfl))) (fun _ _ _ _ _ => pts_one (pt_cmpR op_eq (pe_ix (ix_tupK (K := K)) (pv 2) pe_int (fun _ _ => rfl)) (pv 1) (nomark _))) (fun _ _ _ _ _ => (pv 2))))), ?_⟩
    refine ⟨_, rfl, _, _, _, _, rfl, rfl, SqT.of hpa, atI_nat (j := 1) rfl, u, rfl, ⟨_, SqT.of hu⟩, fun D nD => ?_⟩
    refine lc_tup (xs := dv) (fun i G => Mv [] H G ∧ ∃ acc, G D = some (.lst acc) ∧ All2 (DeedAt G) ((ds.take i).filter fun d => decide (d.hand = h)) acc ∧ acc.length ≤ i) ⟨Mv.new nD, [], upd_same, .nil, Nat.le_refl _⟩ (fun i G _ p => SqT.of (p.1.at hu (by simp))) ?_ ?_
    · intro i x G hx ⟨hm, acc, hacc, hda, hal⟩
      obtain ⟨d, hd, ha⟩ := hds.getR hx
      obtain ⟨a, rfl, had⟩ := ha.mono hm.tk0
      have hi := lt_of_get hd
      rw [take_snoc hd, List.filter_append]
      refine ⟨rfl, _, rfl, _, _, _, _, rfl, rfl, SqT.of had, atI_nat (v := iN d.hand) (j := 1) (by cases d <;> rfl), _, rfl, rfl, _, rfl, ?_⟩
      refine ite2 (fun c => ?_) (fun c => ?_)
      · have c' : d.hand = h := iN_inj (of_decide_eq_true c)
        refine ⟨_, rfl, acc, hacc, Nat.lt_of_le_of_lt (Nat.le_trans hal (by omega : i ≤ 1000)) (by decide), hm.own nD, _, upd_same, ?_, by rw [List.length_append]; exact Nat.succ_le_succ hal⟩
        have kk : TK G (upd G D (.lst (acc ++ [.ref a]))) := TK.upd fun xs z => by rw [hacc] at z; cases z
        rw [show [d].filter (fun d => decide (d.hand = h)) = [d] from by rw [List.filter_cons, if_pos (decide_eq_true c')]; rfl]
        exact All2.snoc ⟨a, rfl, kk _ _ had⟩ (hda.imp fun _ _ z => z.mono kk)
      · have c' : ¬ d.hand = h := fun z => c (decide_eq_true (by rw [z]))
        rw [show [d].filter (fun d => decide (d.hand = h)) = [] from by rw [List.filter_cons, if_neg (by simpa using c')]; rfl, List.append_nil]
        exact ⟨hm, acc, hacc, hda, Nat.le_succ_of_le hal⟩
    · intro G ⟨hm, acc, hacc, hda, _⟩
      rw [← hds.len, List.take_length] at hda
      exact kq G D acc hm nD hacc hda
end
end Lor
end

section
set_option Elab.async false
set_option linter.all false
set_option maxRecDepth 100000
set_option maxHeartbeats 4000000
namespace Lor
open PySem PySem.Spec PyProof.Rows L2
section
variable {X : Cx} {K : PySem.W.Frag}
theorem op_catAK (hK : X.K = K := by rfl) : OpR X (binaryOp .Add) (rCatA K) := by subst hK; exact op_catA
theorem op_neDK (hu : X.A.units + 64 < cLine) (hK : X.K = K := by rfl) : OpR X (compareOp .NotEq) (rNeD K) := by subst hK; exact op_neD hu
end
structure LotsI (i : Nat) (l : List Nat) : Prop where
  up : l.Pairwise (· < ·)
  low : ∀ h ∈ l, h < i
  len : l.length ≤ i
theorem LotsI.next {i : Nat} {l : List Nat} (h : LotsI i l) : LotsI (i + 1) l := ⟨h.up, fun x hx => Nat.lt_succ_of_lt (h.low x hx), Nat.le_succ_of_le h.len⟩
theorem LotsI.add {i : Nat} {l : List Nat} (h : LotsI i l) : LotsI (i + 1) (l ++ [i]) := by
  refine ⟨List.pairwise_append.mpr ⟨h.up, by simp, fun a ha b hb => ?_⟩, fun x hx => ?_, by rw [List.length_append]; exact Nat.succ_le_succ h.len⟩
  · rw [List.mem_singleton] at hb
    rw [hb]; exact h.low a ha
  · rcases List.mem_append.mp hx with e | e
    · exact Nat.lt_succ_of_lt (h.low x e)
    · rw [List.mem_singleton] at e
      rw [e]; exact Nat.lt_succ_self _
section
variable {P : Program} {w : World} {K : PySem.W.Frag} {mg : Str → Option Value} {base : Heap} {tabs : Tabs}
def spLLots : Sp := fun vs H Q _ => ∃ (many : Nat), vs = [iN many] ∧ many ≤ 4 ∧
  ∀ (H' : Hp) (L : Addr) (vs : List V) (ls : List (List Nat)), Mv [] H H' → H L = none → H' L = some (.lst vs) → All2 (TgtAt H') ls vs → (∀ l ∈ ls, LotOk many l ∧ l.length ≤ 10) → Q (.ref L) H'
theorem sc56 : FnScope ["_law_many", "_law_found", "_law_who", "_law_lot"] ["_law_many"] (defScope (top 56)) := ⟨rfl, rfl, rfl, by decide +kernel, rfl, by decide +kernel, by decide +kernel⟩
theorem ok_llots (D : DefAt K mg "_law_lots" (top 56)) (B : Bl mg) : LCal P w K mg base 1 "_law_lots" spLLots := by
  refine cal_of D sc56 (fun _ _ _ _ _ _ us hl => match us, hl with | [_], _ => rfl) (fun vs H Q E h => ?_) (fun f cdv Ar outer s H vs Q E hr h => ?_)
  · obtain ⟨many, rfl, _⟩ := h
    rfl
  · obtain ⟨many, rfl, h4, kq⟩ := h
    have nd := sc56.nd
    refine ⟨_, (pss_cons (ps_set (i := 1) nd rfl (Or.inl rfl) (pe_lst (pa_cons (pe_tup pa_nil) pa_nil)))
 (pss_cons (ps_for PassesOwn.never rfl (pi_range1 (by rfl) B.range (pa_cons (pv 0) pa_nil)) (pg_name (i := 2) nd rfl (Or.inr rfl))
 (pss_one (ps_set (i := 1) nd rfl (Or.inl rfl) (pe_op op_cat (pv 1) (pe_lc (own := [("_law_lot", 3)]) (g := gName 3) (tt := tYes) rfl nd (pi_list (pv 1)) (blkOk_by (own := [("_law_lot", 3)]) (N := ["_law_many", "_law_found", "_law_who", "_law_lot"]) (sc := defScope (top 56)) (by decide +kernel)) (fun _ _ _ _ _ => (pg_name (i := 3) nd rfl (Or.inl rfl))) (fun _ _ _ _ _ => pts_nil) (fun _ _ _ _ _ => (pe_op (op_catAK (K := K)) (pv 3) (pe_tup (pa_cons (pv 2) pa_nil)))))))))
 (pss_one (ps_ret (pe_lc (own := [("_law_lot", 3)]) (g := gName 3) rfl nd (pi_list (pv 1)) (blkOk_by (own := [("_law_lot", 3)]) (N := ["_law_many", "_law_found", "_law_who", "_law_lot"]) (sc := defScope (top 56)) (by decide +kernel)) (fun _ _ _ _ _ => (pg_name (i := 3) nd rfl (Or.inl rfl))) (fun _ _ _ _ _ => pts_one (pt_cmpR (op_neDK (K := K) hr.units) (pv 3) (pe_tup pa_nil) (nomark _))) (fun _ _ _ _ _ => (pv 3))))))), ?_⟩
    refine ⟨by decide, fun e ne => ?_⟩
    have ee : upd H e (.tup []) e = some (.tup []) := upd_same
    have m1 : Mv [] H (upd H e (.tup [])) := Mv.new ne
    generalize upd H e (.tup []) = H1 at *
    refine ⟨(by show 1 ≤ sizeLine; decide), fun F nF => ?_⟩
    have eF : upd H1 F (.lst [.ref e]) F = some (.lst [.ref e]) := upd_same
    have m2 : Mv [] H1 (upd H1 F (.lst [.ref e])) := Mv.new nF
    have ee2 := m2.at ee (by simp)
    generalize upd H1 F (.lst [.ref e]) = H2 at *
    have m12 := m1.trans m2
    refine ⟨_, rfl, many, rfl, by omega, by omega, ?_⟩
    refine for_range (lo := 0) (n := ((many : Nat) : Int).toNat) (fun i σ G => ∃ F, (∃ x2 x3, σ = [some (iN many), some (.ref F), x2, x3]) ∧ Mv [] H G ∧ ∃ vs ls, G F = some (.lst vs) ∧ All2 (TgtAt G) ls vs ∧ (∀ l ∈ ls, LotsI i l) ∧ ls.length = 2 ^ i) ?_ ?_ ?_
    · exact ⟨F, ⟨_, _, rfl⟩, m12, [.ref e], [[]], eF, .cons ⟨e, rfl, ee2⟩ .nil, fun l hl => by rw [List.mem_singleton] at hl; rw [hl]; exact ⟨.nil, by simp, Nat.le_refl _⟩, rfl⟩
    · intro i σ G hi ⟨F, ⟨x2, x3, hσ⟩, hm, vs, ls, hF, hA, hls, hlen⟩
      subst hσ
      have hi4 : i < 4 := by omega
      have hvl : vs.length = 2 ^ i := by rw [← hA.len]; exact hlen
      have h16 : 2 ^ i ≤ 16 := Nat.le_trans (Nat.pow_le_pow_right (by decide) (by omega : i ≤ 4)) (by decide)
      rw [show ((0 : Int) + (i : Nat)) = (i : Nat) from Int.zero_add _]
      refine ⟨_, rfl, _, rfl, F, rfl, ⟨_, SqL.of hF⟩, fun D nD => ?_⟩
      refine lc_list (xs := vs) (fun j G' => Mv [] G G' ∧ ∃ acc, G' D = some (.lst acc) ∧ All2 (TgtAt G') ((ls.take j).map (· ++ [i])) acc) ⟨Mv.new nD, [], upd_same, .nil⟩ (fun j G' _ p => SqL.of (p.1.at hF (by simp))) ?_ ?_
      · intro j x G1 hx ⟨hm1, acc, hacc, hal⟩
        obtain ⟨l, hl, ha⟩ := hA.getR hx
        obtain ⟨a, rfl, hla⟩ := ha.mono hm1.tk0
        have hj := lt_of_get hl
        refine ⟨rfl, _, rfl, _, rfl, (by show 1 ≤ sizeLine; decide), fun t nt => ?_⟩
        have et : upd G1 t (.tup [iN i]) t = some (.tup [iN i]) := upd_same
        have mt : Mv [] G1 (upd G1 t (.tup [iN i])) := Mv.new nt
        have hla2 := mt.at hla (by simp)
        have hacc2 := mt.at hacc (by simp)
        have hlI := hls l (List.mem_of_getElem? hl)
        generalize upd G1 t (.tup [iN i]) = G2 at *
        have put : ∀ (G3 : Hp) (y : Addr), Mv [] G2 G3 → G3 y = some (.tup ((l ++ [i]).map iN)) → ∃ acc, G3 D = some (.lst acc) ∧ acc.length < sizeLine ∧ Mv [] G (upd G3 D (.lst (acc ++ [.ref y]))) ∧ ∃ acc_1, upd G3 D (.lst (acc ++ [.ref y])) D = some (.lst acc_1) ∧ All2 (TgtAt (upd G3 D (.lst (acc ++ [.ref y])))) ((ls.take (j + 1)).map (· ++ [i])) acc_1 := by
          intro G3 y m3 hy
          have hacc3 := m3.at hacc2 (by simp)
          have kk : TK G3 (upd G3 D (.lst (acc ++ [.ref y]))) := TK.upd fun xs z => by rw [hacc3] at z; cases z
          refine ⟨acc, hacc3, ?_, ((hm1.trans mt).trans m3).own nD, _, upd_same, ?_⟩
          · rw [← hal.len, List.length_map, List.length_take]
            exact Nat.lt_of_le_of_lt (by omega : _ ≤ 16) (by decide)
          · rw [take_snoc hl, List.map_append]
            exact All2.snoc ⟨y, rfl, kk _ _ hy⟩ (hal.imp fun _ _ z => ((z.mono mt.tk0).mono m3.tk0).mono kk)
        refine ⟨a, t, _, _, rfl, rfl, SqT.of hla2, SqT.of et, ?_, fun z => ?_, (fun _ z => by cases z), fun _ _ p np => ?_⟩
        · rw [List.length_map]
          have := hlI.len
          show l.length + 1 ≤ sizeLine
          exact Nat.le_trans (by omega : _ ≤ 10) (by decide)
        · have : l = [] := by simpa using z
          exact put G2 t (Mv.refl _ _) (by rw [this]; exact et)
        · exact put _ p (Mv.new np) (by rw [upd_same, List.map_append]; rfl)
      · intro G1 ⟨hm1, acc, hacc, hal⟩
        rw [← hA.len, List.take_length] at hal
        have hF1 := hm1.at hF (by simp)
        have hal2 : acc.length = 2 ^ i := by rw [← hal.len, List.length_map, hlen]
        refine ⟨F, D, _, _, rfl, rfl, hF1, hacc, by rw [hvl, hal2]; exact Nat.le_trans (by omega : _ ≤ 32) (by decide), fun p np => ?_⟩
        have mp : Mv [] G1 (upd G1 p (.lst (vs ++ acc))) := Mv.new np
        refine ⟨p, ⟨_, _, rfl⟩, (hm.trans hm1).trans mp, vs ++ acc, ls ++ ls.map (· ++ [i]), upd_same, All2.app (hA.imp fun _ _ z => (z.mono hm1.tk0).mono mp.tk0) (hal.imp fun _ _ z => z.mono mp.tk0), fun l hl => ?_, ?_⟩
        · rcases List.mem_append.mp hl with h | h
          · exact (hls l h).next
          · obtain ⟨l', h', e⟩ := List.mem_map.mp h
            rw [← e]; exact (hls l' h').add
        · rw [List.length_append, List.length_map, hlen, Nat.pow_succ]; omega
    · intro σ G ⟨F, ⟨x2, x3, hσ⟩, hm, vs, ls, hF, hA, hls, hlen⟩
      subst hσ
      rw [Int.toNat_natCast] at hls hlen
      have h16 : 2 ^ many ≤ 16 := Nat.le_trans (Nat.pow_le_pow_right (by decide) h4) (by decide)
      refine ⟨_, rfl, F, rfl, ⟨_, SqL.of hF⟩, fun D nD => ?_⟩
      refine lc_list (xs := vs) (fun j G' => Mv [] G G' ∧ ∃ acc ms, G' D = some (.lst acc) ∧ All2 (TgtAt G') ms acc ∧ (∀ l ∈ ms, LotOk many l ∧ l.length ≤ 10) ∧ acc.length ≤ j) ⟨Mv.new nD, [], [], upd_same, .nil, by simp, Nat.le_refl _⟩ (fun j G' _ p => SqL.of (p.1.at hF (by simp))) ?_ ?_
      · intro j x G1 hx ⟨hm1, acc, ms, hacc, hal, hms, hjl⟩
        obtain ⟨l, hl, ha⟩ := hA.getR hx
        obtain ⟨a, rfl, hla⟩ := ha.mono hm1.tk0
        have hj := lt_of_get hl
        have hlI := hls l (List.mem_of_getElem? hl)
        refine ⟨rfl, _, rfl, by decide, fun t nt => ?_⟩
        have et : upd G1 t (.tup []) t = some (.tup []) := upd_same
        have mt : Mv [] G1 (upd G1 t (.tup [])) := Mv.new nt
        have hla2 := mt.at hla (by simp)
        have hacc2 := mt.at hacc (by simp)
        have hal2 := hal.imp fun _ _ z => z.mono mt.tk0
        have hm2 := hm1.trans mt
        generalize upd G1 t (.tup []) = G2 at *
        refine ⟨.tuple (l.map fun x : Nat => PyData.int x), .tuple [], .tup (SqT.of hla2) (dp_nats l), .tup (SqT.of et) .nil, shaped_nats l, rfl, _, rfl, ?_⟩
        refine ite2 (fun c => ?_) (fun c => ⟨hm2, acc, ms, hacc2, hal2, hms, Nat.le_succ_of_le hjl⟩)
        have hne : l ≠ [] := fun z => by
          rw [z, List.map_nil] at c
          have : PyData.eqv (.tuple []) (.tuple []) = true := by rw [PyData.eqv]; rfl
          rw [this] at c; exact absurd c (by decide)
        have kk : TK G2 (upd G2 D (.lst (acc ++ [.ref a]))) := TK.upd fun xs z => by rw [hacc2] at z; cases z
        refine ⟨_, rfl, acc, hacc2, ?_, hm2.own nD, acc ++ [.ref a], ms ++ [l], upd_same, All2.snoc ⟨a, rfl, kk _ _ hla2⟩ (hal2.imp fun _ _ z => z.mono kk), fun l' hl' => ?_, by rw [List.length_append]; exact Nat.succ_le_succ hjl⟩
        · exact Nat.lt_of_le_of_lt (by omega : acc.length ≤ 16) (by decide)
        · rcases List.mem_append.mp hl' with h | h
          · exact hms l' h
          · rw [List.mem_singleton] at h
            rw [h]
            exact ⟨⟨hne, hlI.low, hlI.up⟩, by have := hlI.len; omega⟩
      · intro G1 ⟨hm1, acc, ms, hacc, hal, hms, _⟩
        exact kq G1 D acc ms (hm.trans hm1) (hm.none nD) hacc hal hms
end
end Lor
end

section
set_option Elab.async false
set_option linter.all false
set_option maxRecDepth 100000
set_option maxHeartbeats 4000000
namespace Lor
open PySem PySem.Spec PyProof.Rows L2
section
variable {X : Cx} {K : PySem.W.Frag}
theorem op_notIn_seqK (hK : X.K = K := by rfl) : OpR X (compareOp .NotIn) (rIn K true) := by subst hK; exact op_notIn_seq
/-- the promise is chosen in the reading -/
theorem pe_ex {ι : Type} {e : Expr} {t : ι → TE} (h : ∀ i, PE X e (t i)) : PE X e (fun σ H Q => ∃ i, t i σ H Q) := ⟨fun pins s σ H Q I ⟨i, hi⟩ => (h i).run pins s σ H Q I hi⟩
end
/-- the deeds of a hand -/
def ownD (rows : List Row) (h : Nat) : List Deed := (rows.map (·.1)).filter fun d => decide (d.hand = h)
/-- what is asked of one lot of hands -/
structure FallRight (many : Nat) (st : TS) (l c1 c2 : List Nat) : Prop where
  less : ∀ h, h < many → c1.getD h 0 ≤ c2.getD h 0
  safe : ∀ h, h < many → h ∉ l → c2.getD h 0 = count st.rows h
  all : l.length = many → ∀ h, h < many → c1.getD h 0 = c2.getD h 0
  pre : ∀ h, h < many → (ownD (tellS many (fallS many st c2)).rows h).take (ownD (tellS many (fallS many st c1)).rows h).length = ownD (tellS many (fallS many st c1)).rows h
section
variable {P : Program} {w : World} {K : PySem.W.Frag} {mg : Str → Option Value} {base : Heap} {tabs : Tabs} {C : Addr}
def encD : Deed → PyData
  | .own h x => .tuple [.str "own", .int h, .int x]
  | .send h to => .tuple [.str "send", .int h, .int to]
  | .take h f k => .tuple [.str "take", .int h, .int f, .int k]
  | .keep h => .tuple [.str "keep", .int h]
theorem dp_deeds {H : Hp} : ∀ {ds : List Deed} {vs : List V}, All2 (DeedAt H) ds vs → DpAll K H vs (ds.map encD)
  | _, _, .nil => .nil
  | _, _, .cons (a := d) h t => by
    obtain ⟨a, rfl, ha⟩ := h
    refine .cons ?_ (dp_deeds t)
    cases d with
    | own h x => exact .tup (SqT.of ha) (.cons (.str _) (.cons (.int _) (.cons (.int _) .nil)))
    | send h x => exact .tup (SqT.of ha) (.cons (.str _) (.cons (.int _) (.cons (.int _) .nil)))
    | take h f k => exact .tup (SqT.of ha) (.cons (.str _) (.cons (.int _) (.cons (.int _) (.cons (.int _) .nil))))
    | keep h => exact .tup (SqT.of ha) (.cons (.str _) (.cons (.int _) .nil))
theorem encD_can (d : Deed) : (encD d).canLay0 = true := by
  have h1 : PyData.strOk "own" = true := by decide +kernel
  have h2 : PyData.strOk "send" = true := by decide +kernel
  have h3 : PyData.strOk "take" = true := by decide +kernel
  have h4 : PyData.strOk "keep" = true := by decide +kernel
  cases d <;> simp [encD, PyData.canLay0, PyData.canLayAll0, h1, h2, h3, h4]
theorem can_deeds : ∀ l : List Deed, PyData.canLayAll0 (l.map encD) = true
  | [] => rfl
  | a :: r => by
    show PyData.canLayAll0 (encD a :: _) = true
    rw [PyData.canLayAll0, can_deeds r, encD_can]; rfl
theorem depth_deeds : ∀ l : List Deed, PyData.depthAll (l.map encD) ≤ 2
  | [] => by decide
  | a :: r => by
    show PyData.depthAll (encD a :: _) ≤ 2
    rw [PyData.depthAll]
    exact Nat.max_le.mpr ⟨by cases a <;> simp [encD, PyData.depth, PyData.depthAll], depth_deeds r⟩
theorem shaped_deeds (l : List Deed) : SeqAt.shaped (.list (l.map encD)) = true := by
  unfold SeqAt.shaped
  rw [Bool.and_eq_true]
  refine ⟨?_, decide_eq_true ?_⟩
  · rw [PyData.canLay0]; exact can_deeds l
  · rw [PyData.depth]; have := depth_deeds l; omega
theorem eqv_shaped {d : PyData} (h : SeqAt.shaped d = true) : PyData.eqv d d = true := SeqAt.eqv_refl d (SeqAt.canLay_of_shaped h)
theorem cut_take (xs : List V) (n : Nat) (h : n ≤ xs.length) : cutV xs none (some (n : Int)) = xs.take n := by
  unfold cutV
  have e1 : HT.sIx xs.length 0 none = 0 := rfl
  have e2 : HT.sIx xs.length xs.length (some (n : Int)) = n := by rw [HT.sIx_nat]; exact Nat.min_eq_left h
  rw [e1, e2]
  rfl
def spFR (C : Addr) (tabs : Tabs) : Sp := fun vs H Q _ => ∃ (A1 A2 : ToA) (st : TS) (n1 n2 : Nat) (fa : Addr) (l : List Nat), vs = [.ref A1.p, .ref A2.p, .ref fa, iN tabs.length] ∧ TownAt C tabs false H st A1 n1 ∧ TownAt C tabs true H st A2 n2 ∧ H fa = some (.tup (l.map iN)) ∧ TabsOk tabs ∧
  Leaves tabs false st (.fall l) ∧ Leaves tabs true st (.fall l) ∧ n1 ≤ 1000 ∧ n2 ≤ 1000 ∧ (∀ c1 c2, Kept tabs.length st l false c1 → Kept tabs.length st l true c2 → FallRight tabs.length st l c1 c2) ∧ ∀ H', Mv [] H H' → Q (.bl true) H'
theorem sc55 : FnScope ["_law_free", "_law_along", "_law_lot", "_law_many", "_law_more", "_law_less", "_law_one", "_law_far", "_law_who", "_law_row"] ["_law_free", "_law_along", "_law_lot", "_law_many"] (defScope (top 55)) := ⟨rfl, rfl, rfl, by decide +kernel, rfl, by decide +kernel, by decide +kernel⟩
theorem ok_fr (D : DefAt K mg "_law_fall_right" (top 55)) (B : Bl mg) (L0 : LCal P w K mg base 9 "lost_by" (spLost C tabs false)) (L1 : LCal P w K mg base 9 "lost_by" (spLost C tabs true)) (W0 : LMet P w K mg base 7 C "twin" (spTwin C tabs false)) (W1 : LMet P w K mg base 7 C "twin" (spTwin C tabs true))
    (D0 : LMet P w K mg base 8 C "do" (spDo C tabs false)) (D1 : LMet P w K mg base 8 C "do" (spDo C tabs true)) (H0 : LMet P w K mg base 1 C "history" (spHist C tabs false)) (H1 : LMet P w K mg base 1 C "history" (spHist C tabs true)) (OW : LCal P w K mg base 1 "_law_own" (spLOwn tabs)) :
    LCal P w K mg base 10 "_law_fall_right" (spFR C tabs) := by
  refine cal_of D sc55 (fun _ _ _ _ _ _ us hl => match us, hl with | [_, _, _, _], _ => rfl) (fun vs H Q E h => ?_) (fun f cdv Ar outer s H vs Q E hr h => ?_)
  · obtain ⟨A1, A2, st, n1, n2, fa, l, rfl, _⟩ := h
    rfl
  · obtain ⟨A1, A2, st, n1, n2, fa, l, rfl, hT1, hT2, hfa, ok, lv1, lv2, hn1, hn2, right, kq⟩ := h
    have nd := sc55.nd
    refine ⟨_, (pss_cons (ps_asg (pe_tup (pa_cons (pe_f L0 hr (by decide) (pa_cons (pv 0) (pa_cons (pv 2) pa_nil))) (pa_cons (pe_f L1 hr (by decide) (pa_cons (pv 1) (pa_cons (pv 2) pa_nil))) pa_nil))) (pg_tup (n := 2) rfl (pgs_cons (pg_name (i := 4) nd rfl (Or.inr rfl)) (pgs_cons (pg_name (i := 5) nd rfl (Or.inr rfl)) pgs_nil))))
 (pss_cons (ps_if (pt_cmpR (op_neD hr.units) (pe_lc (own := [("_law_who", 8)]) (g := gName 8) rfl nd (pi_range1 (by rfl) B.range (pa_cons (pv 3) pa_nil)) (blkOk_by (own := [("_law_who", 8)]) (N := ["_law_free", "_law_along", "_law_lot", "_law_many", "_law_more", "_law_less", "_law_one", "_law_far", "_law_who", "_law_row"]) (sc := defScope (top 55)) (by decide +kernel)) (fun _ _ _ _ _ => (pg_name (i := 8) nd rfl (Or.inl rfl))) (fun _ _ _ _ _ => pts_one (pt_cmpR op_gt (pe_ix (ix_tupK (K := K)) (pv 5) (pv 8) (fun _ _ => rfl)) (pe_ix (ix_tupK (K := K)) (pv 4) (pv 8) (fun _ _ => rfl)) (nomark _))) (fun _ _ _ _ _ => (pv 8))) (pe_lst pa_nil) (nomark _))
 pss_never
 pss_nil)
 (pss_cons (ps_if (pt_cmpR (op_neD hr.units) (pe_lc (own := [("_law_who", 8)]) (g := gName 8) rfl nd (pi_range1 (by rfl) B.range (pa_cons (pv 3) pa_nil)) (blkOk_by (own := [("_law_who", 8)]) (N := ["_law_free", "_law_along", "_law_lot", "_law_many", "_law_more", "_law_less", "_law_one", "_law_far", "_law_who", "_law_row"]) (sc := defScope (top 55)) (by decide +kernel)) (fun _ _ _ _ _ => (pg_name (i := 8) nd rfl (Or.inl rfl))) (fun _ _ _ _ _ => pts_one (PW.pt (pw_and (pt_cmpR (op_notIn_seqK (K := K)) (pv 8) (pv 2) rfl) (pw_and1 (pt_cmpR op_gt (pe_ix (ix_tupK (K := K)) (pv 5) (pv 8) (fun _ _ => rfl)) pe_int (nomark _)))))) (fun _ _ _ _ _ => (pv 8))) (pe_lst pa_nil) (nomark _))
 pss_never
 pss_nil)
 (pss_cons (ps_if (PW.pt (pw_and (pt_cmpR op_eq (pe_callB call_len_seq (by rfl) B.len PySem.boot_len (pa_cons (pv 2) pa_nil)) (pv 3) (nomark _)) (pw_and1 (pt_cmpR (op_neD hr.units) (pv 4) (pv 5) (nomark _)))))
 pss_never
 pss_nil)
 (pss_cons (ps_par (i := 6) (j := 7) (by rfl) nd rfl rfl (by decide) rfl rfl (pa_cons (pe_m0' W0 hr (by decide) (pv 0)) (pa_cons (pe_m0' W1 hr (by decide) (pv 1)) pa_nil)) (by rfl))
 (pss_cons (ps_expr (pe_m D0 hr (by decide) (pv 6) (pa_cons (pe_tup (pa_cons pe_str (pa_cons (pv 2) pa_nil))) pa_nil)))
 (pss_cons (ps_expr (pe_m D1 hr (by decide) (pv 7) (pa_cons (pe_tup (pa_cons pe_str (pa_cons (pv 2) pa_nil))) pa_nil)))
 (pss_cons (ps_for PassesOwn.never rfl (pi_range1 (by rfl) B.range (pa_cons (pv 3) pa_nil)) (pg_name (i := 8) nd rfl (Or.inl rfl))
 (pss_cons (ps_set (i := 9) nd rfl (Or.inl rfl) (pe_f OW hr (by decide) (pa_cons (pe_m0' H0 hr (by decide) (pv 6)) (pa_cons (pv 8) pa_nil))))
 (pss_one (ps_if (pt_cmpR (op_neD hr.units) (pe_slice sl_list (pe_f OW hr (by decide) (pa_cons (pe_m0' H1 hr (by decide) (pv 7)) (pa_cons (pv 8) pa_nil))) po_none (po_some (pe_callB call_len_seq (by rfl) B.len PySem.boot_len (pa_cons (pv 9) pa_nil)))) (pv 9) (nomark _))
 pss_never
 pss_nil))))
 (pss_one (ps_ret pe_bl)))))))))), ?_⟩
    have h4 := ok.four
    refine ⟨_, rfl, _, rfl, A1, st, n1, fa, l, rfl, hT1, hfa, ok, lv1, hn1, fun G1 b1 c1 m1 hk1 hb1 => ?_⟩
    refine ⟨_, rfl, _, rfl, A2, st, n2, fa, l, rfl, hT2.mv m1, m1.at hfa (by simp), ok, lv2, hn2, fun G2 b2 c2 m2 hk2 hb2 => ?_⟩
    have fr := right c1 c2 hk1 hk2
    refine ⟨(by show 2 ≤ sizeLine; decide), fun t nt => ?_⟩
    have et : upd G2 t (.tup [.ref b1, .ref b2]) t = some (.tup [.ref b1, .ref b2]) := upd_same
    have mt : Mv [] G2 (upd G2 t (.tup [.ref b1, .ref b2])) := Mv.new nt
    have hb1' := (m2.trans mt).at hb1 (by simp)
    have hb2' := mt.at hb2 (by simp)
    have M1 := (m1.trans m2).trans mt
    generalize upd G2 t (.tup [.ref b1, .ref b2]) = G3 at *
    refine ⟨t, _, rfl, SqT.of et, rfl, _, _, rfl, _, _, rfl, rfl, ?_⟩
    have g1 : ∀ {i : Nat} {c : List Nat}, i < tabs.length → (((List.range tabs.length).map fun h => count st.rows h - c.getD h 0).map iN)[i]? = some (iN (count st.rows i - c.getD i 0)) := fun {i c} hi => by
      rw [List.getElem?_map, List.getElem?_map, List.getElem?_range hi]; rfl
    refine ⟨_, rfl, tabs.length, rfl, by omega, by omega, fun D1' nD1 => ?_⟩
    refine lc_range (lo := 0) (n := ((tabs.length : Nat) : Int).toNat) (fun i G => Mv [] G3 G ∧ G D1' = some (.lst [])) ⟨Mv.new nD1, upd_same⟩ ?_ ?_
    · intro i G hi ⟨hm, hD⟩
      have hi' : i < tabs.length := by omega
      rw [show ((0 : Int) + (i : Nat)) = (i : Nat) from Int.zero_add _]
      refine ⟨rfl, _, rfl, _, rfl, _, _, _, _, rfl, rfl, SqT.of (hm.at hb2' (by simp)), atI_nat (g1 hi'), _, rfl, _, rfl, _, _, _, _, rfl, rfl, SqT.of (hm.at hb1' (by simp)), atI_nat (g1 hi'), _, _, rfl, rfl, _, rfl, ?_⟩
      have := fr.less i hi'
      refine ifF (decide_eq_false (by omega)) ⟨hm, hD⟩
    · intro G ⟨hm, hD⟩
      refine ⟨by decide, fun e ne => ?_⟩
      have me : Mv [] G (upd G e (.lst [])) := Mv.new ne
      refine ⟨.list [], .list [], .lst (SqL.of (me.at hD (by simp))) .nil, .lst (SqL.of upd_same) .nil, rfl, rfl, _, rfl, ?_⟩
      refine ifF (by rw [PyData.eqv]; rfl) ?_
      have M2 := M1.trans (hm.trans me)
      have hb1'' := (hm.trans me).at hb1' (by simp)
      have hb2'' := (hm.trans me).at hb2' (by simp)
      have hfa2 := M2.at hfa (by simp)
      clear hm hD me ne nD1 hb1' hb2' M1 et
      generalize upd G e (.lst []) = G4 at *
      refine ⟨_, rfl, tabs.length, rfl, by omega, by omega, fun D2' nD2 => ?_⟩
      refine lc_range (lo := 0) (n := ((tabs.length : Nat) : Int).toNat) (fun i G => Mv [] G4 G ∧ G D2' = some (.lst [])) ⟨Mv.new nD2, upd_same⟩ ?_ ?_
      · intro i G hi ⟨hm, hD⟩
        have hi' : i < tabs.length := by omega
        rw [show ((0 : Int) + (i : Nat)) = (i : Nat) from Int.zero_add _]
        refine ⟨rfl, _, rfl, _, rfl, fa, _, rfl, .inr (SqT.of (hm.at hfa2 (by simp))), rfl, flat_nat _, _, rfl, ?_⟩
        rw [if_pos rfl, inV_nat]
        refine ite2 (fun c => ?_) (fun c => ⟨hm, hD⟩)
        have c' : i ∉ l := by simpa using c
        refine ⟨_, rfl, _, rfl, _, _, _, _, rfl, rfl, SqT.of (hm.at hb2'' (by simp)), atI_nat (g1 hi'), _, _, rfl, rfl, _, rfl, ?_⟩
        have := fr.safe i hi' c'
        refine ifF (decide_eq_false (by omega)) ⟨hm, hD⟩
      · intro G ⟨hm, hD⟩
        refine ⟨by decide, fun e ne => ?_⟩
        have me : Mv [] G (upd G e (.lst [])) := Mv.new ne
        refine ⟨.list [], .list [], .lst (SqL.of (me.at hD (by simp))) .nil, .lst (SqL.of upd_same) .nil, rfl, rfl, _, rfl, ?_⟩
        refine ifF (by rw [PyData.eqv]; rfl) ?_
        have M3 := M2.trans (hm.trans me)
        have hb1x := (hm.trans me).at hb1'' (by simp)
        have hb2x := (hm.trans me).at hb2'' (by simp)
        have hfa3 := M3.at hfa (by simp)
        clear hm hD me ne nD2 hb1'' hb2'' M2 hfa2
        generalize upd G e (.lst []) = G5 at *
        refine ⟨_, rfl, fa, _, rfl, .inr (SqT.of hfa3), _, rfl, rfl, _, rfl, ?_⟩
        rw [List.length_map]
        have step3 : (decide (V.int (l.length : Nat) = iN tabs.length) = true → PyData.eqv (.tuple (((List.range tabs.length).map fun h => count st.rows h - c1.getD h 0).map fun x : Nat => PyData.int x)) (.tuple (((List.range tabs.length).map fun h => count st.rows h - c2.getD h 0).map fun x : Nat => PyData.int x)) = true) := fun c => by
          have c' : l.length = tabs.length := iN_inj (of_decide_eq_true c)
          have e : ((List.range tabs.length).map fun h => count st.rows h - c1.getD h 0) = (List.range tabs.length).map fun h => count st.rows h - c2.getD h 0 := by
            refine List.map_congr_left fun h hh => ?_
            rw [fr.all c' h (List.mem_range.mp hh)]
          rw [e]
          exact eqv_shaped (shaped_nats _)
        refine (fun k => ite2 (fun c => ?a) (fun _ => k)) ?b
        case a =>
          refine ⟨_, rfl, _, rfl, _, _, .tup (SqT.of hb1x) (dp_nats _), .tup (SqT.of hb2x) (dp_nats _), shaped_nats _, shaped_nats _, _, rfl, ?_⟩
          rw [step3 c]
          exact k
        have hT15 := hT1.mv M3
        have hT25 := hT2.mv M3
        obtain ⟨tv1, _, ob1⟩ := hT15.tab
        obtain ⟨tv2, _, ob2⟩ := hT25.tab
        refine ⟨_, rfl, _, _, _, rfl, ob1, rfl, A1, st, n1, rfl, hT15, ok, fun B1 G6 hB1 m6 hU1 => ?_⟩
        have ob2' := m6.at ob2 (by simp)
        refine ⟨_, rfl, _, _, _, rfl, ob2', rfl, A2, st, n2, rfl, hT25.mv m6, ok, fun B2 G7 hB2 m7 hU2 => ?_⟩
        refine ⟨_, _, rfl, ?_⟩
        have M7 := (M3.trans m6).trans m7
        have hU1' := hU1.mv m7
        obtain ⟨tw1, _, obw1⟩ := hU1'.tab
        refine ⟨_, rfl, _, _, _, rfl, obw1, rfl, _, rfl, (by show 2 ≤ sizeLine; decide), fun t1 nt1 => ?_⟩
        have et1 : upd G7 t1 (.tup [.str "fall", .ref fa]) t1 = some (.tup [.str "fall", .ref fa]) := upd_same
        have mt1 : Mv [] G7 (upd G7 t1 (.tup [.str "fall", .ref fa])) := Mv.new nt1
        have hfa8 := (M7.trans mt1).at hfa (by simp)
        have hU1'' := hU1'.mv mt1
        have hU2' := hU2.mv mt1
        have M8 := M7.trans mt1
        have mB1 : ∀ a ∈ B1.all, H a = none := fun a ha => M3.none (hB1 a ha)
        have mB2 : ∀ a ∈ B2.all, H a = none := fun a ha => (M3.trans m6).none (hB2 a ha)
        have dj : ∀ a ∈ B2.all, a ∉ B1.all := fun a ha z => by
          obtain ⟨o, e, _⟩ := hU1.live a z
          rw [hB2 a ha] at e; cases e
        clear hT15 hT25 ob1 ob2 ob2' hU1 hU1' hU2 m6 m7 mt1 hb1x hb2x
        generalize upd G7 t1 (.tup [.str "fall", .ref fa]) = G8 at *
        refine ⟨B1, st, n1, .fall l, .ref t1, rfl, hU1'', ⟨t1, _, rfl, et1, fa, rfl, hfa8⟩, ok, lv1, hn1, fun B1' G9 st1 e1 hn9 m9 hd1 hV1 => ?_⟩
        have hU2'' := hU2'.move m9 (m9.tk fun a ha xs z => by
          obtain ⟨o, e, ne⟩ := hU1''.live a (by rw [List.mem_singleton.mp ha]; simp [ToA.all])
          rw [e] at z
          exact ne xs (Option.some.inj z)) fun a ha z => dj a ha (by rw [List.mem_singleton.mp z]; simp [ToA.all])
        obtain ⟨tw2, _, obw2⟩ := hU2''.tab
        have mB1' : ∀ a ∈ B1'.all, H a = none := fun a ha => (hn9 a ha).elim (fun e => mB1 a (by rw [e]; simp [ToA.all])) fun z => M8.none z
        have p1n : H B1.p = none := mB1 _ (by simp [ToA.all])
        have M9 : Mv [] H G9 := ((M8.mono (by simp)).trans m9).weak (by simp [p1n])
        refine ⟨_, rfl, _, _, _, rfl, obw2, rfl, _, rfl, (by show 2 ≤ sizeLine; decide), fun t2 nt2 => ?_⟩
        have et2 : upd G9 t2 (.tup [.str "fall", .ref fa]) t2 = some (.tup [.str "fall", .ref fa]) := upd_same
        have mt2 : Mv [] G9 (upd G9 t2 (.tup [.str "fall", .ref fa])) := Mv.new nt2
        have hfa10 := (M9.trans mt2).at hfa (by simp)
        have hU3 := hU2''.mv mt2
        have hV1' := hV1.mv mt2
        have M10 := M9.trans mt2
        have dj2 : ∀ a ∈ B1'.all, a ≠ B2.p := fun a ha z => by
          rcases hn9 a ha with e | e
          · exact dj B2.p (by simp [ToA.all]) (by rw [← z, e]; simp [ToA.all])
          · obtain ⟨o, e2, _⟩ := hU2'.live B2.p (by simp [ToA.all])
            rw [z, e2] at e; cases e
        clear hU1'' hU2' hU2'' hV1 m9 mt2 obw1 et1
        generalize upd G9 t2 (.tup [.str "fall", .ref fa]) = G10 at *
        refine ⟨B2, st, n2, .fall l, .ref t2, rfl, hU3, ⟨t2, _, rfl, et2, fa, rfl, hfa10⟩, ok, lv2, hn2, fun B2' G11 st2 e2 hn11 m11 hd2 hV2 => ?_⟩
        have p2n : H B2.p = none := mB2 _ (by simp [ToA.all])
        have M11 : Mv [] H G11 := ((M10.mono (by simp)).trans m11).weak (by simp [p2n])
        have hV1'' := hV1'.move m11 (m11.tk fun a ha xs z => by
          obtain ⟨o, e, ne⟩ := hU3.live a (by rw [List.mem_singleton.mp ha]; simp [ToA.all])
          rw [e] at z
          exact ne xs (Option.some.inj z)) fun a ha z => dj2 a ha (List.mem_singleton.mp z)
        rw [← e1, ← e2]
        have few1 := (lv1.left st1 hd1).2.2.2
        have few2 := (lv2.left st2 hd2).2.2.2
        obtain ⟨cc1, hkc1, es1⟩ : ∃ c, Kept tabs.length st l false c ∧ st1 = fallS tabs.length st c := by
          cases hd1 with
          | fall l c hk => exact ⟨c, hk, rfl⟩
        obtain ⟨cc2, hkc2, es2⟩ : ∃ c, Kept tabs.length st l true c ∧ st2 = fallS tabs.length st c := by
          cases hd2 with
          | fall l c hk => exact ⟨c, hk, rfl⟩
        have fr2 := right cc1 cc2 hkc1 hkc2
        rw [es1] at hV1'' few1
        rw [es2] at hV2 few2
        refine ⟨_, rfl, tabs.length, rfl, by omega, by omega, ?_⟩
        refine for_range (lo := 0) (n := ((tabs.length : Nat) : Int).toNat) (fun i σ G => (∃ x8 x9, σ = [some (.ref A1.p), some (.ref A2.p), some (.ref fa), some (iN tabs.length), some (.ref b1), some (.ref b2), some (.ref B1'.p), some (.ref B2'.p), x8, x9]) ∧ Mv [] G11 G) ?_ ?_ ?_
        · exact ⟨⟨_, _, rfl⟩, Mv.refl _ _⟩
        · intro i σ G hi ⟨⟨x8, x9, hσ⟩, hm⟩
          subst hσ
          have hi' : i < tabs.length := by omega
          rw [show ((0 : Int) + (i : Nat)) = (i : Nat) from Int.zero_add _]
          have hX1 := hV1''.mv hm
          have hX2 := hV2.mv hm
          obtain ⟨ty1, _, oy1⟩ := hX1.tab
          refine ⟨_, rfl, _, _, _, rfl, oy1, rfl, B1', _, _, rfl, hX1, Nat.le_trans few1 (by decide), fun K1 q1 u1 d1 k1 hq1 hu1 hd1' => ?_⟩
          refine ⟨_, rfl, q1, u1, _, _, d1, i, rfl, hq1, hu1, hd1', by rw [List.length_map]; exact Nat.le_trans few1 (by decide), fun K2 R1 v1 k2 nR1 hR1 hv1 => ?_⟩
          have hX2' := hX2.mv (k1.trans k2)
          obtain ⟨ty2, _, oy2⟩ := hX2'.tab
          refine ⟨_, rfl, _, _, _, rfl, oy2, rfl, B2', _, _, rfl, hX2', Nat.le_trans few2 (by decide), fun K3 q2 u2 d2 k3 hq2 hu2 hd2' => ?_⟩
          refine ⟨_, rfl, q2, u2, _, _, d2, i, rfl, hq2, hu2, hd2', by rw [List.length_map]; exact Nat.le_trans few2 (by decide), fun K4 R2 v2 k4 nR2 hR2 hv2 => ?_⟩
          have hR1' := (k3.trans k4).at hR1 (by simp)
          have hpre := fr2.pre i hi'
          have e1' : (List.map (·.1) (tellS tabs.length (fallS tabs.length st cc1)).rows).filter (fun d => decide (d.hand = i)) = ownD (tellS tabs.length (fallS tabs.length st cc1)).rows i := rfl
          have e2' : (List.map (·.1) (tellS tabs.length (fallS tabs.length st cc2)).rows).filter (fun d => decide (d.hand = i)) = ownD (tellS tabs.length (fallS tabs.length st cc2)).rows i := rfl
          rw [e1'] at hv1
          rw [e2'] at hv2
          generalize ownD (tellS tabs.length (fallS tabs.length st cc1)).rows i = o1 at *
          generalize ownD (tellS tabs.length (fallS tabs.length st cc2)).rows i = o2 at *
          have l1 : v1.length = o1.length := hv1.len.symm
          have l12 : o1.length ≤ o2.length := by
            have := congrArg List.length hpre
            rw [List.length_take] at this
            omega
          refine ⟨_, rfl, R1, _, rfl, .inl (SqL.of hR1'), _, rfl, R2, _, rfl, SqL.of hR2, fun p np => ?_⟩
          rw [l1, cut_take v2 o1.length (by rw [← hv2.len]; exact l12)]
          have mp : Mv [] K4 (upd K4 p (.lst (v2.take o1.length))) := Mv.new np
          refine ⟨_, rfl, .list (o1.map encD), .list (o1.map encD), .lst (SqL.of upd_same) (dp_deeds ?_), .lst (SqL.of (mp.at hR1' (by simp))) (dp_deeds (hv1.imp fun _ _ z => z.mono ((k3.trans k4).trans mp).tk0)), shaped_deeds _, shaped_deeds _, _, rfl, ?_⟩
          · have := (hv2.imp fun _ _ z => z.mono mp.tk0).take o1.length
            rw [hpre] at this
            exact this
          · refine ifF (by rw [eqv_shaped (shaped_deeds _)]; rfl) ?_
            exact ⟨⟨_, _, rfl⟩, (((hm.trans k1).trans k2).trans (k3.trans k4)).trans mp⟩
        · intro σ G ⟨_, hm⟩
          exact kq G (M11.trans hm)
end
end Lor
end

section
set_option Elab.async false
set_option linter.all false
set_option maxRecDepth 100000
set_option maxHeartbeats 4000000
namespace Lor
open PySem PySem.Spec PyProof.Rows L2
/-- what the town has come to -/
inductive TRun (tabs : Tabs) : List TD → TS → Prop where
  | nil : TRun tabs [] (tstart tabs.length)
  | snoc {ds : List TD} {td : TD} {st st' : TS} : TRun tabs ds st → Does tabs false st td st' → TRun tabs (ds ++ [td]) (tellS tabs.length st')
structure RunOk (tabs : Tabs) (st : TS) : Prop where
  fit : Fit tabs.length st.rows
  few : st.rows.length ≤ 400
  wlen : st.wr.length = tabs.length
  wr : ∀ h, h < tabs.length → st.wr.getD h 0 ≤ 1000
  told : st.told.length ≤ 1000
  lots : ∀ l, LotOk tabs.length l → l.length ≤ 10 → Leaves tabs false st (.fall l) ∧ Leaves tabs true st (.fall l) ∧ ∀ c1 c2, Kept tabs.length st l false c1 → Kept tabs.length st l true c2 → FallRight tabs.length st l c1 c2
  uniq : ∀ c c', Kept tabs.length st (List.range tabs.length) false c → Kept tabs.length st (List.range tabs.length) false c' → c = c'
/-- the plain law -/
structure Math (tabs : Tabs) : Prop where
  good : ∀ ds rows wr, LRun tabs ds rows wr → ds.length ≤ 30 → LGood tabs rows wr
  leaves : ∀ ds rows wr, LRun tabs ds rows wr → ds.length ≤ 30 → ∀ ds1 td ds2 st al, ds = ds1 ++ td :: ds2 → TRun tabs ds1 st → Leaves tabs al st td
  ends : ∀ ds rows wr, LRun tabs ds rows wr → ds.length ≤ 30 → ∀ st, TRun tabs ds st → RunOk tabs st
def NoFall (td : TD) : Prop := ∀ l, td ≠ .fall l
theorem does_al {tabs : Tabs} {al al' : Bool} {st st' : TS} {td : TD} (n : NoFall td) (h : Does tabs al st td st') : Does tabs al' st td st' := by
  cases h with
  | put h x => exact .put h x
  | step h f k => exact .step h f k
  | write h => exact .write h
  | keep h => exact .keep h
  | fall l c hk => exact absurd rfl (n l)
theorem does_det {tabs : Tabs} {al al' : Bool} {st st1 st2 : TS} {td : TD} (n : NoFall td) (h : Does tabs al st td st1) (g : Does tabs al' st td st2) : st1 = st2 := by
  cases h with
  | put h x => cases g; rfl
  | step h f k => cases g; rfl
  | write h => cases g; rfl
  | keep h => cases g; rfl
  | fall l c hk => exact absurd rfl (n l)
theorem lrun_nofall {tabs : Tabs} {ds : List TD} {rows : List Row} {wr : List Nat} (h : LRun tabs ds rows wr) : ∀ td ∈ ds, NoFall td := by
  induction h with
  | nil => simp
  | snoc h hd _ _ ih =>
    intro td ht
    rcases List.mem_append.mp ht with e | e
    · exact ih td e
    · rw [List.mem_singleton] at e
      subst e
      intro l z
      rw [z] at hd
      exact hd
section
variable {P : Program} {w : World} {K : PySem.W.Frag} {mg : Str → Option Value} {base : Heap} {C : Addr}
theorem sql_mv {H H' : Hp} {a : Addr} {xs : List V} (h : SqL K H a xs) (m : Mv [] H H') : SqL K H' a xs := by
  rcases h with (e | ⟨o, e⟩) | e
  · exact .inl (.inl (m.at e (by simp)))
  · exact .inl (.inr ⟨o, m.at e (by simp)⟩)
  · exact .inr e
def encT (t : Nat × Nat × Nat) : PyData := .tuple [.int t.1, .int t.2.1, .int t.2.2]
theorem dp_told {H : Hp} : ∀ {ts : List (Nat × Nat × Nat)} {vs : List V}, All2 (ToldAt H) ts vs → DpAll K H vs (ts.map encT)
  | _, _, .nil => .nil
  | _, _, .cons (a := d) h t => by
    obtain ⟨a, rfl, ha⟩ := h
    exact .cons (.tup (SqT.of ha) (.cons (.int _) (.cons (.int _) (.cons (.int _) .nil)))) (dp_told t)
theorem can_told : ∀ l : List (Nat × Nat × Nat), PyData.canLayAll0 (l.map encT) = true
  | [] => rfl
  | a :: r => by
    show PyData.canLayAll0 (encT a :: _) = true
    rw [PyData.canLayAll0, can_told r]; rfl
theorem depth_told : ∀ l : List (Nat × Nat × Nat), PyData.depthAll (l.map encT) ≤ 2
  | [] => by decide
  | a :: r => by
    show PyData.depthAll (encT a :: _) ≤ 2
    rw [PyData.depthAll]
    exact Nat.max_le.mpr ⟨by simp [encT, PyData.depth, PyData.depthAll], depth_told r⟩
theorem shaped_told (l : List (Nat × Nat × Nat)) : SeqAt.shaped (.list (l.map encT)) = true := by
  unfold SeqAt.shaped
  rw [Bool.and_eq_true]
  refine ⟨?_, decide_eq_true ?_⟩
  · rw [PyData.canLay0]; exact can_told l
  · rw [PyData.depth]; have := depth_told l; omega
theorem shaped_hist (m : Nat) (l : List Deed) : SeqAt.shaped (.tuple [.int m, .tuple (l.map encD)]) = true := by
  unfold SeqAt.shaped
  rw [Bool.and_eq_true]
  refine ⟨?_, decide_eq_true ?_⟩
  · simp only [PyData.canLay0, PyData.canLayAll0, can_deeds]; rfl
  · simp only [PyData.depth, PyData.depthAll]; have := depth_deeds l; omega
def spLaw (K : PySem.W.Frag) : Sp := fun vs H Q _ => ∃ (a : Addr) (ns : List Int), vs = [.ref a] ∧ SqL K H a (ns.map V.int) ∧ ns.length ≤ 63 ∧ ∀ H', Q (.bl true) H'
theorem sc57 : FnScope ["_law_script", "_law_k", "_law_pool_here", "_law_tables_here", "_law_own_here", "_law_deeds", "_law_free", "_law_along", "_law_deed", "_law_lot"] ["_law_script"] (defScope (top 57)) := ⟨rfl, rfl, rfl, by decide +kernel, rfl, by decide +kernel, by decide +kernel⟩
structure LawG (P : Program) (w : World) (K : PySem.W.Frag) (mg : Str → Option Value) (base : Heap) (C : Addr) : Prop where
  GP : LCal P w K mg base 1 "_law_pool" (spPool K)
  GT : LCal P w K mg base 2 "_law_tables" spLTabs
  GD : ∀ tabs, LCal P w K mg base 5 "_law_town_drawn" (spLDrawn tabs)
  I0 : ∀ tabs, LMakK P w K mg base 5 "Town" "way" 1 C (spTInit C tabs false)
  I1 : ∀ tabs, LMakK P w K mg base 5 "Town" "way" 1 C (spTInit C tabs true)
  D0 : ∀ tabs, LMet P w K mg base 8 C "do" (spDo C tabs false)
  D1 : ∀ tabs, LMet P w K mg base 8 C "do" (spDo C tabs true)
  H0 : ∀ tabs, LMet P w K mg base 1 C "history" (spHist C tabs false)
  H1 : ∀ tabs, LMet P w K mg base 1 C "history" (spHist C tabs true)
  T0 : ∀ tabs, LMet P w K mg base 1 C "told" (spTold C tabs false)
  T1 : ∀ tabs, LMet P w K mg base 1 C "told" (spTold C tabs true)
  S0 : ∀ tabs, LCal P w K mg base 6 "settled" (spSettled C tabs false)
  S1 : ∀ tabs, LCal P w K mg base 6 "settled" (spSettled C tabs true)
  GL : LCal P w K mg base 1 "_law_lots" spLLots
  GF : ∀ tabs, LCal P w K mg base 10 "_law_fall_right" (spFR C tabs)
theorem ok_law {f : Addr} {fd : FuncData} (F : Fun K "law" "law" (top 57) f fd) (B : Bl mg) (G : LawG P w K mg base C) (M : ∀ tabs, TabsOk tabs → Math tabs) : FnOk P w K mg base CX0 11 f fd ["_law_script"] (spLaw K) := by
  obtain ⟨GP, GT, GD, I0, I1, D0, D1, H0, H1, T0, T1, S0, S1, GL, GF⟩ := G
  refine F.ok sc57 (fun vs H Q E h => ?_) (fun cdv Ar outer s H vs Q E hr h => ?_)
  · obtain ⟨a, ns, rfl, _⟩ := h
    rfl
  · obtain ⟨a, ns, rfl, hS, hl, kq⟩ := h
    have nd := sc57.nd
    refine ⟨_, (pss_cons (ps_for PassesOwn.never rfl (pi_range1 (by rfl) B.range (pa_cons (pe_callB (call_max2 rfl) (by rfl) B.max (by decide +kernel) (pa_cons pe_int (pa_cons (pe_callB (call_min2 rfl) (by rfl) B.min (by decide +kernel) (pa_cons pe_int (pa_cons (pe_callB call_len_seq (by rfl) B.len PySem.boot_len (pa_cons (pv 0) pa_nil)) pa_nil))) pa_nil))) pa_nil)) (pg_name (i := 1) nd rfl (Or.inl rfl))
 (pss_cons (ps_set (i := 2) nd rfl (Or.inl rfl) (pe_f GP hr (by decide) (pa_cons (pv 0) (pa_cons (pv 1) pa_nil))))
 (pss_cons (ps_set (i := 3) nd rfl (Or.inl rfl) (pe_f GT hr (by decide) (pa_cons (pv 2) (pa_cons pe_int (pa_cons pe_int pa_nil)))))
 (pss_cons (ps_asg (pe_ex fun tabs => pe_f (GD tabs) hr (by decide) (pa_cons (pv 2) (pa_cons (pv 3) (pa_cons pe_str (pa_cons pe_int (pa_cons pe_int pa_nil)))))) (pg_tup (n := 2) rfl (pgs_cons (pg_name (i := 4) nd rfl (Or.inl rfl)) (pgs_cons (pg_name (i := 5) nd rfl (Or.inl rfl)) pgs_nil))))
 (pss_cons (ps_par (i := 6) (j := 7) (by rfl) nd rfl rfl (by decide) rfl rfl (pa_cons (pe_ex fun tabs => pe_nk (I0 tabs) hr (by decide) (pa_cons (pv 3) pa_nil) (pk_cons pe_str pk_nil)) (pa_cons (pe_ex fun tabs => pe_nk (I1 tabs) hr (by decide) (pa_cons (pv 3) pa_nil) (pk_cons pe_str pk_nil)) pa_nil)) (by rfl))
 (pss_cons (ps_for PassesOwn.never rfl (pi_list (pv 5)) (pg_name (i := 8) nd rfl (Or.inl rfl))
 (pss_cons (ps_expr (pe_ex fun tabs => pe_m (D0 tabs) hr (by decide) (pv 6) (pa_cons (pv 8) pa_nil)))
 (pss_one (ps_expr (pe_ex fun tabs => pe_m (D1 tabs) hr (by decide) (pv 7) (pa_cons (pv 8) pa_nil))))))
 (pss_cons (ps_if (PW.pt (pw_or (pt_cmpR (op_neD hr.units) (pe_ex fun tabs => pe_m0' (H0 tabs) hr (by decide) (pv 6)) (pe_ex fun tabs => pe_m0' (H1 tabs) hr (by decide) (pv 7)) (nomark _)) (pw_or (pt_cmpR (op_neD hr.units) (pe_ex fun tabs => pe_m0' (T0 tabs) hr (by decide) (pv 6)) (pe_ex fun tabs => pe_m0' (T1 tabs) hr (by decide) (pv 7)) (nomark _)) (pw_or1 (pt_cmpR (op_neD hr.units) (pe_ex fun tabs => pe_f (S0 tabs) hr (by decide) (pa_cons (pv 6) pa_nil)) (pe_ex fun tabs => pe_f (S1 tabs) hr (by decide) (pa_cons (pv 7) pa_nil)) (nomark _))))))
 pss_never
 pss_nil)
 (pss_one (ps_for PassesOwn.never rfl (pi_list (pe_f GL hr (by decide) (pa_cons (pe_callB call_len_seq (by rfl) B.len PySem.boot_len (pa_cons (pv 3) pa_nil)) pa_nil))) (pg_name (i := 9) nd rfl (Or.inl rfl))
 (pss_one (ps_if (pt_not (pt_val (pe_ex fun tabs => pe_f (GF tabs) hr (by decide) (pa_cons (pv 6) (pa_cons (pv 7) (pa_cons (pv 9) (pa_cons (pe_callB call_len_seq (by rfl) B.len PySem.boot_len (pa_cons (pv 3) pa_nil)) pa_nil)))))))
 pss_never
 pss_nil)))))))))))
 (pss_one (ps_ret pe_bl))), ?_⟩
    refine ⟨_, rfl, a, _, rfl, .inl hS, _, _, rfl, _, _, rfl, ?_⟩
    rw [List.length_map]
    obtain ⟨kk, hkk, hk3⟩ : ∃ kk : Nat, (if (if (ns.length : Int) < 3 then (ns.length : Int) else 3) > 1 then (if (ns.length : Int) < 3 then (ns.length : Int) else 3) else 1) = (kk : Int) ∧ kk ≤ 3 := by
      refine ⟨(if (if (ns.length : Int) < 3 then (ns.length : Int) else 3) > 1 then (if (ns.length : Int) < 3 then (ns.length : Int) else 3) else 1).toNat, ?_, ?_⟩ <;> split <;> (try split) <;> omega
    rw [hkk]
    refine ⟨(kk : Int), rfl, by omega, by omega, ?_⟩
    refine for_range (lo := 0) (n := ((kk : Nat) : Int).toNat) (fun i σ G => (∃ x1 x2 x3 x4 x5 x6 x7 x8 x9, σ = [some (.ref a), x1, x2, x3, x4, x5, x6, x7, x8, x9]) ∧ Mv [] H G) ⟨⟨_, _, _, _, _, _, _, _, _, rfl⟩, Mv.refl _ _⟩ ?_ ?_
    · intro k σ G0 hk ⟨⟨x1, x2, x3, x4, x5, x6, x7, x8, x9, hσ⟩, m0⟩
      subst hσ
      rw [show ((0 : Int) + (k : Nat)) = (k : Nat) from Int.zero_add _]
      refine ⟨_, rfl, _, rfl, a, ns, k, rfl, sql_mv hS m0, by omega, fun G1 p np m1 hp => ?_⟩
      refine ⟨_, rfl, p, rfl, hp, fun G2 tabs tv ok htv m2 hp2 => ?_⟩
      have math := M tabs ok
      have pn : H p = none := m0.none np
      refine ⟨tabs, _, rfl, _, rfl, p, tv, rfl, hp2, htv, ok, math.good, fun G3 t d L vs ds rows wr m3 hp3 ht nL hL hds hrun hlen => ?_⟩
      have nof := lrun_nofall hrun
      have m03 : Mv [] H G3 := ((((m0.trans m1).mono (S' := [p]) (by simp)).trans m2).trans m3).weak (by simp [pn])
      have htv3 := htv.mono (hp2.tk m3)
      have nL0 : H L = none := by
        have : Mv [p] H G2 := ((m0.trans m1).mono (by simp)).trans m2
        exact this.none nL
      refine ⟨t, _, rfl, SqT.of ht, rfl, _, _, rfl, _, _, rfl, rfl, ?_⟩
      refine ⟨tabs, _, rfl, rfl, rfl, fun y dy ny ndy ney => ?_⟩
      have my : Mv [] G3 (upd (upd G3 dy (.own y)) y (.ins C dy [])) := (Mv.new ndy).trans (Mv.new (by rw [upd_ne ney.symm]; exact ny))
      have ey : upd (upd G3 dy (.own y)) y (.ins C dy []) y = some (.ins C dy []) := upd_same
      have hL4 := my.at hL (by simp)
      have hds4 := hds.imp fun _ _ z => z.mono my.tk0
      have htv4 := htv3.mono my.tk0
      generalize upd (upd G3 dy (.own y)) y (.ins C dy []) = G4 at *
      refine ⟨y, dy, tv, rfl, ey, htv4, ok, fun A1 G5 e1 hn5 m5 hT1 => ⟨rfl, ?_⟩⟩
      have hn1 : ∀ a ∈ A1.all, G3 a = none := fun a ha => by
        rcases hn5 a ha with e | e
        · rw [e]; exact ny
        · exact my.none e
      have m35 : Mv [] G3 G5 := ((my.mono (by simp)).trans m5).weak (by simp [ny])
      have htv5 := htv3.mono m35.tk0
      refine ⟨tabs, _, rfl, rfl, rfl, fun y2 dy2 ny2 ndy2 ney2 => ?_⟩
      have my2 : Mv [] G5 (upd (upd G5 dy2 (.own y2)) y2 (.ins C dy2 [])) := (Mv.new ndy2).trans (Mv.new (by rw [upd_ne ney2.symm]; exact ny2))
      have ey2 : upd (upd G5 dy2 (.own y2)) y2 (.ins C dy2 []) y2 = some (.ins C dy2 []) := upd_same
      have hT1' := hT1.mv my2
      have htv6 := htv5.mono my2.tk0
      generalize upd (upd G5 dy2 (.own y2)) y2 (.ins C dy2 []) = G6 at *
      refine ⟨y2, dy2, tv, rfl, ey2, htv6, ok, fun A2 G7 e2 hn7 m7 hT2 => ⟨rfl, _, _, rfl, ?_⟩⟩
      have hn2 : ∀ a ∈ A2.all, G5 a = none := fun a ha => by
        rcases hn7 a ha with e | e
        · rw [e]; exact ny2
        · exact my2.none e
      have m57 : Mv [] G5 G7 := ((my2.mono (by simp)).trans m7).weak (by simp [ny2])
      have hT1'' := hT1.mv m57
      have dj : ∀ a ∈ A1.all, a ∉ A2.all := fun a ha z => by
        obtain ⟨o, e, _⟩ := hT1.live a ha
        rw [hn2 a z] at e; cases e
      have m37 := m35.trans m57
      have hL7 := m37.at hL (by simp)
      have hds7 := hds.imp fun _ _ z => z.mono m37.tk0
      have L1 : L ∉ A1.all := fun z => by rw [hn1 L z] at hL; cases hL
      have L2 : L ∉ A2.all := fun z => by
        have := hn2 L z
        rw [m35.at hL (by simp)] at this; cases this
      have m07 := m03.trans m37
      have nA1 : ∀ a ∈ A1.all, H a = none := fun a ha => m03.none (hn1 a ha)
      have nA2 : ∀ a ∈ A2.all, H a = none := fun a ha => (m03.trans m35).none (hn2 a ha)
      rw [← e1, ← e2]
      clear hT1 hT1' htv4 htv5 htv6 hL4 hds4 my my2 m5 m7 ey ey2 hp hp2 hp3 ht
      refine ⟨_, rfl, L, rfl, ⟨_, SqL.of hL7⟩, ?_⟩
      refine for_list (xs := vs) (fun i σ G => ∃ (B1 B2 : ToA) (st : TS), (∃ x8 x9, σ = [some (.ref a), some (iN k), some (.ref p), some tv, some (.ref d), some (.ref L), some (.ref B1.p), some (.ref B2.p), x8, x9]) ∧ TownAt C tabs false G st B1 i ∧ TownAt C tabs true G st B2 i ∧ TRun tabs (ds.take i) st ∧
        (∀ a ∈ B1.all, a ∉ B2.all) ∧ L ∉ B1.all ∧ L ∉ B2.all ∧ (∀ a ∈ B1.all, H a = none) ∧ (∀ a ∈ B2.all, H a = none) ∧ Mv [] H G ∧ G L = some (.lst vs) ∧ TK G7 G) ?_ ?_ ?_ ?_
      · exact ⟨A1, A2, tstart tabs.length, ⟨_, _, rfl⟩, hT1'', hT2, .nil, dj, L1, L2, nA1, nA2, m07, hL7, TK.refl _⟩
      · exact fun i σ G _ ⟨B1, B2, st, q⟩ => SqL.of q.2.2.2.2.2.2.2.2.2.2.1
      · intro i x σ G hx ⟨B1, B2, st, ⟨x8, x9, hσ⟩, hB1, hB2, hrun2, djB, LB1, LB2, nB1, nB2, mG, hLG, kG⟩
        subst hσ
        obtain ⟨td, htd, hxt⟩ := hds7.getR hx
        have hi := lt_of_get htd
        have split : ds = ds.take i ++ td :: ds.drop (i + 1) := by
          have e : ds.drop i = td :: ds.drop (i + 1) := by
            have hh : ds[i] = td := by
              rw [List.getElem?_eq_getElem hi] at htd
              exact Option.some.inj htd
            rw [← hh]; exact List.drop_eq_getElem_cons hi
          rw [← e, List.take_append_drop]
        have lv0 := math.leaves ds rows wr hrun hlen _ td _ st false split hrun2
        have lv1 := math.leaves ds rows wr hrun hlen _ td _ st true split hrun2
        have nf := nof td (List.mem_of_getElem? htd)
        refine ⟨tabs, _, rfl, _, _, _, rfl, hB1.tab.choose_spec.2, rfl, _, rfl, B1, st, i, td, x, rfl, hB1, hxt.mono kG, ok, lv0, by omega, fun B1' K1 st1 f1 hf1 k1 hd1 hU1 => ?_⟩
        have p1B2 : ∀ a ∈ B2.all, a ∉ [B1.p] := fun a ha z => by
          rw [List.mem_singleton] at z
          exact djB B1.p (by simp [ToA.all]) (z ▸ ha)
        have tk1 : TK G K1 := k1.tk fun a ha xs z => by
          obtain ⟨o, e, ne⟩ := hB1.live a (by rw [List.mem_singleton.mp ha]; simp [ToA.all])
          rw [e] at z
          exact ne xs (Option.some.inj z)
        have hB2' := hB2.move k1 tk1 p1B2
        have LK1 := k1.at hLG (by simp; exact fun z => LB1 (by rw [z]; simp [ToA.all]))
        have mK1 : Mv [] H K1 := ((mG.mono (by simp)).trans k1).weak (by simp [nB1 B1.p (by simp [ToA.all])])
        have nB1' : ∀ a ∈ B1'.all, H a = none := fun a ha => (hf1 a ha).elim (fun e => by rw [e]; exact nB1 _ (by simp [ToA.all])) fun z => mG.none z
        have dj1 : ∀ a ∈ B1'.all, a ∉ B2.all := fun a ha z => by
          rcases hf1 a ha with e | e
          · exact djB B1.p (by simp [ToA.all]) (e ▸ z)
          · obtain ⟨o, e2, _⟩ := hB2.live a z
            rw [e] at e2; cases e2
        have LB1' : L ∉ B1'.all := fun z => by
          rcases hf1 L z with e | e
          · exact LB1 (by rw [e]; simp [ToA.all])
          · rw [hLG] at e; cases e
        rw [← f1]
        refine ⟨tabs, _, rfl, _, _, _, rfl, hB2'.tab.choose_spec.2, rfl, _, rfl, B2, st, i, td, x, rfl, hB2', (hxt.mono kG).mono tk1, ok, lv1, by omega, fun B2' K2 st2 f2 hf2 k2 hd2 hU2 => ?_⟩
        have tk2 : TK K1 K2 := k2.tk fun a ha xs z => by
          obtain ⟨o, e, ne⟩ := hB2'.live a (by rw [List.mem_singleton.mp ha]; simp [ToA.all])
          rw [e] at z
          exact ne xs (Option.some.inj z)
        have est : st2 = st1 := does_det nf hd2 hd1
        rw [est] at hU2
        have hU1' := hU1.move k2 tk2 fun a ha z => by
          rw [List.mem_singleton] at z
          exact dj1 a ha (by rw [z]; simp [ToA.all])
        refine ⟨B1', B2', _, ⟨_, _, by rw [f2]; rfl⟩, hU1', hU2, by rw [take_snoc htd]; exact .snoc hrun2 hd1, fun a ha z => ?_, LB1', fun z => ?_, nB1', fun a ha => ?_, ?_, k2.at LK1 (by simp; exact fun z => LB2 (by rw [z]; simp [ToA.all])), (kG.trans tk1).trans tk2⟩
        · rcases hf2 a z with e | e
          · exact dj1 a ha (by rw [e]; simp [ToA.all])
          · obtain ⟨o, e2, _⟩ := hU1.live a ha
            rw [e] at e2; cases e2
        · rcases hf2 L z with e | e
          · exact LB2 (by rw [e]; simp [ToA.all])
          · rw [LK1] at e; cases e
        · exact (hf2 a ha).elim (fun e => by rw [e]; exact nB2 _ (by simp [ToA.all])) fun z => mK1.none z
        · exact ((mK1.mono (by simp)).trans k2).weak (by simp [nB2 B2.p (by simp [ToA.all])])
      · intro σ G ⟨B1, B2, st, ⟨x8, x9, hσ⟩, hB1, hB2, hrun2, djB, LB1, LB2, nB1, nB2, mG, hLG, kG⟩
        subst hσ
        rw [← hds.len, List.take_length] at hrun2
        have ro := math.ends ds rows wr hrun hlen st hrun2
        obtain ⟨tv1, _, ob1⟩ := hB1.tab
        obtain ⟨tv2, _, ob2⟩ := hB2.tab
        have h4 := ok.four
        refine ⟨tabs, _, rfl, _, _, _, rfl, ob1, rfl, B1, st, _, rfl, hB1, (by have := ro.few; omega), fun K1 t1 u1 ds1 k1 ht1 hu1 hd1 => ?_⟩
        refine ⟨tabs, _, rfl, _, _, _, rfl, k1.at ob2 (by simp), rfl, B2, st, _, rfl, hB2.mv k1, (by have := ro.few; omega), fun K2 t2 u2 ds2 k2 ht2 hu2 hd2 => ?_⟩
        refine ⟨.tuple [.int (tabs.length + 1 : Nat), .tuple ((st.rows.map (·.1)).map encD)], .tuple [.int (tabs.length + 1 : Nat), .tuple ((st.rows.map (·.1)).map encD)], ?_, ?_, shaped_hist _ _, shaped_hist _ _, _, rfl, ?_⟩
        · exact .tup (SqT.of (k2.at ht1 (by simp))) (.cons (.int _) (.cons (.tup (SqT.of (k2.at hu1 (by simp))) (dp_deeds (hd1.imp fun _ _ z => z.mono k2.tk0))) .nil))
        · exact .tup (SqT.of ht2) (.cons (.int _) (.cons (.tup (SqT.of hu2) (dp_deeds hd2)) .nil))
        refine ifF (by rw [eqv_shaped (shaped_hist _ _)]; rfl) ?_
        have k12 := k1.trans k2
        have hB1a := hB1.mv k12
        have hB2a := hB2.mv k12
        clear ht1 hu1 hd1 ht2 hu2 hd2
        refine ⟨tabs, _, rfl, _, _, _, rfl, k12.at ob1 (by simp), rfl, B1, st, _, rfl, hB1a, fun K3 t3 k3 hl3 => ?_⟩
        refine ⟨tabs, _, rfl, _, _, _, rfl, (k12.trans k3).at ob2 (by simp), rfl, B2, st, _, rfl, hB2a.mv k3, fun K4 t4 k4 hl4 => ?_⟩
        obtain ⟨ws3, hw3, hv3⟩ := hl3
        obtain ⟨ws4, hw4, hv4⟩ := hl4
        refine ⟨.list (st.told.map encT), .list (st.told.map encT), .lst (SqL.of (k4.at hw3 (by simp))) (dp_told (hv3.imp fun _ _ z => z.mono k4.tk0)), .lst (SqL.of hw4) (dp_told hv4), shaped_told _, shaped_told _, _, rfl, ?_⟩
        refine ifF (by rw [eqv_shaped (shaped_told _)]; rfl) ?_
        have k14 := (k12.trans k3).trans k4
        clear hw3 hv3 hw4 hv4
        refine ⟨tabs, _, rfl, B1, st, _, rfl, hB1.mv k14, h4, ro.fit, ro.wlen, ro.wr, fun K5 t5 c5 k5 hc5 hk5 => ?_⟩
        refine ⟨tabs, _, rfl, B2, st, _, rfl, hB2.mv (k14.trans k5), h4, ro.fit, ro.wlen, ro.wr, fun K6 t6 c6 k6 hc6 hk6 => ?_⟩
        have e56 := ro.uniq c5 c6 hk5 hk6
        subst e56
        refine ⟨_, _, .tup (SqT.of (k6.at hc5 (by simp))) (dp_nats _), .tup (SqT.of hc6) (dp_nats _), shaped_nats _, shaped_nats _, _, rfl, ?_⟩
        refine ifF (by rw [eqv_shaped (shaped_nats _)]; rfl) ?_
        have k16 := (k14.trans k5).trans k6
        have hB1b := hB1.mv k16
        have hB2b := hB2.mv k16
        have mK6 := mG.trans k16
        obtain ⟨tb, tvs, htb, htvs, hown⟩ := htv3
        have htv7 := (m37.at htvs (by simp))
        have htv8 := (kG _ _ htv7)
        have htv9 := k16.at htv8 (by simp)
        have htvl : tvs.length = tabs.length := hown.len.symm
        have hvl : vs.length ≤ 30 := hds.len ▸ hlen
        clear k1 k2 k12 k3 k4 k14 k5 k6 hc5 hk5 hc6 hk6 hB1a hB2a ob1 ob2
        subst htb
        refine ⟨_, rfl, tb, tvs, rfl, .inr (SqT.of htv9), tabs.length, by rw [htvl]; rfl, h4, fun G1' L' vs' ls k7 nL' hL' hls' hok' => ?_⟩
        refine ⟨L', rfl, ⟨_, SqL.of hL'⟩, ?_⟩
        have nLH : H L' = none := mK6.none nL'
        refine for_list (xs := vs') (fun i σ G => (∃ x8 x9, σ = [some (.ref a), some (iN k), some (.ref p), some (.ref tb), some (.ref d), some (.ref L), some (.ref B1.p), some (.ref B2.p), x8, x9]) ∧ Mv [] G1' G) ?_ ?_ ?_ ?_
        · exact ⟨⟨_, _, rfl⟩, Mv.refl _ _⟩
        · exact fun i σ G _ q => SqL.of (q.2.at hL' (by simp))
        · intro i x σ G hx ⟨⟨x8, x9, hσ⟩, m8⟩
          subst hσ
          obtain ⟨l, hl', hxl⟩ := hls'.getR hx
          obtain ⟨fa, rfl, hfa⟩ := hxl
          obtain ⟨lo, l10⟩ := hok' l (List.mem_of_getElem? hl')
          obtain ⟨lv1, lv2, fr⟩ := ro.lots l lo l10
          have k8 := k7.trans m8
          refine ⟨tabs, _, rfl, _, rfl, _, rfl, _, rfl, tb, tvs, rfl, .inr (SqT.of (k8.at htv9 (by simp))), B1, B2, st, _, _, fa, l, by rw [htvl]; rfl, hB1b.mv k8, hB2b.mv k8, m8.at hfa (by simp), ok, lv1, lv2, by omega, by omega, fr, fun H' m9 => ?_⟩
          refine ⟨_, rfl, ?_⟩
          exact ⟨⟨_, _, rfl⟩, m8.trans m9⟩
        · intro σ G ⟨⟨x8, x9, hσ⟩, m8⟩
          subst hσ
          exact ⟨⟨_, _, _, _, _, _, _, _, _, rfl⟩, (mK6.trans k7).trans m8⟩
    · intro σ G ⟨_, _⟩
      exact kq G
end
end Lor
end

section
set_option Elab.async false
set_option linter.all false
set_option maxRecDepth 10000
set_option maxHeartbeats 1000000
/-! the plain law: what a history of the town keeps -/
namespace Lor
def isSend (f : Nat) (r : Row) : Bool := match r.1 with
  | .send h _ => h == f
  | _ => false
/-- the steps of the letters of f, in their order -/
def sendsOf (rows : List Row) (f : Nat) : List Nat := (rows.filter (isSend f)).map (·.2)
theorem sendsOf_snoc (rows : List Row) (r : Row) (f : Nat) : sendsOf (rows ++ [r]) f = sendsOf rows f ++ (if isSend f r = true then [r.2] else []) := by
  unfold sendsOf
  rw [List.filter_append, List.map_append]
  by_cases c : isSend f r = true
  · simp [c]
  · simp [c]
theorem sendsOf_same {rows : List Row} {r : Row} {f : Nat} (h : isSend f r = false) : sendsOf (rows ++ [r]) f = sendsOf rows f := by
  rw [sendsOf_snoc, h]; simp
/-- a row that may follow -/
structure StepOk (many : Nat) (rows : List Row) (r : Row) : Prop where
  ok : RowOk many (going (many + 1) rows) r
  low : r.1.hand < many → r.2 = count rows r.1.hand + (if isTake r.1.hand r = true then 1 else 0)
  out : r.1.hand = many → r.2 = 0
  ne : ∀ h to, r.1 = .send h to → to ≠ h
  tk : ∀ h f k, r.1 = .take h f k → ∃ w, aget (going (many + 1) rows).ls (f, k) = some ⟨h, w, false⟩
inductive Hs (many : Nat) : List Row → Prop where
  | nil : Hs many []
  | snoc {rows : List Row} {r : Row} : Hs many rows → StepOk many rows r → Hs many (rows ++ [r])
theorem valid_snoc {many : Nat} {rows : List Row} {r : Row} (v : Valid many rows) (ok : RowOk many (going (many + 1) rows) r) : Valid many (rows ++ [r]) := by
  intro i x hx
  by_cases c : i < rows.length
  · rw [List.getElem?_append_left c] at hx
    rw [List.take_append_of_le_length (Nat.le_of_lt c)]
    exact v i x hx
  · have hl : i < (rows ++ [r]).length := by
      rcases Nat.lt_or_ge i (rows ++ [r]).length with z | z
      · exact z
      · rw [List.getElem?_eq_none z] at hx; cases hx
    rw [List.length_append] at hl
    have e : i = rows.length := by simp at hl; omega
    subst e
    rw [List.getElem?_append_right (Nat.le_refl _)] at hx
    simp at hx
    subst hx
    rw [List.take_left]
    exact ok
theorem Hs.valid {many : Nat} {rows : List Row} (H : Hs many rows) : Valid many rows := by
  induction H with
  | nil => intro i r h; simp at h
  | snoc _ s ih => exact valid_snoc ih s.ok
/-- the shape of goings -/
structure GSh (many : Nat) (rows : List Row) (g : Gs) : Prop where
  wl : g.wo.length = many + 1
  sl : g.se.length = many + 1
  se : ∀ f, f ≤ many → g.se.getD f 0 = (sendsOf rows f).length
  ls : ∀ f k, ahas g.ls (f, k) = true ↔ f ≤ many ∧ k < (sendsOf rows f).length
theorem gsh_step {many : Nat} {rows : List Row} {g : Gs} {r : Row} (G : GSh many rows g) (ok : RowOk many g r) : GSh many (rows ++ [r]) (gstep g r.1) := by
  obtain ⟨d, s⟩ := r
  cases d with
  | own h x =>
    refine ⟨List.length_set.trans G.wl, G.sl, fun f hf => ?_, fun f k => ?_⟩
    · rw [sendsOf_same rfl]; exact G.se f hf
    · rw [sendsOf_same rfl]; exact G.ls f k
  | keep h =>
    refine ⟨G.wl, G.sl, fun f hf => ?_, fun f k => ?_⟩
    · rw [sendsOf_same rfl]; exact G.se f hf
    · rw [sendsOf_same rfl]; exact G.ls f k
  | send h to =>
    have hh : h < g.se.length := by rw [G.sl]; exact Nat.lt_succ_of_le ok.hand
    have hm : h ≤ many := ok.hand
    refine ⟨G.wl, List.length_set.trans G.sl, fun f hf => ?_, fun f k => ?_⟩
    · show (g.se.set h (g.se.getD h 0 + 1)).getD f 0 = _
      rw [getD_set hh, sendsOf_snoc]
      by_cases c : f = h
      · subst c
        rw [if_pos rfl, G.se f hf]; simp [isSend]
      · have c' : ¬ h = f := fun z => c z.symm
        rw [if_neg c, G.se f hf]; simp [isSend, c']
    · show ahas (aput g.ls (h, g.se.getD h 0) _) (f, k) = true ↔ _
      rw [ahas_aput, sendsOf_snoc, G.se h hm, Bool.or_eq_true, decide_eq_true_eq, G.ls]
      by_cases c : f = h
      · subst c
        simp [isSend]
        omega
      · have c' : ¬ h = f := fun z => c z.symm
        simp [isSend, c, c']
  | take h f' k' =>
    obtain ⟨l, e⟩ := (ok.take h f' k' rfl).2.2
    have gs : gstep g (.take h f' k') = { g with ls := aput g.ls (f', k') ⟨l.to, l.wo, true⟩, wo := g.wo.set h ((3 * g.wo.getD h 0 + l.wo + 1) % 1000) } := by
      show (match aget g.ls (f', k') with | some l => _ | none => g : Gs) = _
      rw [e]
    show GSh many _ (gstep g (.take h f' k'))
    rw [gs]
    refine ⟨List.length_set.trans G.wl, G.sl, fun f hf => ?_, fun f k => ?_⟩
    · rw [sendsOf_same rfl]; exact G.se f hf
    · rw [sendsOf_snoc]
      show ahas (aput g.ls (f', k') _) (f, k) = true ↔ _
      have : ahas g.ls (f', k') = true := by unfold ahas; rw [e]; rfl
      rw [ahas_aput, Bool.or_eq_true, decide_eq_true_eq]
      simp only [isSend]
      constructor
      · rintro (z | z)
        · rw [← z] at this; simpa using (G.ls f k).mp this
        · simpa using (G.ls f k).mp z
      · intro z
        exact .inr ((G.ls f k).mpr (by simpa using z))
theorem gsh_take {many : Nat} {rows : List Row} (v : Valid many rows) : ∀ i, i ≤ rows.length → GSh many (rows.take i) (going (many + 1) (rows.take i)) := by
  intro i
  induction i with
  | zero =>
    intro _
    refine ⟨List.length_replicate, List.length_replicate, fun f hf => ?_, fun f k => ?_⟩
    · show (List.replicate (many + 1) 0).getD f 0 = 0
      rw [List.getD_eq_getElem?_getD, List.getElem?_replicate]
      split <;> rfl
    · show ahas [] _ = true ↔ _
      simp [ahas, aget, sendsOf]
  | succ i ih =>
    intro hi
    have e : rows[i]? = some rows[i] := List.getElem?_eq_getElem hi
    rw [take_snoc' e, going_snoc']
    exact gsh_step (ih (Nat.le_of_lt hi)) (v i _ e)
theorem gsh {many : Nat} {rows : List Row} (v : Valid many rows) : GSh many rows (going (many + 1) rows) := by
  have := gsh_take v rows.length (Nat.le_refl _)
  rwa [List.take_length] at this
/-- letters, whom they go to, whether they are taken -/
structure LSh (many : Nat) (rows : List Row) (g : Gs) (b : Bs) : Prop where
  to : ∀ f k l, aget g.ls (f, k) = some l → l.to ≠ f ∧ l.to ≤ many
  tk : ∀ q l, aget g.ls q = some l → ahas b.ta q = l.tk
  so : ∀ f k, aget b.so (f, k) = (sendsOf rows f)[k]?.map fun n => (f, n)
theorem sendsOf_big {many : Nat} {rows : List Row} (v : Valid many rows) {f : Nat} (h : many < f) : sendsOf rows f = [] := by
  unfold sendsOf
  rw [List.map_eq_nil_iff, List.filter_eq_nil_iff]
  intro r hr
  obtain ⟨i, hi⟩ := List.getElem?_of_mem hr
  have := (v i r hi).hand
  obtain ⟨d, s⟩ := r
  cases d with
  | send h' to =>
    simp [isSend]
    intro z
    have : h' ≤ many := this
    omega
  | _ => simp [isSend]
theorem Hs.lsh {many : Nat} {rows : List Row} (H : Hs many rows) : LSh many rows (going (many + 1) rows) (bearing many rows) := by
  induction H with
  | nil => exact ⟨(fun f k l h => by cases h), (fun q l h => by cases h), (fun f k => by simp [bearing, bstart, sendsOf, aget])⟩
  | @snoc rows r H s ih =>
    have G := gsh H.valid
    have B := binv H.valid
    have tai := ta_inv H.valid
    rw [going_snoc', bearing_snoc]
    have ok := s.ok
    have sne := s.ne
    have stk := s.tk
    generalize hg : going (many + 1) rows = g at *
    generalize hb : bearing many rows = b at *
    obtain ⟨d, n⟩ := r
    cases d with
    | own h x => exact ⟨ih.to, ih.tk, fun f k => by rw [sendsOf_same rfl]; exact ih.so f k⟩
    | keep h => exact ⟨ih.to, ih.tk, fun f k => by rw [sendsOf_same rfl]; exact ih.so f k⟩
    | send h to =>
      have hm : h ≤ many := ok.hand
      refine ⟨fun f k l hl => ?_, fun q l hl => ?_, fun f k => ?_⟩
      · replace hl : aget (aput g.ls (h, g.se.getD h 0) ⟨to, g.wo.getD h 0, false⟩) (f, k) = some l := hl
        rw [aget_aput] at hl
        split at hl
        next c =>
          cases hl
          cases c
          exact ⟨sne h to rfl, ok.send h to rfl⟩
        next => exact ih.to f k l hl
      · replace hl : aget (aput g.ls (h, g.se.getD h 0) ⟨to, g.wo.getD h 0, false⟩) q = some l := hl
        show ahas b.ta q = l.tk
        rw [aget_aput] at hl
        split at hl
        next c =>
          cases hl
          subst c
          show _ = false
          cases e : aget b.ta (h, g.se.getD h 0) with
          | none => unfold ahas; rw [e]; rfl
          | some x =>
            have := (tai _ (aget_mem e)).1
            rw [B.so, G.ls, G.se h hm] at this
            exact absurd this.2 (Nat.lt_irrefl _)
        next => exact ih.tk q l hl
      · show aget (aput b.so (h, b.se.getD h 0) (h, n)) (f, k) = _
        rw [aget_aput, sendsOf_snoc, B.se, G.se h hm, ih.so]
        by_cases c : f = h
        · subst c
          by_cases d : k = (sendsOf rows f).length
          · subst d
            simp [isSend]
          · have : ¬ (f, k) = (f, (sendsOf rows f).length) := fun z => d (congrArg Prod.snd z)
            rw [if_neg this]
            simp only [isSend, beq_self_eq_true, if_true]
            by_cases e : k < (sendsOf rows f).length
            · rw [List.getElem?_append_left e]
            · rw [List.getElem?_eq_none (by omega), List.getElem?_eq_none (by simp; omega)]
        · have c' : ¬ h = f := fun z => c z.symm
          simp [isSend, c, c']
    | take h f' k' =>
      obtain ⟨w, e⟩ := stk h f' k' rfl
      have gs : gstep g (.take h f' k') = { g with ls := aput g.ls (f', k') ⟨h, w, true⟩, wo := g.wo.set h ((3 * g.wo.getD h 0 + w + 1) % 1000) } := by
        show (match aget g.ls (f', k') with | some l => _ | none => g : Gs) = _
        rw [e]
      show LSh many _ (gstep g (.take h f' k')) _
      rw [gs]
      refine ⟨fun f k l hl => ?_, fun q l hl => ?_, fun f k => ?_⟩
      · replace hl : aget (aput g.ls (f', k') _) (f, k) = some l := hl
        rw [aget_aput] at hl
        split at hl
        next c =>
          cases hl
          cases c
          exact ih.to f' k' ⟨h, w, false⟩ e
        next => exact ih.to f k l hl
      · replace hl : aget (aput g.ls (f', k') _) q = some l := hl
        show ahas (aput b.ta (f', k') _) q = l.tk
        rw [aget_aput] at hl
        rw [ahas_aput]
        split at hl
        next c => cases hl; simp [c]
        next c => rw [ih.tk q l hl]; simp [c]
      · rw [sendsOf_same rfl]; exact ih.so f k
end Lor
end

section
set_option Elab.async false
set_option linter.all false
set_option maxRecDepth 10000
set_option maxHeartbeats 1000000
/-! the plain law: what is known is closed -/
namespace Lor
/-- a set of steps that a cut may keep -/
structure Closed (many : Nat) (cnt : Nat → Nat) (ta so : List (Nm × Nm)) (S : List Nm) : Prop where
  low : ∀ h s, (h, s) ∈ S → h < many ∧ 1 ≤ s ∧ s ≤ cnt h
  down : ∀ h s t, (h, s) ∈ S → 1 ≤ t → t ≤ s → (h, t) ∈ S
  caus : ∀ q h s o n, (q, (h, s)) ∈ ta → h < many → aget so q = some (o, n) → o < many → 1 ≤ n → (h, s) ∈ S → (o, n) ∈ S
structure KSh (many : Nat) (rows : List Row) (b : Bs) : Prop where
  own : ∀ h s, h < many → 1 ≤ s → s ≤ count rows h → (h, s) ∈ b.kn.getD h []
  kn : ∀ j, Closed many (count rows) b.ta b.so (b.kn.getD j [])
  bo : ∀ p ∈ b.bo, Closed many (count rows) b.ta b.so p.2
  bor : ∀ q o n, aget b.so q = some (o, n) → o < many → 1 ≤ n → (o, n) ∈ (aget b.bo q).getD []
  ta : ∀ q h s, (q, (h, s)) ∈ b.ta → h < many → s ≤ count rows h
theorem set_getD_self {α : Type} {l : List α} {i : Nat} {d : α} (h : i < l.length) : l.set i (l.getD i d) = l := by
  refine List.ext_getElem? fun j => ?_
  rw [List.getElem?_set]
  by_cases c : i = j
  · subst c
    rw [if_pos rfl, if_pos h, List.getD_eq_getElem?_getD, List.getElem?_eq_getElem h]; rfl
  · rw [if_neg c]
theorem bown_same {many : Nat} {kn : List (List Nm)} {h s : Nat} (hl : h < kn.length) (o : h < many → 1 ≤ s → (h, s) ∈ kn.getD h []) : bown many kn h s = kn := by
  unfold bown
  split
  next c =>
    have : kadd (kn.getD h []) (h, s) = kn.getD h [] := by
      unfold kadd; rw [if_pos (o c.1 c.2)]
    rw [this, set_getD_self hl]
  · rfl
theorem count_same {rows : List Row} {r : Row} {h : Nat} (e : isTake h r = false) : count (rows ++ [r]) h = count rows h := by
  rw [count_snoc, e]; simp
theorem ksh_same {many : Nat} {rows : List Row} {b b' : Bs} {r : Row} (K : KSh many rows b) (e : ∀ h, isTake h r = false) (hk : b'.kn = b.kn) (h1 : b'.bo = b.bo) (h2 : b'.so = b.so) (h3 : b'.ta = b.ta) : KSh many (rows ++ [r]) b' := by
  have ec : count (rows ++ [r]) = count rows := funext fun h => count_same (e h)
  refine ⟨?_, ?_, ?_, ?_, ?_⟩
  · rw [ec, hk]; exact K.own
  · rw [ec, hk, h2, h3]; exact K.kn
  · rw [ec, h1, h2, h3]; exact K.bo
  · rw [h1, h2]; exact K.bor
  · rw [ec, h3]; exact K.ta
theorem Closed.nil {many : Nat} {cnt : Nat → Nat} {ta so : List (Nm × Nm)} : Closed many cnt ta so [] := ⟨(fun h s z => by cases z), (fun h s t z => by cases z), (fun q h s o n _ _ _ _ _ z => by cases z)⟩
theorem mem_getD_or {α : Type} {l : List (List α)} {i : Nat} : l.getD i [] ∈ l ∨ l.getD i [] = [] := by
  by_cases c : i < l.length
  · exact .inl (mem_getD c)
  · exact .inr (getD_of c)
theorem Hs.ksh {many : Nat} {rows : List Row} (H : Hs many rows) : KSh many rows (bearing many rows) := by
  induction H with
  | nil =>
    refine ⟨fun h s _ h1 h2 => ?_, fun j => ?_, (fun p hp => by cases hp), (fun q o n z => by cases z), (fun q h s z => by cases z)⟩
    · have : count [] h = 0 := rfl
      omega
    · have : (bearing many []).kn.getD j [] = [] := by
        show (List.replicate (many + 1) []).getD j [] = []
        rw [List.getD_eq_getElem?_getD, List.getElem?_replicate]
        split <;> rfl
      rw [this]; exact .nil
  | @snoc rows r H s ih =>
    have G := gsh H.valid
    have B := binv H.valid
    have tai := ta_inv H.valid
    rw [bearing_snoc]
    have ok := s.ok
    have slow := s.low
    have sout := s.out
    have stk := s.tk
    generalize hg : going (many + 1) rows = g at *
    generalize hb : bearing many rows = b at *
    obtain ⟨d, n⟩ := r
    have hm : d.hand ≤ many := ok.hand
    have hl : d.hand < b.kn.length := by rw [B.kl]; omega
    cases d with
    | own h x => exact ksh_same ih (fun _ => rfl) (bown_same hl fun z => absurd (ok.own h x rfl) (Nat.ne_of_lt z)) rfl rfl rfl
    | keep h =>
      exact ksh_same ih (fun _ => rfl) (bown_same hl fun z1 z2 => ih.own _ _ z1 z2 (by have := slow z1; simp [isTake] at this; exact Nat.le_of_eq this)) rfl rfl rfl
    | send h to =>
      replace hm : h ≤ many := hm
      replace hl : h < b.kn.length := hl
      have hn : h < many → n = count rows h := fun z1 => by have := slow z1; simpa [isTake, Deed.hand] using this
      have eb : bown many b.kn h n = b.kn := bown_same hl fun z1 z2 => ih.own _ _ z1 z2 (Nat.le_of_eq (hn z1))
      have ec : count (rows ++ [(Deed.send h to, n)]) = count rows := funext fun h => count_same rfl
      have fresh : ahas b.so (h, b.se.getD h 0) = false := by
        cases e : ahas b.so (h, b.se.getD h 0) with
        | false => rfl
        | true =>
          rw [B.so, G.ls, B.se, G.se h hm] at e
          exact absurd e.2 (Nat.lt_irrefl _)
      have tne : ∀ q x, (q, x) ∈ b.ta → aget (aput b.so (h, b.se.getD h 0) (h, n)) q = aget b.so q := fun q x hq => aget_aput_ne fun z => by
        have := (tai _ hq).1
        rw [show (q, x).1 = q from rfl, z, fresh] at this
        cases this
      have cl : ∀ {S}, Closed many (count rows) b.ta b.so S → Closed many (count rows) b.ta (aput b.so (h, b.se.getD h 0) (h, n)) S := fun C => ⟨C.low, C.down, fun q h' s' o n' h1 h2 h3 h4 h5 h6 => C.caus q h' s' o n' h1 h2 (by rw [← h3, tne q _ h1]) h4 h5 h6⟩
      show KSh many _ { b with kn := bown many b.kn h n, bo := aput b.bo (h, b.se.getD h 0) ((bown many b.kn h n).getD h []), so := aput b.so (h, b.se.getD h 0) (h, n), se := b.se.set h (b.se.getD h 0 + 1) }
      rw [eb]
      refine ⟨by rw [ec]; exact ih.own, fun j => by rw [ec]; exact cl (ih.kn j), fun p hp => ?_, fun q o n' hq h1 h2 => ?_, by rw [ec]; exact ih.ta⟩
      · rw [ec]
        rcases mem_aput hp with e | e
        · rw [e]; exact cl (ih.kn h)
        · exact cl (ih.bo p e)
      · replace hq : aget (aput b.so (h, b.se.getD h 0) (h, n)) q = some (o, n') := hq
        show _ ∈ (aget (aput b.bo (h, b.se.getD h 0) (b.kn.getD h [])) q).getD []
        rw [aget_aput] at hq
        rw [aget_aput]
        split at hq
        next c =>
          cases hq
          rw [if_pos c]
          exact ih.own _ _ h1 h2 (Nat.le_of_eq (hn h1))
        next c =>
          rw [if_neg c]
          exact ih.bor q o n' hq h1 h2
    | take h f k =>
      replace hm : h ≤ many := hm
      replace hl : h < b.kn.length := hl
      have hn : h < many → n = count rows h + 1 := fun z1 => by have := slow z1; simpa [isTake, Deed.hand] using this
      have hBo : Closed many (count rows) b.ta b.so ((aget b.bo (f, k)).getD []) := by
        cases e : aget b.bo (f, k) with
        | none => exact .nil
        | some S => exact ih.bo _ (aget_mem e)
      have cm : ∀ h', count rows h' ≤ count (rows ++ [(Deed.take h f k, n)]) h' := fun h' => by rw [count_snoc]; exact Nat.le_add_right _ _
      have ch : count (rows ++ [(Deed.take h f k, n)]) h = count rows h + 1 := by rw [count_snoc]; simp [isTake]
      have cne : ∀ h', h' ≠ h → count (rows ++ [(Deed.take h f k, n)]) h' = count rows h' := fun h' z => count_same (by simp [isTake]; exact fun z' => z z'.symm)
      have cl : ∀ {S}, Closed many (count rows) b.ta b.so S → Closed many (count (rows ++ [(Deed.take h f k, n)])) (aput b.ta (f, k) (h, n)) b.so S := fun {S} C =>
        ⟨fun h' s' z => let ⟨a, a', a''⟩ := C.low h' s' z; ⟨a, a', Nat.le_trans a'' (cm h')⟩, C.down, fun q h' s' o n' h1 h2 h3 h4 h5 h6 => by
          rcases mem_aput h1 with e | e
          · cases e
            have := (C.low _ _ h6).2.2
            have := hn h2
            omega
          · exact C.caus q h' s' o n' e h2 h3 h4 h5 h6⟩
      generalize hBB : (aget b.bo (f, k)).getD [] = BB at *
      have e0 : bstep many b (Deed.take h f k, n) = { b with kn := (bown many b.kn h n).set h (kupd ((bown many b.kn h n).getD h []) BB), ta := aput b.ta (f, k) (h, n) } := by rw [← hBB]; rfl
      rw [e0]
      have mN : ∀ x, x ∈ kupd ((bown many b.kn h n).getD h []) BB ↔ x ∈ b.kn.getD h [] ∨ (h < many ∧ x = (h, n)) ∨ x ∈ BB := fun x => by
        rw [mem_kupd]
        unfold bown
        by_cases c : h < many ∧ 0 < n
        · rw [if_pos c, getD_set hl, if_pos rfl, mem_kadd]
          simp [c.1, or_assoc]
        · rw [if_neg c]
          have : ¬ h < many := fun z => c ⟨z, by rw [hn z]; omega⟩
          simp [this]
      have nN : Closed many (count (rows ++ [(Deed.take h f k, n)])) (aput b.ta (f, k) (h, n)) b.so (kupd ((bown many b.kn h n).getD h []) BB) := by
        have CK := ih.kn h
        refine ⟨fun h' s' z => ?_, fun h' s' t z h1 h2 => ?_, fun q h' s' o n' h1 h2 h3 h4 h5 h6 => ?_⟩
        · rcases (mN _).mp z with z | ⟨z1, z⟩ | z
          · exact (cl CK).low _ _ z
          · cases z; exact ⟨z1, by rw [hn z1]; omega, by rw [ch, hn z1]; exact Nat.le_refl _⟩
          · exact (cl hBo).low _ _ z
        · rw [mN]
          rcases (mN _).mp z with z | ⟨z1, z⟩ | z
          · exact .inl (CK.down _ _ _ z h1 h2)
          · cases z
            by_cases c : t = n
            · rw [c]; exact .inr (.inl ⟨z1, rfl⟩)
            · exact .inl (ih.own _ _ z1 h1 (by have := hn z1; omega))
          · exact .inr (.inr (hBo.down _ _ _ z h1 h2))
        · rw [mN]
          rcases mem_aput h1 with e | e
          · cases e
            have := ih.bor _ _ _ h3 h4 h5
            rw [hBB] at this
            exact .inr (.inr this)
          · rcases (mN _).mp h6 with z | ⟨z1, z⟩ | z
            · exact .inl (CK.caus _ _ _ _ _ e h2 h3 h4 h5 z)
            · cases z
              have := ih.ta _ _ _ e h2
              have := hn z1
              omega
            · exact .inr (.inr (hBo.caus _ _ _ _ _ e h2 h3 h4 h5 z))
      have hl' : h < (bown many b.kn h n).length := by rw [bown_len]; exact hl
      refine ⟨fun h' s' h1 h2 h3 => ?_, fun j => ?_, fun p hp => cl (ih.bo p hp), ih.bor, fun q h' s' h1 h2 => ?_⟩
      · show _ ∈ ((bown many b.kn h n).set h _).getD h' []
        rw [getD_set hl']
        by_cases c : h' = h
        · subst c
          rw [if_pos rfl, mN]
          rw [ch] at h3
          by_cases c2 : s' = n
          · subst c2; exact .inr (.inl ⟨h1, rfl⟩)
          · exact .inl (ih.own _ _ h1 h2 (by have := hn h1; omega))
        · rw [if_neg c]
          rw [cne h' c] at h3
          have := ih.own _ _ h1 h2 h3
          unfold bown
          split
          · rw [getD_set hl, if_neg c]; exact this
          · exact this
      · show Closed _ _ _ _ (((bown many b.kn h n).set h _).getD j [])
        rw [getD_set hl']
        by_cases c : j = h
        · rw [if_pos c]; exact nN
        · rw [if_neg c]
          have : (bown many b.kn h n).getD j [] = b.kn.getD j [] := by
            unfold bown
            split
            · rw [getD_set hl, if_neg c]
            · rfl
          rw [this]; exact cl (ih.kn j)
      · rcases mem_aput h1 with e | e
        · cases e
          rw [ch, hn h2]; exact Nat.le_refl _
        · exact Nat.le_trans (ih.ta _ _ _ e h2) (cm h')
end Lor
end

section
set_option Elab.async false
set_option linter.all false
set_option maxRecDepth 10000
set_option maxHeartbeats 1000000
/-! the plain law: cuts -/
namespace Lor
def topOf (S : List Nm) (h : Nat) : Nat := ((S.filter fun q => q.1 == h).map (·.2)).foldl max 0
theorem foldl_max_ge : ∀ (l : List Nat) (a : Nat), a ≤ l.foldl max a ∧ ∀ x ∈ l, x ≤ l.foldl max a
  | [], a => ⟨Nat.le_refl _, by simp⟩
  | b :: r, a => by
    obtain ⟨h1, h2⟩ := foldl_max_ge r (max a b)
    refine ⟨Nat.le_trans (Nat.le_max_left a b) h1, fun x hx => ?_⟩
    rcases List.mem_cons.mp hx with e | e
    · rw [e]; exact Nat.le_trans (Nat.le_max_right a b) h1
    · exact h2 x e
theorem foldl_max_mem : ∀ (l : List Nat) (a : Nat), l.foldl max a = a ∨ l.foldl max a ∈ l
  | [], a => .inl rfl
  | b :: r, a => by
    rcases foldl_max_mem r (max a b) with e | e
    · show r.foldl max (max a b) = a ∨ r.foldl max (max a b) ∈ b :: r
      rw [e]
      by_cases c : a ≤ b
      · rw [Nat.max_eq_right c]; exact .inr List.mem_cons_self
      · rw [Nat.max_eq_left (by omega)]; exact .inl rfl
    · exact .inr (List.mem_cons_of_mem _ e)
theorem topOf_ge {S : List Nm} {h s : Nat} (m : (h, s) ∈ S) : s ≤ topOf S h :=
  (foldl_max_ge _ _).2 s (List.mem_map.mpr ⟨(h, s), List.mem_filter.mpr ⟨m, by simp⟩, rfl⟩)
theorem topOf_mem (S : List Nm) (h : Nat) : topOf S h = 0 ∨ (h, topOf S h) ∈ S := by
  rcases foldl_max_mem ((S.filter fun q => q.1 == h).map (·.2)) 0 with e | e
  · exact .inl e
  · obtain ⟨⟨a, b⟩, hm, e2⟩ := List.mem_map.mp e
    obtain ⟨h1, h2⟩ := List.mem_filter.mp hm
    have : a = h := by simpa using h2
    subst this
    have e3 : b = topOf S a := e2
    rw [← e3]; exact .inr h1
theorem getD_rangeMap {α : Type} {m h : Nat} {f : Nat → α} {d : α} (hh : h < m) : ((List.range m).map f).getD h d = f h := by
  rw [List.getD_eq_getElem?_getD, List.getElem?_map, List.getElem?_range hh]; rfl
section
variable {many : Nat} {rows : List Row} {b : Bs} {S : List Nm}
theorem Closed.up_to {cnt : Nat → Nat} {ta so : List (Nm × Nm)} (C : Closed many cnt ta so S) {h s : Nat} (h1 : 1 ≤ s) (h2 : s ≤ topOf S h) : (h, s) ∈ S := by
  rcases topOf_mem S h with e | e
  · omega
  · exact C.down _ _ _ e h1 h2
theorem cut_of (K : KSh many rows b) (tai : ∀ p ∈ b.ta, p.2.1 < many → 1 ≤ p.2.2) (C : Closed many (count rows) b.ta b.so S) (up : Nat → Prop) [DecidablePred up] (hup : ∀ h, h < many → up h → ∀ x ∈ b.kn.getD h [], x ∈ S) :
    IsCutS many b.ta b.so ((List.range many).map fun h => if up h then count rows h else topOf S h) := by
  intro l h s o n hta hso hh hs ho
  rw [getD_rangeMap hh] at hs
  rw [getD_rangeMap ho]
  by_cases c : n = 0
  · subst c; exact Nat.zero_le _
  have h1 : 1 ≤ n := by omega
  have hs1 : 1 ≤ s := tai _ hta hh
  have mem : (o, n) ∈ S := by
    by_cases u : up h
    · exact hup h hh u _ ((K.kn h).caus _ _ _ _ _ hta hh hso ho h1 (K.own _ _ hh hs1 (K.ta _ _ _ hta hh)))
    · rw [if_neg u] at hs
      exact C.caus _ _ _ _ _ hta hh hso ho h1 (C.up_to hs1 hs)
  split
  · exact (C.low _ _ mem).2.2
  · exact topOf_ge mem
theorem mem_unknown {known : List Nm} {h first cnt s : Nat} : s ∈ unknown known h first cnt ↔ first ≤ s ∧ s ≤ cnt ∧ (h, s) ∉ known := by
  unfold unknown
  rw [List.mem_filter, List.mem_map, decide_eq_true_eq]
  constructor
  · rintro ⟨⟨a, ha, e⟩, hn⟩
    have := List.mem_range.mp ha
    exact ⟨by omega, by omega, hn⟩
  · rintro ⟨h1, h2, h3⟩
    exact ⟨⟨s - first, List.mem_range.mpr (by omega), by omega⟩, h3⟩
theorem kept_ge {st : TS} {l c : List Nat} {kn : Bool} (K : KSh many st.rows (bearing many st.rows)) (tai : ∀ p ∈ (bearing many st.rows).ta, p.2.1 < many → 1 ≤ p.2.2) (kept : Kept many st l kn c)
    (C : Closed many (count st.rows) (bearing many st.rows).ta (bearing many st.rows).so S) (up : Nat → Prop) [DecidablePred up] (hup : ∀ h, h < many → up h → h ∉ l ∧ ∀ x ∈ (bearing many st.rows).kn.getD h [], x ∈ S)
    (hS : ∀ h s, (h, s) ∈ S → h ∈ l → s ≤ st.wr.getD h 0 ∨ (h, s) ∈ knownBy (bearing many st.rows) many l kn) : ∀ h, h < many → (if up h then count st.rows h else topOf S h) ≤ c.getD h 0 := by
  obtain ⟨most, M, G⟩ := kept
  have le : ∀ h, h < many → (if up h then count st.rows h else topOf S h) ≤ most.getD h 0 := by
    intro h hh
    have tl : topOf S h ≤ count st.rows h := by
      rcases topOf_mem S h with e | e
      · omega
      · exact (C.low _ _ e).2.2
    by_cases hl : h ∈ l
    · have nu : ¬ up h := fun u => (hup h hh u).1 hl
      rw [if_neg nu]
      obtain ⟨d1, d2⟩ := M.down h hh hl
      by_cases e : unknown (knownBy (bearing many st.rows) many l kn) h (st.wr.getD h 0 + 1) (count st.rows h) = []
      · have := d1 e; omega
      · have := (mem_unknown.mp (d2 e).1)
        rcases Nat.lt_or_ge (most.getD h 0) (topOf S h) with z | z
        · have mem := C.up_to (h := h) (s := most.getD h 0 + 1) (by omega) z
          rcases hS _ _ mem hl with z2 | z2
          · omega
          · exact absurd z2 this.2.2
        · exact z
    · rw [M.up h hh hl]
      split
      · exact Nat.le_refl _
      · exact tl
  intro h hh
  have := G.top _ (fun h hh => by rw [getD_rangeMap hh]; exact le h hh) (cut_of K tai C up fun h hh u => (hup h hh u).2) h hh
  rwa [getD_rangeMap hh] at this
theorem mem_knownBy (l : List Nat) (x : Nm) : ∀ many, x ∈ (List.range many).foldl (fun ks h => if true = true ∧ h ∉ l then kupd ks (b.kn.getD h []) else ks) [] ↔ ∃ h, h < many ∧ h ∉ l ∧ x ∈ b.kn.getD h []
  | 0 => by simp
  | m + 1 => by
    rw [List.range_succ, List.foldl_append, List.foldl_cons, List.foldl_nil]
    by_cases c : m ∉ l
    · rw [if_pos ⟨rfl, c⟩, mem_kupd, mem_knownBy l x m]
      constructor
      · rintro (⟨h, a, e⟩ | e)
        · exact ⟨h, by omega, e⟩
        · exact ⟨m, by omega, c, e⟩
      · rintro ⟨h, a, a2, e⟩
        by_cases z : h = m
        · rw [z] at e; exact .inr e
        · exact .inl ⟨h, by omega, a2, e⟩
    · rw [if_neg fun z => c z.2, mem_knownBy l x m]
      constructor
      · rintro ⟨h, a, e⟩; exact ⟨h, by omega, e⟩
      · rintro ⟨h, a, a2, e⟩
        by_cases z : h = m
        · rw [z] at a2; exact absurd a2 c
        · exact ⟨h, by omega, a2, e⟩
theorem mem_known {l : List Nat} {x : Nm} : x ∈ knownBy b many l true ↔ ∃ h, h < many ∧ h ∉ l ∧ x ∈ b.kn.getD h [] := mem_knownBy l x many
theorem known_false (l : List Nat) : knownBy b many l false = [] := by
  unfold knownBy
  have : ∀ (r : List Nat), r.foldl (fun ks h => if false = true ∧ h ∉ l then kupd ks (b.kn.getD h []) else ks) ([] : List Nm) = [] := by
    intro r
    induction r with
    | nil => rfl
    | cons a r ih =>
      rw [List.foldl_cons, if_neg (by simp)]; exact ih
  exact this _
theorem closed_known (K : KSh many rows b) (l : List Nat) (kn : Bool) : Closed many (count rows) b.ta b.so (knownBy b many l kn) := by
  cases kn with
  | false => rw [known_false]; exact .nil
  | true =>
    refine ⟨fun h s z => ?_, fun h s t z h1 h2 => ?_, fun q h s o n h1 h2 h3 h4 h5 z => ?_⟩
    · obtain ⟨j, _, _, e⟩ := mem_known.mp z
      exact (K.kn j).low _ _ e
    · obtain ⟨j, a, a2, e⟩ := mem_known.mp z
      exact mem_known.mpr ⟨j, a, a2, (K.kn j).down _ _ _ e h1 h2⟩
    · obtain ⟨j, a, a2, e⟩ := mem_known.mp z
      exact mem_known.mpr ⟨j, a, a2, (K.kn j).caus _ _ _ _ _ h1 h2 h3 h4 h5 e⟩
theorem minD_uniq {ns : List Nat} {d m m' : Nat} (h : IsMinD ns d m) (h' : IsMinD ns d m') : m = m' := by
  by_cases e : ns = []
  · rw [h.1 e, h'.1 e]
  · obtain ⟨a, b⟩ := h.2 e
    obtain ⟨a', b'⟩ := h'.2 e
    exact Nat.le_antisymm (b _ a') (b' _ a)
theorem ext_len {m : Nat} {c c' : List Nat} (h1 : c.length = m) (h2 : c'.length = m) (h : ∀ i, i < m → c.getD i 0 = c'.getD i 0) : c = c' := by
  refine List.ext_getElem (h1.trans h2.symm) fun i a b => ?_
  have := h i (by omega)
  rwa [List.getD_eq_getElem?_getD, List.getD_eq_getElem?_getD, List.getElem?_eq_getElem a, List.getElem?_eq_getElem b] at this
theorem great_uniq {ta so : List (Nm × Nm)} {most c c' : List Nat} (g : Great many ta so most c) (g' : Great many ta so most c') : c = c' :=
  ext_len g.len g'.len fun i hi => Nat.le_antisymm (g'.top c g.under g.cut i hi) (g.top c' g'.under g'.cut i hi)
theorem most_uniq {wr : List Nat} {l : List Nat} {kn kn' : Bool} {m m' : List Nat} (e : knownBy b many l kn = knownBy b many l kn') (h : Most b rows wr many l kn m) (h' : Most b rows wr many l kn' m') : m = m' :=
  ext_len h.len h'.len fun i hi => by
    by_cases c : i ∈ l
    · have h1 := h.down i hi c
      have h2 := h'.down i hi c
      rw [e] at h1
      have := minD_uniq h1 h2
      omega
    · rw [h.up i hi c, h'.up i hi c]
theorem kept_uniq {st : TS} {l c c' : List Nat} {kn kn' : Bool} (e : knownBy (bearing many st.rows) many l kn = knownBy (bearing many st.rows) many l kn') (h : Kept many st l kn c) (h' : Kept many st l kn' c') : c = c' := by
  obtain ⟨m, M, G⟩ := h
  obtain ⟨m', M', G'⟩ := h'
  rw [most_uniq e M M'] at G
  exact great_uniq G G'
theorem kept_len {st : TS} {l c : List Nat} {kn : Bool} (h : Kept many st l kn c) : c.length = many := let ⟨_, _, G⟩ := h; G.len
theorem kept_cnt {st : TS} {l c : List Nat} {kn : Bool} (h : Kept many st l kn c) : ∀ h, h < many → c.getD h 0 ≤ count st.rows h := by
  obtain ⟨m, M, G⟩ := h
  intro h hh
  refine Nat.le_trans (G.under h hh) ?_
  by_cases c : h ∈ l
  · obtain ⟨d1, d2⟩ := M.down h hh c
    by_cases e : unknown (knownBy (bearing many st.rows) many l kn) h (st.wr.getD h 0 + 1) (count st.rows h) = []
    · have := d1 e; omega
    · have := (mem_unknown.mp (d2 e).1).2.1; omega
  · rw [M.up h hh c]; exact Nat.le_refl _
theorem kept_less {st : TS} {l c1 c2 : List Nat} (h1 : Kept many st l false c1) (h2 : Kept many st l true c2) : ∀ h, h < many → c1.getD h 0 ≤ c2.getD h 0 := by
  obtain ⟨m1, M1, G1⟩ := h1
  obtain ⟨m2, M2, G2⟩ := h2
  refine G2.top c1 (fun h hh => Nat.le_trans (G1.under h hh) ?_) G1.cut
  by_cases c : h ∈ l
  · obtain ⟨d1, d2⟩ := M1.down h hh c
    obtain ⟨e1, e2⟩ := M2.down h hh c
    rw [known_false] at d1 d2
    have sub : ∀ x, x ∈ unknown (knownBy (bearing many st.rows) many l true) h (st.wr.getD h 0 + 1) (count st.rows h) → x ∈ unknown [] h (st.wr.getD h 0 + 1) (count st.rows h) := fun x hx => by
      obtain ⟨a, a2, _⟩ := mem_unknown.mp hx
      exact mem_unknown.mpr ⟨a, a2, by simp⟩
    by_cases e : unknown (knownBy (bearing many st.rows) many l true) h (st.wr.getD h 0 + 1) (count st.rows h) = []
    · have := e1 e
      by_cases f : unknown [] h (st.wr.getD h 0 + 1) (count st.rows h) = []
      · have := d1 f; omega
      · have := (mem_unknown.mp (d2 f).1).2.1; omega
    · obtain ⟨a, _⟩ := e2 e
      have a' := sub _ a
      have f : unknown [] h (st.wr.getD h 0 + 1) (count st.rows h) ≠ [] := fun z => by rw [z] at a'; cases a'
      have := (d2 f).2 _ a'
      omega
  · rw [M1.up h hh c, M2.up h hh c]; exact Nat.le_refl _
theorem kept_safe {st : TS} {l c : List Nat} (K : KSh many st.rows (bearing many st.rows)) (tai : ∀ p ∈ (bearing many st.rows).ta, p.2.1 < many → 1 ≤ p.2.2) (kept : Kept many st l true c) : ∀ h, h < many → h ∉ l → c.getD h 0 = count st.rows h := by
  intro h hh hl
  have := kept_ge K tai kept (closed_known K l true) (fun h => h ∉ l) (fun h hh u => ⟨u, fun x hx => mem_known.mpr ⟨h, hh, u, hx⟩⟩) (fun h s a _ => .inr a) h hh
  rw [if_pos hl] at this
  exact Nat.le_antisymm (kept_cnt kept h hh) this
end
/-- a lot of all hands -/
theorem lot_all {many : Nat} {l : List Nat} (ok : LotOk many l) (e : l.length = many) : ∀ h, h < many → h ∈ l := by
  have key : ∀ (l : List Nat) (lo : Nat), l.Pairwise (· < ·) → (∀ x ∈ l, lo ≤ x ∧ x < lo + l.length) → ∀ h, lo ≤ h → h < lo + l.length → h ∈ l := by
    intro l
    induction l with
    | nil => intro lo _ _ h a b; simp at b; omega
    | cons a r ih =>
      intro lo hp hb h h1 h2
      obtain ⟨p1, p2⟩ := List.pairwise_cons.mp hp
      have ha : a = lo := by
        have := hb a List.mem_cons_self
        rcases Nat.lt_or_ge lo a with z | z
        · exfalso
          -- elements of r are > a > lo, all below lo + len: too many
          have : ∀ (r : List Nat) (x : Nat), r.Pairwise (· < ·) → (∀ y ∈ r, x < y) → ∀ top, (∀ y ∈ r, y < top) → x < top → x + r.length < top := by
            intro r
            induction r with
            | nil => intro x _ _ top _ hx; simpa using hx
            | cons y r ih2 =>
              intro x hp hy top ht hx
              obtain ⟨q1, q2⟩ := List.pairwise_cons.mp hp
              have := ih2 y q2 q1 top (fun z hz => ht z (List.mem_cons_of_mem _ hz)) (ht y List.mem_cons_self)
              have := hy y List.mem_cons_self
              simp; omega
          have := this r a p2 p1 (lo + (a :: r).length) (fun y hy => (hb y (List.mem_cons_of_mem _ hy)).2) (hb a List.mem_cons_self).2
          simp at this; omega
        · omega
      subst ha
      by_cases c : h = a
      · rw [c]; exact List.mem_cons_self
      · refine List.mem_cons_of_mem _ (ih (a + 1) p2 (fun x hx => ?_) h (by omega) (by simp at h2; omega))
        have := p1 x hx
        have := (hb x (List.mem_cons_of_mem _ hx)).2
        simp at this; omega
  intro h hh
  exact key l 0 ok.up (fun x hx => ⟨Nat.zero_le _, by have := ok.low x hx; omega⟩) h (Nat.zero_le _) (by omega)
theorem kept_all {many : Nat} {st : TS} {l c1 c2 : List Nat} (ok : LotOk many l) (e : l.length = many) (h1 : Kept many st l false c1) (h2 : Kept many st l true c2) : c1 = c2 := by
  refine kept_uniq ?_ h1 h2
  rw [known_false]
  refine (List.eq_nil_iff_forall_not_mem.mpr fun x hx => ?_).symm
  obtain ⟨h, a, b, _⟩ := mem_known.mp hx
  exact b (lot_all ok e h a)
end Lor
end

section
set_option Elab.async false
set_option linter.all false
set_option maxRecDepth 10000
set_option maxHeartbeats 1000000
/-! the plain law: rows behind a fall -/
namespace Lor
abbrev RowLe (many : Nat) (a b : Row) : Prop := a.1.hand = b.1.hand → a.1.hand < many → a.2 ≤ b.2
structure Srt (many : Nat) (rows : List Row) : Prop where
  pw : rows.Pairwise (RowLe many)
  le : ∀ r ∈ rows, r.1.hand < many → r.2 ≤ count rows r.1.hand
  taken : ∀ h f k s, (.take h f k, s) ∈ rows → aget (bearing many rows).ta (f, k) = some (h, s)
theorem Hs.srt {many : Nat} {rows : List Row} (H : Hs many rows) : Srt many rows := by
  induction H with
  | nil => exact ⟨.nil, by simp, by simp⟩
  | @snoc rows r H s ih =>
    have cm : ∀ h, count rows h ≤ count (rows ++ [r]) h := fun h => by rw [count_snoc]; exact Nat.le_add_right _ _
    refine ⟨?_, fun x hx hh => ?_, fun h f k n hm => ?_⟩
    · refine List.pairwise_append.mpr ⟨ih.pw, List.pairwise_singleton _ _, fun a ha b hb => ?_⟩
      rw [List.mem_singleton] at hb
      subst hb
      intro e1 e2
      have := ih.le a ha e2
      have := s.low (e1 ▸ e2)
      rw [e1] at *
      omega
    · rcases List.mem_append.mp hx with e | e
      · exact Nat.le_trans (ih.le x e hh) (cm _)
      · rw [List.mem_singleton] at e
        subst e
        rw [count_snoc, s.low hh]; exact Nat.le_refl _
    · rw [bearing_snoc]
      have old : (.take h f k, n) ∈ rows → aget (bearing many rows).ta (f, k) = some (h, n) := ih.taken h f k n
      have L := H.lsh
      have stk := s.tk
      generalize bearing many rows = b at *
      obtain ⟨d, m⟩ := r
      rcases List.mem_append.mp hm with e | e
      · have o := old e
        cases d with
        | take h' f' k' =>
          show aget (aput b.ta (f', k') (h', m)) (f, k) = _
          by_cases c : (f, k) = (f', k')
          · obtain ⟨w, hw⟩ := stk h' f' k' rfl
            have := L.tk _ _ hw
            rw [← c] at this
            unfold ahas at this
            rw [o] at this; cases this
          · rw [aget_aput_ne c]; exact o
        | _ => exact o
      · rw [List.mem_singleton] at e
        cases e
        show aget (aput b.ta (f, k) (h, n)) (f, k) = _
        rw [aget_aput_same]
theorem sendsOf_append (a b : List Row) (f : Nat) : sendsOf (a ++ b) f = sendsOf a f ++ sendsOf b f := by
  unfold sendsOf; rw [List.filter_append, List.map_append]
theorem isSend_hand {f : Nat} {r : Row} (h : isSend f r = true) : r.1.hand = f := by
  obtain ⟨d, n⟩ := r
  cases d with
  | send h' to => simpa [isSend, Deed.hand] using h
  | _ => simp [isSend] at h
theorem sends_keep_many {many : Nat} {c : List Nat} : ∀ X : List Row, sendsOf (X.filter (keepRow many c)) many = sendsOf X many
  | [] => rfl
  | r :: X => by
    have ih := sends_keep_many (many := many) (c := c) X
    have e1 : ∀ Y, sendsOf (r :: Y) many = (if isSend many r = true then [r.2] else []) ++ sendsOf Y many := fun Y => by
      unfold sendsOf
      by_cases c : isSend many r = true <;> simp [c]
    rw [e1]
    by_cases d : keepRow many c r = true
    · rw [List.filter_cons_of_pos d, e1, ih]
    · rw [List.filter_cons_of_neg d, ih]
      have : isSend many r = false := by
        cases e : isSend many r with
        | false => rfl
        | true => exact absurd (by unfold keepRow; rw [isSend_hand e]; simp) d
      rw [this]; simp
theorem sends_keep_low {many f : Nat} {c : List Nat} (hf : f < many) : ∀ X : List Row, sendsOf (X.filter (keepRow many c)) f = (sendsOf X f).filter fun n => decide (n ≤ c.getD f 0)
  | [] => rfl
  | r :: X => by
    have ih := sends_keep_low (c := c) hf X
    have e1 : ∀ Y, sendsOf (r :: Y) f = (if isSend f r = true then [r.2] else []) ++ sendsOf Y f := fun Y => by
      unfold sendsOf
      by_cases c : isSend f r = true <;> simp [c]
    rw [e1, List.filter_append, ← ih]
    by_cases s : isSend f r = true
    · have hk : keepRow many c r = decide (r.2 ≤ c.getD f 0) := by
        unfold keepRow
        rw [isSend_hand s, decide_eq_false (Nat.ne_of_lt hf), Bool.false_or]
      rw [s, if_pos rfl]
      generalize c.getD f 0 = cf at *
      by_cases d : r.2 ≤ cf
      · rw [List.filter_cons_of_pos (by rw [hk]; exact decide_eq_true d), e1, s, if_pos rfl]
        simp [d]
      · rw [List.filter_cons_of_neg (by rw [hk]; simpa using d)]
        simp [d]
    · rw [if_neg s]
      by_cases d : keepRow many c r = true
      · rw [List.filter_cons_of_pos d, e1, if_neg s]; rfl
      · rw [List.filter_cons_of_neg d]; rfl
theorem filter_len_of {L : List Nat} {k c n : Nat} (hs : L.Pairwise (· ≤ ·)) (hk : L[k]? = some n) (hn : n ≤ c) : k < (L.filter fun x => decide (x ≤ c)).length := by
  have hkl : k < L.length := by
    rcases Nat.lt_or_ge k L.length with z | z
    · exact z
    · rw [List.getElem?_eq_none z] at hk; cases hk
  have e : L = L.take (k + 1) ++ L.drop (k + 1) := (List.take_append_drop _ _).symm
  have all : ∀ x ∈ L.take (k + 1), decide (x ≤ c) = true := by
    intro x hx
    rw [decide_eq_true_eq]
    rw [take_snoc' hk] at hx
    have hp : (L.take k ++ [n]).Pairwise (· ≤ ·) := by rw [← take_snoc' hk]; exact hs.sublist (List.take_sublist _ _)
    rcases List.mem_append.mp hx with z | z
    · exact Nat.le_trans ((List.pairwise_append.mp hp).2.2 x z n (by simp)) hn
    · rw [List.mem_singleton] at z; omega
  rw [e, List.filter_append, List.filter_eq_self.mpr all, List.length_append, List.length_take]
  omega
theorem sends_sorted {many f : Nat} {X : List Row} (hf : f < many) (h : X.Pairwise (RowLe many)) : (sendsOf X f).Pairwise (· ≤ ·) := by
  unfold sendsOf
  rw [List.pairwise_map]
  have h1 : (X.filter (isSend f)).Pairwise (RowLe many) := h.sublist List.filter_sublist
  refine h1.imp_of_mem fun {a b} ha hb r => ?_
  have e1 := isSend_hand (List.mem_filter.mp ha).2
  have e2 := isSend_hand (List.mem_filter.mp hb).2
  exact r (e1.trans e2.symm) (by rw [e1]; exact hf)
/-- what is told is written -/
def ToldWr (many : Nat) (rows : List Row) (wr : List Nat) : Prop := ∀ f k s, (.take many f k, s) ∈ rows → allWritten wr ((aget (bearing many rows).bo (f, k)).getD []) = true
theorem kept_told {many : Nat} {st : TS} {l c : List Nat} {kn : Bool} (H : Hs many st.rows) (kept : Kept many st l kn c) {q : Nm} (w : allWritten st.wr ((aget (bearing many st.rows).bo q).getD []) = true) {o n : Nat} (so : aget (bearing many st.rows).so q = some (o, n)) (ho : o < many) : n ≤ c.getD o 0 := by
  by_cases z : n = 0
  · rw [z]; exact Nat.zero_le _
  have K := H.ksh
  have mem := K.bor q o n so ho (by omega)
  have C : Closed many (count st.rows) (bearing many st.rows).ta (bearing many st.rows).so ((aget (bearing many st.rows).bo q).getD []) := by
    cases e : aget (bearing many st.rows).bo q with
    | none => exact .nil
    | some S => exact K.bo _ (aget_mem e)
  have := kept_ge K (fun p hp => (ta_inv H.valid p hp).2) kept C (fun _ => False) (fun _ _ z => z.elim) (fun h s hm _ => .inl (by
    unfold allWritten at w
    rw [List.all_eq_true] at w
    simpa using w _ hm)) o ho
  rw [if_neg (fun z => z)] at this
  exact Nat.le_trans (topOf_ge mem) this
theorem fall_valid {many : Nat} {st : TS} {l c : List Nat} {kn : Bool} (H : Hs many st.rows) (tw : ToldWr many st.rows st.wr) (kept : Kept many st l kn c) : Valid many (fallS many st c).rows := by
  have v := H.valid
  have S := H.srt
  have L := H.lsh
  obtain ⟨most, M, G⟩ := kept
  have key : ∀ i, i ≤ st.rows.length → Valid many ((st.rows.take i).filter (keepRow many c)) := by
    intro i
    induction i with
    | zero => intro _ i r h; simp at h
    | succ i ih =>
      intro hi
      have e : st.rows[i]? = some st.rows[i] := List.getElem?_eq_getElem hi
      have ih := ih (Nat.le_of_lt hi)
      have ok := v i _ e
      have hmem : st.rows[i] ∈ st.rows := List.getElem_mem hi
      rw [take_snoc' e, List.filter_append]
      generalize st.rows[i] = r at *
      by_cases d : keepRow many c r = true
      · rw [List.filter_cons_of_pos d]
        refine valid_snoc ih ⟨ok.hand, ok.step, ok.own, ok.send, fun h f k hr => ?_⟩
        obtain ⟨hf, h1, hx⟩ := ok.take h f k hr
        refine ⟨hf, h1, ?_⟩
        have hkl : k < (sendsOf (st.rows.take i) f).length := by
          obtain ⟨x, hx⟩ := hx
          exact (((gsh_take v i (Nat.le_of_lt hi)).ls f k).mp (by unfold ahas; rw [hx]; rfl)).2
        have goal : k < (sendsOf ((st.rows.take i).filter (keepRow many c)) f).length := by
          by_cases z : f = many
          · subst z; rw [sends_keep_many]; exact hkl
          · have hlt : f < many := by omega
            rw [sends_keep_low hlt]
            have hn : (sendsOf (st.rows.take i) f)[k]? = some (sendsOf (st.rows.take i) f)[k] := List.getElem?_eq_getElem hkl
            generalize (sendsOf (st.rows.take i) f)[k] = n at hn
            refine filter_len_of (sends_sorted hlt (S.pw.sublist (List.take_sublist _ _))) hn ?_
            have hso : aget (bearing many st.rows).so (f, k) = some (f, n) := by
              rw [L.so]
              have : st.rows = st.rows.take i ++ st.rows.drop i := (List.take_append_drop _ _).symm
              rw [this, sendsOf_append, List.getElem?_append_left hkl, hn]; rfl
            obtain ⟨dd, s⟩ := r
            cases hr
            have hta := S.taken h f k s hmem
            by_cases y : h = many
            · subst y
              exact kept_told H ⟨most, M, G⟩ (tw f k s hmem) hso hlt
            · have hh : h < many := by have : h ≤ many := ok.hand; omega
              refine G.cut (f, k) h s f n (aget_mem hta) hso hh ?_ hlt
              unfold keepRow at d
              rw [Bool.or_eq_true, decide_eq_true_eq, decide_eq_true_eq] at d
              rcases d with d | d
              · exact absurd d y
              · exact d
        have := ((gsh ih).ls f k).mpr ⟨hf, goal⟩
        exact Option.isSome_iff_exists.mp this
      · rw [List.filter_cons_of_neg d, List.filter_nil, List.append_nil]
        exact ih
  have := key st.rows.length (Nat.le_refl _)
  rwa [List.take_length] at this
/-- sorted rows: a filter by steps is a prefix -/
theorem filter_pre {X : List Row} (h : X.Pairwise fun a b => a.2 ≤ b.2) (c : Nat) : ∃ n, (X.filter fun r => decide (r.2 ≤ c)) = X.take n := by
  induction X with
  | nil => exact ⟨0, rfl⟩
  | cons a r ih =>
    obtain ⟨h1, h2⟩ := List.pairwise_cons.mp h
    by_cases d : a.2 ≤ c
    · obtain ⟨n, e⟩ := ih h2
      exact ⟨n + 1, by rw [List.filter_cons_of_pos (by simpa using d), e]; rfl⟩
    · refine ⟨0, ?_⟩
      rw [List.filter_cons_of_neg (by simpa using d), List.take_zero, List.filter_eq_nil_iff]
      intro x hx
      have := h1 x hx
      simp; omega
theorem ownD_rows (rows : List Row) (h : Nat) : ownD rows h = (rows.filter fun r => decide (r.1.hand = h)).map (·.1) := by
  unfold ownD
  rw [List.filter_map]; rfl
theorem ownD_keep {many h : Nat} {c : List Nat} (hh : h < many) (rows : List Row) : ownD (rows.filter (keepRow many c)) h = (((rows.filter fun r => decide (r.1.hand = h)).filter fun r => decide (r.2 ≤ c.getD h 0))).map (·.1) := by
  rw [ownD_rows, List.filter_filter, List.filter_filter]
  congr 1
  refine List.filter_congr fun r _ => ?_
  by_cases e : r.1.hand = h
  · subst e
    simp [keepRow, Nat.ne_of_lt hh]
  · simp [e]
theorem ownD_pre {many h : Nat} {c1 c2 : List Nat} {rows : List Row} (hh : h < many) (s : rows.Pairwise (RowLe many)) (hc : c1.getD h 0 ≤ c2.getD h 0) :
    (ownD (rows.filter (keepRow many c2)) h).take (ownD (rows.filter (keepRow many c1)) h).length = ownD (rows.filter (keepRow many c1)) h := by
  rw [ownD_keep hh, ownD_keep hh]
  have s' : (rows.filter fun r => decide (r.1.hand = h)).Pairwise fun a b => a.2 ≤ b.2 := by
    have h1 : (rows.filter fun r => decide (r.1.hand = h)).Pairwise (RowLe many) := s.sublist List.filter_sublist
    refine h1.imp_of_mem fun {a b} ha hb r => ?_
    have e1 : a.1.hand = h := by simpa using (List.mem_filter.mp ha).2
    have e2 : b.1.hand = h := by simpa using (List.mem_filter.mp hb).2
    exact r (e1.trans e2.symm) (by rw [e1]; exact hh)
  generalize (rows.filter fun r => decide (r.1.hand = h)) = X at *
  have s2 : (X.filter fun r => decide (r.2 ≤ c2.getD h 0)).Pairwise fun a b => a.2 ≤ b.2 := s'.sublist List.filter_sublist
  obtain ⟨n, e⟩ := filter_pre s2 (c1.getD h 0)
  rw [List.filter_filter] at e
  have e' : (X.filter fun r => decide (r.2 ≤ c1.getD h 0)) = (X.filter fun r => decide (r.2 ≤ c2.getD h 0)).take n := by
    rw [← e]
    refine List.filter_congr fun r _ => ?_
    generalize c1.getD h 0 = d1 at *
    generalize c2.getD h 0 = d2 at *
    by_cases z : r.2 ≤ d1
    · have : r.2 ≤ d2 := Nat.le_trans z hc
      simp [z, this]
    · simp [z]
  rw [e', List.length_map, ← List.map_take, List.length_take]
  congr 1
  rw [List.take_eq_take_iff]
  omega
end Lor
end

section
set_option Elab.async false
set_option linter.all false
set_option maxRecDepth 10000
set_option maxHeartbeats 1000000
/-! the plain law: deeds and tells keep a history whole -/
namespace Lor
theorem gstep_take {g : Gs} {h f k : Nat} {l : Ltr} (e : aget g.ls (f, k) = some l) : gstep g (.take h f k) = { g with ls := aput g.ls (f, k) ⟨l.to, l.wo, true⟩, wo := g.wo.set h ((3 * g.wo.getD h 0 + l.wo + 1) % 1000) } := by
  show (match aget g.ls (f, k) with | some l => _ | none => g : Gs) = _
  rw [e]
def Tellable (many : Nat) (rows : List Row) (q : Nm) : Prop := ∃ l, aget (going (many + 1) rows).ls q = some l ∧ l.to = many ∧ l.tk = false
theorem stepOk_tell {many : Nat} {rows : List Row} {q : Nm} (H : Hs many rows) (w : Tellable many rows q) : StepOk many rows (tkRow many q) := by
  obtain ⟨⟨to, wo, tk⟩, e, e1, e2⟩ := w
  replace e1 : to = many := e1
  replace e2 : tk = false := e2
  subst e1 e2
  obtain ⟨f, k⟩ := q
  have G := gsh H.valid
  have hf := ((G.ls f k).mp (by unfold ahas; rw [e]; rfl)).1
  refine ⟨⟨Nat.le_refl _, Nat.zero_le _, ?_, ?_, ?_⟩, fun z => absurd z (Nat.lt_irrefl _), fun _ => rfl, ?_, ?_⟩
  · intro h x z; cases z
  · intro h x z; cases z
  · intro h f' k' z
    cases z
    exact ⟨hf, fun z => absurd z (Nat.lt_irrefl _), _, e⟩
  · intro h x z; cases z
  · intro h f' k' z
    cases z
    exact ⟨wo, e⟩
theorem hs_tells {many : Nat} : ∀ (T : List Nm) {rows : List Row}, Hs many rows → T.Nodup → (∀ q ∈ T, Tellable many rows q) → Hs many (rows ++ T.map (tkRow many))
  | [], rows, H, _, _ => by simpa using H
  | q :: T, rows, H, nd, way => by
    obtain ⟨n1, n2⟩ := List.nodup_cons.mp nd
    have H' := H.snoc (stepOk_tell H (way q List.mem_cons_self))
    have e : rows ++ (q :: T).map (tkRow many) = (rows ++ [tkRow many q]) ++ T.map (tkRow many) := by simp
    rw [e]
    refine hs_tells T H' n2 fun q' hq' => ?_
    obtain ⟨l, e1, e2, e3⟩ := way q' (List.mem_cons_of_mem _ hq')
    obtain ⟨l0, f1, f2, f3⟩ := way q List.mem_cons_self
    refine ⟨l, ?_, e2, e3⟩
    rw [going_snoc']
    show aget (gstep _ (.take many q.1 q.2)).ls q' = _
    rw [gstep_take (show aget _ (q.1, q.2) = some l0 from f1)]
    show aget (aput _ (q.1, q.2) _) q' = _
    rw [aget_aput_ne fun z => n1 (by rw [z] at hq'; exact hq')]
    exact e1
theorem hs_sends {many h s : Nat} (hh : h < many) (hs : s ≤ 33) : ∀ (ts : List Nat) {rows : List Row}, Hs many rows → s = count rows h → (∀ t ∈ ts, t ≤ many ∧ t ≠ h) → Hs many (rows ++ ts.map fun to => (.send h to, s))
  | [], rows, H, _, _ => by simpa using H
  | t :: ts, rows, H, e, ok => by
    have H' : Hs many (rows ++ [(.send h t, s)]) := H.snoc ⟨⟨Nat.le_of_lt hh, hs, (fun _ _ z => by cases z), (fun _ _ z => by cases z; exact (ok t List.mem_cons_self).1), (fun _ _ _ z => by cases z)⟩,
      fun _ => by rw [e]; rfl, fun z => absurd hh (by have : h = many := z; omega), (fun _ _ z => by cases z; exact (ok t List.mem_cons_self).2), (fun _ _ _ z => by cases z)⟩
    have e2 : rows ++ (t :: ts).map (fun to => ((.send h to, s) : Row)) = (rows ++ [(.send h t, s)]) ++ ts.map fun to => (.send h to, s) := by simp
    rw [e2]
    exact hs_sends hh hs ts H' (by rw [e]; exact (count_same rfl).symm) fun t' ht => ok t' (List.mem_cons_of_mem _ ht)
theorem targets_mem {tabs : Tabs} {rows : List Row} {h : Nat} (ok : TabsOk tabs) : (targets tabs rows h).length ≤ 3 ∧ ∀ t ∈ targets tabs rows h, t ≤ tabs.length ∧ t ≠ h := by
  unfold targets
  cases e : tabs[h]? with
  | none =>
    have : tabs.getD h [] = [] := by rw [List.getD_eq_getElem?_getD, e]; rfl
    rw [this]
    simp
  | some own =>
    have : tabs.getD h [] = own := by rw [List.getD_eq_getElem?_getD, e]; rfl
    rw [this]
    obtain ⟨a, _, b⟩ := ok.own h own e
    have := b _ (mem_getD (d := []) (Nat.mod_lt ((going (tabs.length + 1) rows).wo.getD h 0) (by omega)))
    exact ⟨this.1, this.2⟩
theorem hs_does {tabs : Tabs} {al : Bool} {st st' : TS} {td : TD} (ok : TabsOk tabs) (H : Hs tabs.length st.rows) (c : ∀ h, h < tabs.length → count st.rows h ≤ 32) (d : LDraw tabs.length st.rows st.wr td) (e : Does tabs al st td st') : Hs tabs.length st'.rows := by
  cases e with
  | put h x =>
    have H1 : Hs tabs.length (st.rows ++ [(.own tabs.length x, 0)]) := H.snoc ⟨⟨Nat.le_refl _, Nat.zero_le _, (fun _ _ z => by cases z; rfl), (fun _ _ z => by cases z), (fun _ _ _ z => by cases z)⟩,
      (fun z => absurd z (Nat.lt_irrefl _)), (fun _ => rfl), (fun _ _ z => by cases z), (fun _ _ _ z => by cases z)⟩
    have H2 : Hs tabs.length ((st.rows ++ [(.own tabs.length x, 0)]) ++ [(.send tabs.length h, 0)]) := H1.snoc ⟨⟨Nat.le_refl _, Nat.zero_le _, (fun _ _ z => by cases z), (fun _ _ z => by cases z; exact Nat.le_of_lt d.1), (fun _ _ _ z => by cases z)⟩,
      (fun z => absurd z (Nat.lt_irrefl _)), (fun _ => rfl), (fun _ _ z => by cases z; exact Nat.ne_of_lt d.1), (fun _ _ _ z => by cases z)⟩
    have e2 : st.rows ++ [(.own tabs.length x, 0), (.send tabs.length h, 0)] = (st.rows ++ [(.own tabs.length x, 0)]) ++ [(.send tabs.length h, 0)] := by simp
    show Hs _ (st.rows ++ [(.own tabs.length x, 0), (.send tabs.length h, 0)])
    rw [e2]; exact H2
  | step h f k =>
    obtain ⟨hh, wo, hl⟩ := d
    have hf := (((gsh H.valid).ls f k).mp (by unfold ahas; rw [hl]; rfl)).1
    have hc := c h hh
    have H1 : Hs tabs.length (st.rows ++ [(.take h f k, count st.rows h + 1)]) := H.snoc ⟨⟨Nat.le_of_lt hh, Nat.succ_le_succ hc, (fun _ _ z => by cases z), (fun _ _ z => by cases z), (fun _ _ _ z => by cases z; exact ⟨hf, fun _ => Nat.succ_le_succ (Nat.zero_le _), _, hl⟩)⟩,
      (fun z => by simp [isTake, Deed.hand]), (fun z => absurd hh (by have : h = tabs.length := z; omega)), (fun _ _ z => by cases z), (fun _ _ _ z => by cases z; exact ⟨wo, hl⟩)⟩
    have c1 : count (st.rows ++ [(.take h f k, count st.rows h + 1)]) h = count st.rows h + 1 := by rw [count_snoc]; simp [isTake]
    exact hs_sends hh (by rw [c1]; omega) _ H1 rfl (targets_mem ok).2
  | write h => exact H
  | keep h =>
    have hh : h < tabs.length := d
    have hc := c h hh
    exact H.snoc ⟨⟨Nat.le_of_lt hh, Nat.le_trans hc (by decide), (fun _ _ z => by cases z), (fun _ _ z => by cases z), (fun _ _ _ z => by cases z)⟩,
      (fun z => rfl), (fun z => absurd hh (by have : h = tabs.length := z; omega)), (fun _ _ z => by cases z), (fun _ _ _ z => by cases z)⟩
  | fall l c hk => exact absurd d (fun z => z)
/-! ### letters to the outside -/
def isOut (many : Nat) (r : Row) : Bool := match r.1 with
  | .send _ to => to == many
  | _ => false
def nOut (many : Nat) (rows : List Row) : Nat := (rows.filter (isOut many)).length
theorem nOut_append (many : Nat) (a b : List Row) : nOut many (a ++ b) = nOut many a + nOut many b := by
  unfold nOut; rw [List.filter_append, List.length_append]
theorem nodup_len {α : Type} [DecidableEq α] : ∀ (T S : List α), T.Nodup → (∀ x ∈ T, x ∈ S) → T.length ≤ S.length
  | [], _, _, _ => Nat.zero_le _
  | a :: T, S, nd, sub => by
    obtain ⟨n1, n2⟩ := List.nodup_cons.mp nd
    have ha := sub a List.mem_cons_self
    have := nodup_len T (S.erase a) n2 fun x hx => (List.mem_erase_of_ne fun z => n1 (by rw [← z]; exact hx)).mpr (sub x (List.mem_cons_of_mem _ hx))
    rw [List.length_erase_of_mem ha] at this
    have : 1 ≤ S.length := List.length_pos_of_mem ha
    show T.length + 1 ≤ _
    omega
theorem outs_take {many : Nat} {rows : List Row} (v : Valid many rows) : ∀ i, i ≤ rows.length → ∃ N : List Nm, N.length = nOut many (rows.take i) ∧ ∀ q l, aget (going (many + 1) (rows.take i)).ls q = some l → l.to = many → q ∈ N := by
  intro i
  induction i with
  | zero => exact fun _ => ⟨[], rfl, fun q l h => by cases h⟩
  | succ i ih =>
    intro hi
    have e : rows[i]? = some rows[i] := List.getElem?_eq_getElem hi
    obtain ⟨N, hN, sub⟩ := ih (Nat.le_of_lt hi)
    have ok := v i _ e
    rw [take_snoc' e, going_snoc', nOut_append]
    generalize rows[i] = r at *
    generalize going (many + 1) (rows.take i) = g at *
    obtain ⟨d, s⟩ := r
    cases d with
    | own h x => exact ⟨N, hN, sub⟩
    | keep h => exact ⟨N, hN, sub⟩
    | send h to =>
      by_cases c : to = many
      · refine ⟨N ++ [(h, g.se.getD h 0)], by rw [List.length_append, hN]; simp [nOut, isOut, c], fun q l hl ht => ?_⟩
        replace hl : aget (aput g.ls (h, g.se.getD h 0) _) q = some l := hl
        rw [aget_aput] at hl
        split at hl
        next z => rw [z]; simp
        next => exact List.mem_append_left _ (sub q l hl ht)
      · refine ⟨N, by rw [hN]; simp [nOut, isOut, c], fun q l hl ht => ?_⟩
        replace hl : aget (aput g.ls (h, g.se.getD h 0) _) q = some l := hl
        rw [aget_aput] at hl
        split at hl
        next z => cases hl; exact absurd ht c
        next => exact sub q l hl ht
    | take h f k =>
      refine ⟨N, hN, fun q l hl ht => ?_⟩
      obtain ⟨l0, e0⟩ := (ok.take h f k rfl).2.2
      replace hl : aget (gstep g (.take h f k)).ls q = some l := hl
      rw [gstep_take e0] at hl
      replace hl : aget (aput g.ls (f, k) _) q = some l := hl
      rw [aget_aput] at hl
      split at hl
      next z => cases hl; rw [z]; exact sub _ l0 e0 ht
      next => exact sub q l hl ht
theorem outs_len {many : Nat} {rows : List Row} (v : Valid many rows) {T : List Nm} (nd : T.Nodup) (w : ∀ q ∈ T, ∃ l, aget (going (many + 1) rows).ls q = some l ∧ l.to = many) : T.length ≤ nOut many rows := by
  obtain ⟨N, hN, sub⟩ := outs_take v rows.length (Nat.le_refl _)
  rw [List.take_length] at hN sub
  rw [← hN]
  exact nodup_len T N nd fun q hq => let ⟨l, a, b⟩ := w q hq; sub q l a b
def outT (many : Nat) (rows : List Row) : List Nm := rows.filterMap fun r => match r.1 with
  | .take h f k => if h = many then some (f, k) else none
  | _ => none
theorem outT_append (many : Nat) (a b : List Row) : outT many (a ++ b) = outT many a ++ outT many b := List.filterMap_append
theorem outT_tells (many : Nat) : ∀ T : List Nm, outT many (T.map (tkRow many)) = T
  | [] => rfl
  | q :: T => by
    have := outT_tells many T
    have e : outT many ((q :: T).map (tkRow many)) = q :: outT many (T.map (tkRow many)) := by simp [outT, tkRow]
    rw [e, this]
theorem Hs.outT {many : Nat} {rows : List Row} (H : Hs many rows) : (outT many rows).Nodup ∧ ∀ q ∈ outT many rows, ∃ l, aget (going (many + 1) rows).ls q = some l ∧ l.to = many ∧ l.tk = true := by
  induction H with
  | nil => exact ⟨.nil, fun q h => by cases h⟩
  | @snoc rows r H s ih =>
    have G := gsh H.valid
    have ok := s.ok
    have stk := s.tk
    rw [going_snoc', outT_append]
    generalize going (many + 1) rows = g at *
    obtain ⟨d, n⟩ := r
    cases d with
    | own h x =>
      have e0 : Lor.outT many [(Deed.own h x, n)] = [] := rfl
      rw [e0, List.append_nil]; exact ih
    | keep h =>
      have e0 : Lor.outT many [(Deed.keep h, n)] = [] := rfl
      rw [e0, List.append_nil]; exact ih
    | send h to =>
      have e0 : Lor.outT many [(Deed.send h to, n)] = [] := rfl
      rw [e0, List.append_nil]
      refine ⟨ih.1, fun q hq => ?_⟩
      obtain ⟨l, a, b⟩ := ih.2 q hq
      refine ⟨l, ?_, b⟩
      show aget (aput g.ls (h, g.se.getD h 0) _) q = _
      rw [aget_aput_ne fun z => ?_]
      · exact a
      · have hm : h ≤ many := ok.hand
        rw [z, G.se h hm] at a
        have := ((G.ls h _).mp (by unfold ahas; rw [a]; rfl)).2
        omega
    | take h f k =>
      obtain ⟨w, e⟩ := stk h f k rfl
      have keep : ∀ q ∈ Lor.outT many rows, q ≠ (f, k) := fun q hq z => by
        obtain ⟨l, a, _, b⟩ := ih.2 q hq
        rw [z, e] at a
        cases a; cases b
      have old : ∀ q ∈ Lor.outT many rows, ∃ l, aget (gstep g (.take h f k)).ls q = some l ∧ l.to = many ∧ l.tk = true := fun q hq => by
        obtain ⟨l, a, b⟩ := ih.2 q hq
        refine ⟨l, ?_, b⟩
        rw [gstep_take e]
        show aget (aput g.ls (f, k) _) q = _
        rw [aget_aput_ne (keep q hq)]; exact a
      by_cases c : h = many
      · have e0 : Lor.outT many [(Deed.take h f k, n)] = [(f, k)] := by simp [Lor.outT, c]
        rw [e0]
        refine ⟨List.nodup_append.mpr ⟨ih.1, by simp, fun x hx y hy => ?_⟩, fun q hq => ?_⟩
        · rw [List.mem_singleton] at hy
          rw [hy]; exact keep x hx
        · rcases List.mem_append.mp hq with z | z
          · exact old q z
          · rw [List.mem_singleton] at z
            subst z
            refine ⟨⟨h, w, true⟩, ?_, c, rfl⟩
            show aget (gstep g (.take h f k)).ls (f, k) = _
            rw [gstep_take e]
            exact aget_aput_same
      · have e0 : Lor.outT many [(Deed.take h f k, n)] = [] := by simp [Lor.outT, c]
        rw [e0, List.append_nil]
        exact ⟨ih.1, old⟩
theorem Hs.outLen {many : Nat} {rows : List Row} (H : Hs many rows) : (Lor.outT many rows).length ≤ nOut many rows :=
  outs_len H.valid H.outT.1 fun q hq => let ⟨l, a, b, _⟩ := H.outT.2 q hq; ⟨l, a, b⟩
/-! ### the town's tell -/
structure Tolds (many : Nat) (rows : List Row) (wr : List Nat) (T : List Nm) : Prop where
  nd : T.Nodup
  way : ∀ q ∈ T, (∃ l, aget (going (many + 1) rows).ls q = some l ∧ l.to = many) ∧ ahas (bearing many rows).ta q = false ∧ allWritten wr ((aget (bearing many rows).bo q).getD []) = true
theorem tell_fold {many : Nat} {rows : List Row} {wr : List Nat} {told : List (Nat × Nat × Nat)} : ∀ (rs : List Row) (t : Tl) (T : List Nm) (i : Nat), t.rows = rows ++ T.map (tkRow many) → t.told.length = told.length + T.length → (∀ q, ahas t.ta q = true ↔ ahas (bearing many rows).ta q = true ∨ q ∈ T) → Tolds many rows wr T → T.length ≤ i →
    ∃ T', (rs.foldl (tellStep many (bearing many rows) (going (many + 1) rows).ls wr) t).rows = rows ++ T'.map (tkRow many) ∧ (rs.foldl (tellStep many (bearing many rows) (going (many + 1) rows).ls wr) t).told.length = told.length + T'.length ∧ Tolds many rows wr T' ∧ T'.length ≤ i + rs.length
  | [], t, T, i, h1, h2, h3, h4, h5 => ⟨T, h1, h2, h4, h5⟩
  | r :: rs, t, T, i, h1, h2, h3, h4, h5 => by
    rw [List.foldl_cons, List.length_cons]
    have skip : tellStep many (bearing many rows) (going (many + 1) rows).ls wr t r = t → ∃ T', (rs.foldl (tellStep many (bearing many rows) (going (many + 1) rows).ls wr) (tellStep many (bearing many rows) (going (many + 1) rows).ls wr t r)).rows = rows ++ T'.map (tkRow many) ∧ (rs.foldl (tellStep many (bearing many rows) (going (many + 1) rows).ls wr) (tellStep many (bearing many rows) (going (many + 1) rows).ls wr t r)).told.length = told.length + T'.length ∧ Tolds many rows wr T' ∧ T'.length ≤ i + (rs.length + 1) := fun e => by
      rw [e]
      obtain ⟨T', a, b, c, d⟩ := tell_fold (told := told) rs t T i h1 h2 h3 h4 h5
      exact ⟨T', a, b, c, by omega⟩
    obtain ⟨d, s⟩ := r
    cases d with
    | own h x => exact skip rfl
    | keep h => exact skip rfl
    | take h f k => exact skip rfl
    | send h to =>
      by_cases c : to = many
      · cases e : firstUntold many (bearing many rows) t.ta (going (many + 1) rows).ls wr (h, s) with
        | none =>
          refine skip ?_
          unfold tellStep
          simp only [if_pos c, e]
        | some q =>
          obtain ⟨z0, es⟩ : ∃ z0, tellStep many (bearing many rows) (going (many + 1) rows).ls wr t (.send h to, s) = ⟨t.rows ++ [(.take many q.1 q.2, 0)], t.told ++ [z0], aput t.ta q (many, 0)⟩ := by
            unfold tellStep
            simp only [if_pos c, e]
            exact ⟨_, rfl⟩
          rw [es]
          unfold firstUntold at e
          rw [Option.map_eq_some_iff] at e
          obtain ⟨⟨q', x⟩, hf, hq⟩ := e
          have hm := List.find?_some hf
          replace hq : q' = q := hq
          subst hq
          unfold mayTell at hm
          simp only [Bool.and_eq_true] at hm
          obtain ⟨⟨⟨_, m2⟩, m3⟩, m4⟩ := hm
          have nt : ¬ (ahas (bearing many rows).ta q' = true ∨ q' ∈ T) := fun z => by
            rw [(h3 q').mpr z] at m3; cases m3
          have w : ∃ l, aget (going (many + 1) rows).ls q' = some l ∧ l.to = many := by
            cases el : aget (going (many + 1) rows).ls q' with
            | none => rw [el] at m2; cases m2
            | some l => rw [el] at m2; exact ⟨l, rfl, by simpa using m2⟩
          obtain ⟨T', a, b, c', d'⟩ := tell_fold (told := told) rs ⟨t.rows ++ [(.take many q'.1 q'.2, 0)], t.told ++ [z0], aput t.ta q' (many, 0)⟩ (T ++ [q']) (i + 1)
            (by show t.rows ++ [(Deed.take many q'.1 q'.2, 0)] = rows ++ (T ++ [q']).map (tkRow many); rw [h1]; simp [tkRow]) (by show (t.told ++ _).length = _; rw [List.length_append, h2, List.length_append]; simp; omega)
            (fun q => by
              show ahas (aput t.ta q' (many, 0)) q = true ↔ _
              rw [ahas_aput, Bool.or_eq_true, decide_eq_true_eq, h3, List.mem_append, List.mem_singleton]
              constructor
              · rintro (z | z | z)
                · exact .inr (.inr z)
                · exact .inl z
                · exact .inr (.inl z)
              · rintro (z | z | z)
                · exact .inr (.inl z)
                · exact .inr (.inr z)
                · exact .inl z)
            ⟨List.nodup_append.mpr ⟨h4.nd, by simp, fun x hx y hy => by
              rw [List.mem_singleton] at hy
              rw [hy]; exact fun z => nt (.inr (z ▸ hx))⟩, fun q hq => by
              rcases List.mem_append.mp hq with z | z
              · exact h4.way q z
              · rw [List.mem_singleton] at z
                subst z
                refine ⟨w, ?_, m4⟩
                cases ez : ahas (bearing many rows).ta q with
                | false => rfl
                | true => exact absurd (.inl ez) nt⟩ (by rw [List.length_append]; simp; omega)
          exact ⟨T', a, b, c', by omega⟩
      · refine skip ?_
        unfold tellStep
        simp only [if_neg c]
theorem tell_spec (many : Nat) (st : TS) : ∃ T, (tellS many st).rows = st.rows ++ T.map (tkRow many) ∧ (tellS many st).told.length = st.told.length + T.length ∧ Tolds many st.rows st.wr T ∧ T.length ≤ st.rows.length := by
  obtain ⟨T, a, b, c, d⟩ := tell_fold (many := many) (rows := st.rows) (wr := st.wr) (told := st.told) st.rows ⟨st.rows, st.told, (bearing many st.rows).ta⟩ [] 0 (by simp) rfl (fun q => by simp) ⟨.nil, fun q h => by cases h⟩ (Nat.le_refl _)
  exact ⟨T, a, b, c, by omega⟩
theorem Tolds.tellable {many : Nat} {rows : List Row} {wr : List Nat} {T : List Nm} (t : Tolds many rows wr T) (H : Hs many rows) : ∀ q ∈ T, Tellable many rows q := by
  intro q hq
  obtain ⟨⟨l, a, b⟩, c, _⟩ := t.way q hq
  exact ⟨l, a, b, by rw [← H.lsh.tk q l a]; exact c⟩
end Lor
end

section
set_option Elab.async false
set_option linter.all false
set_option maxRecDepth 10000
set_option maxHeartbeats 1000000
/-! the plain law: two towns that did the same deeds -/
namespace Lor
def LRel (many : Nat) : Option Ltr → Option Ltr → Prop
  | none, none => True
  | some l, some l' => l.to = l'.to ∧ l.wo = l'.wo ∧ (l.to ≠ many → l.tk = l'.tk)
  | _, _ => False
theorem LRel.refl (many : Nat) : ∀ o, LRel many o o
  | none => trivial
  | some l => ⟨rfl, rfl, fun _ => rfl⟩
theorem LRel.symm {many : Nat} : ∀ {o o' : Option Ltr}, LRel many o o' → LRel many o' o
  | none, none, _ => trivial
  | some l, some l', ⟨a, b, c⟩ => ⟨a.symm, b.symm, fun z => (c (by rw [a]; exact z)).symm⟩
structure GSim (many : Nat) (g g' : Gs) : Prop where
  wl : g.wo.length = many + 1
  wl' : g'.wo.length = many + 1
  se : g.se = g'.se
  wo : ∀ h, h < many → g.wo.getD h 0 = g'.wo.getD h 0
  ls : ∀ q, LRel many (aget g.ls q) (aget g'.ls q)
theorem GSim.symm {many : Nat} {g g' : Gs} (s : GSim many g g') : GSim many g' g := ⟨s.wl', s.wl, s.se.symm, fun h hh => (s.wo h hh).symm, fun q => (s.ls q).symm⟩
theorem sim_tell {many : Nat} {g g' : Gs} {f k : Nat} {l : Ltr} (s : GSim many g g') (e : aget g.ls (f, k) = some l) (t : l.to = many) : GSim many (gstep g (.take many f k)) g' := by
  rw [gstep_take e]
  refine ⟨List.length_set.trans s.wl, s.wl', s.se, fun h hh => ?_, fun q => ?_⟩
  · show (g.wo.set many _).getD h 0 = _
    rw [getD_set (by rw [s.wl]; omega), if_neg (by omega)]
    exact s.wo h hh
  · show LRel many (aget (aput g.ls (f, k) _) q) _
    rw [aget_aput]
    split
    next c =>
      have := s.ls q
      rw [c, e] at this
      rw [c]
      cases e' : aget g'.ls (f, k) with
      | none => rw [e'] at this; exact this.elim
      | some l' =>
        rw [e'] at this
        exact ⟨this.1, this.2.1, fun z => absurd t z⟩
    next => exact s.ls q
theorem sim_tells {many : Nat} {g' : Gs} : ∀ (T : List Nm) {rows : List Row}, GSim many (going (many + 1) rows) g' → (∀ q ∈ T, ∃ l, aget (going (many + 1) rows).ls q = some l ∧ l.to = many) → GSim many (going (many + 1) (rows ++ T.map (tkRow many))) g'
  | [], rows, s, _ => by simpa using s
  | q :: T, rows, s, w => by
    have e : rows ++ (q :: T).map (tkRow many) = (rows ++ [tkRow many q]) ++ T.map (tkRow many) := by simp
    rw [e]
    obtain ⟨l, hl, ht⟩ := w q List.mem_cons_self
    refine sim_tells T (by rw [going_snoc']; exact sim_tell s (show aget _ (q.1, q.2) = some l from hl) ht) fun q' hq' => ?_
    obtain ⟨l', hl', ht'⟩ := w q' (List.mem_cons_of_mem _ hq')
    rw [going_snoc']
    show ∃ l, aget (gstep _ (.take many q.1 q.2)).ls q' = some l ∧ _
    rw [gstep_take (show aget _ (q.1, q.2) = some l from hl)]
    show ∃ l, aget (aput _ (q.1, q.2) _) q' = some l ∧ _
    rw [aget_aput]
    split
    · exact ⟨_, rfl, ht⟩
    · exact ⟨l', hl', ht'⟩
theorem sim_send {many : Nat} {g g' : Gs} {h to : Nat} (s : GSim many g g') (w : g.wo.getD h 0 = g'.wo.getD h 0) : GSim many (gstep g (.send h to)) (gstep g' (.send h to)) := by
  refine ⟨s.wl, s.wl', ?_, s.wo, fun q => ?_⟩
  · show g.se.set _ _ = g'.se.set _ _
    rw [s.se]
  · show LRel many (aget (aput g.ls (h, g.se.getD h 0) _) q) (aget (aput g'.ls (h, g'.se.getD h 0) _) q)
    rw [s.se, aget_aput, aget_aput]
    split
    · exact ⟨rfl, w, fun _ => rfl⟩
    · exact s.ls q
theorem sim_sends {many h n n' : Nat} {rows rows' : List Row} (hh : h < many) : ∀ (ts : List Nat), GSim many (going (many + 1) rows) (going (many + 1) rows') → GSim many (going (many + 1) (rows ++ ts.map fun to => (.send h to, n))) (going (many + 1) (rows' ++ ts.map fun to => (.send h to, n'))) := by
  intro ts
  induction ts generalizing rows rows' with
  | nil => intro s; simpa using s
  | cons t ts ih =>
    intro s
    have e : ∀ (rows : List Row) (n : Nat), rows ++ (t :: ts).map (fun to => ((.send h to, n) : Row)) = (rows ++ [(.send h t, n)]) ++ ts.map fun to => (.send h to, n) := fun _ _ => by simp
    rw [e, e]
    refine ih ?_
    rw [going_snoc', going_snoc']
    exact sim_send s (s.wo h hh)
theorem sim_put {many h x : Nat} {g g' : Gs} (s : GSim many g g') : GSim many (gstep (gstep g (.own many x)) (.send many h)) (gstep (gstep g' (.own many x)) (.send many h)) := by
  have e1 : many < g.wo.length := by rw [s.wl]; omega
  have e2 : many < g'.wo.length := by rw [s.wl']; omega
  refine sim_send (g := gstep g (.own many x)) (g' := gstep g' (.own many x)) ⟨List.length_set.trans s.wl, List.length_set.trans s.wl', s.se, fun h hh => ?_, s.ls⟩ ?_
  · show (g.wo.set many x).getD h 0 = (g'.wo.set many x).getD h 0
    rw [getD_set e1, getD_set e2]
    split
    · rfl
    · exact s.wo h hh
  · show (g.wo.set many x).getD many 0 = (g'.wo.set many x).getD many 0
    rw [getD_set e1, getD_set e2, if_pos rfl, if_pos rfl]
theorem sim_letter {many h f k w : Nat} {g g' : Gs} (hh : h < many) (s : GSim many g g') (e : aget g.ls (f, k) = some ⟨h, w, false⟩) : aget g'.ls (f, k) = some ⟨h, w, false⟩ := by
  have := s.ls (f, k)
  rw [e] at this
  cases e' : aget g'.ls (f, k) with
  | none => rw [e'] at this; exact this.elim
  | some l' =>
    rw [e'] at this
    obtain ⟨a, b, c⟩ := this
    obtain ⟨t, w', tk⟩ := l'
    replace a : h = t := a
    replace b : w = w' := b
    replace c : false = tk := c (Nat.ne_of_lt hh)
    rw [← a, ← b, ← c]
theorem sim_take {many h f k w : Nat} {g g' : Gs} (hh : h < many) (s : GSim many g g') (e : aget g.ls (f, k) = some ⟨h, w, false⟩) : GSim many (gstep g (.take h f k)) (gstep g' (.take h f k)) := by
  have e' := sim_letter hh s e
  rw [gstep_take e, gstep_take e']
  refine ⟨List.length_set.trans s.wl, List.length_set.trans s.wl', s.se, fun h' hh' => ?_, fun q => ?_⟩
  · show (g.wo.set h _).getD h' 0 = (g'.wo.set h _).getD h' 0
    rw [getD_set (by rw [s.wl]; omega), getD_set (by rw [s.wl']; omega)]
    split
    · rw [s.wo h hh]
    · exact s.wo h' hh'
  · show LRel many (aget (aput g.ls (f, k) _) q) (aget (aput g'.ls (f, k) _) q)
    rw [aget_aput, aget_aput]
    split
    · exact ⟨rfl, rfl, fun _ => rfl⟩
    · exact s.ls q
/-- two towns that go alike -/
structure TSim (tabs : Tabs) (st st' : TS) : Prop where
  g : GSim tabs.length (going (tabs.length + 1) st.rows) (going (tabs.length + 1) st'.rows)
  c : ∀ h, h < tabs.length → count st.rows h = count st'.rows h
  wr : st.wr = st'.wr
theorem TSim.symm {tabs : Tabs} {st st' : TS} (s : TSim tabs st st') : TSim tabs st' st := ⟨s.g.symm, fun h hh => (s.c h hh).symm, s.wr.symm⟩
theorem tsim_draw {tabs : Tabs} {st st' : TS} {td : TD} (s : TSim tabs st st') (d : LDraw tabs.length st.rows st.wr td) : LDraw tabs.length st'.rows st'.wr td := by
  cases td with
  | put h x => exact d
  | step h f k => exact ⟨d.1, d.2.choose, sim_letter d.1 s.g d.2.choose_spec⟩
  | write h => exact ⟨d.1, by rw [← s.wr, ← s.c h d.1]; exact d.2⟩
  | keep h => exact d
  | fall l => exact d
theorem count_tells {many h : Nat} (hh : h < many) (rows : List Row) : ∀ T : List Nm, count (rows ++ T.map (tkRow many)) h = count rows h := by
  intro T
  refine count_sends rows h _ fun r hr => ?_
  obtain ⟨q, _, e⟩ := List.mem_map.mp hr
  rw [← e]
  simp [tkRow, isTake]
  omega
theorem tsim_tells {tabs : Tabs} {st st' : TS} {T : List Nm} {told : List (Nat × Nat × Nat)} {falls : List (List Nat)} (s : TSim tabs st st') (w : ∀ q ∈ T, ∃ l, aget (going (tabs.length + 1) st.rows).ls q = some l ∧ l.to = tabs.length) : TSim tabs ⟨st.rows ++ T.map (tkRow tabs.length), st.wr, told, falls⟩ st' :=
  ⟨sim_tells T s.g w, fun h hh => by
    show count (st.rows ++ _) h = _
    rw [count_tells hh]; exact s.c h hh, s.wr⟩
theorem tsim_does {tabs : Tabs} {al al' : Bool} {st st' st1 st1' : TS} {td : TD} (s : TSim tabs st st') (d : LDraw tabs.length st.rows st.wr td) (h : Does tabs al st td st1) (h' : Does tabs al' st' td st1') : TSim tabs st1 st1' := by
  cases h with
  | put h x =>
    cases h'
    refine ⟨?_, fun h' hh' => ?_, s.wr⟩
    · show GSim _ (going _ (st.rows ++ [(.own tabs.length x, 0), (.send tabs.length h, 0)])) (going _ (st'.rows ++ [(.own tabs.length x, 0), (.send tabs.length h, 0)]))
      have e : ∀ (rows : List Row), rows ++ [(.own tabs.length x, 0), (.send tabs.length h, 0)] = (rows ++ [(.own tabs.length x, 0)]) ++ [(.send tabs.length h, 0)] := fun _ => by simp
      rw [e, e, going_snoc', going_snoc', going_snoc', going_snoc']
      exact sim_put s.g
    · show count (st.rows ++ [_, _]) h' = count (st'.rows ++ [_, _]) h'
      have e : ∀ (rows : List Row), count (rows ++ [(.own tabs.length x, 0), (.send tabs.length h, 0)]) h' = count rows h' := fun rows => count_sends rows h' _ (by simp [isTake])
      rw [e, e]; exact s.c h' hh'
  | step h f k =>
    cases h'
    obtain ⟨hh, w, hl⟩ := d
    have g1 : GSim tabs.length (going (tabs.length + 1) (st.rows ++ [(.take h f k, count st.rows h + 1)])) (going (tabs.length + 1) (st'.rows ++ [(.take h f k, count st'.rows h + 1)])) := by
      rw [going_snoc', going_snoc']
      exact sim_take hh s.g hl
    refine ⟨?_, fun h' hh' => ?_, s.wr⟩
    · show GSim _ (going _ (sendAll tabs (st.rows ++ [(.take h f k, count st.rows h + 1)]) h)) (going _ (sendAll tabs (st'.rows ++ [(.take h f k, count st'.rows h + 1)]) h))
      unfold sendAll
      have et : targets tabs (st.rows ++ [(.take h f k, count st.rows h + 1)]) h = targets tabs (st'.rows ++ [(.take h f k, count st'.rows h + 1)]) h := by
        unfold targets
        rw [g1.wo h hh]
      rw [et]
      exact sim_sends hh _ g1
    · show count (sendAll tabs (st.rows ++ [_]) h) h' = count (sendAll tabs (st'.rows ++ [_]) h) h'
      have e : ∀ (rows : List Row) (ts : List Nat) (n : Nat), count (rows ++ ts.map fun to => ((.send h to, n) : Row)) h' = count rows h' := fun rows ts n => count_sends rows h' _ fun r hr => by
        obtain ⟨t, _, e⟩ := List.mem_map.mp hr
        rw [← e]; rfl
      unfold sendAll
      rw [e, e, count_snoc, count_snoc, s.c h' hh']
      rfl
  | write h =>
    cases h'
    refine ⟨s.g, s.c, ?_⟩
    show st.wr.set h _ = st'.wr.set h _
    rw [s.wr]
  | keep h =>
    cases h'
    have hh : h < tabs.length := d
    refine ⟨?_, fun h' hh' => ?_, ?_⟩
    · show GSim _ (going _ (st.rows ++ [_])) (going _ (st'.rows ++ [_]))
      rw [going_snoc', going_snoc']
      exact s.g
    · show count (st.rows ++ [_]) h' = count (st'.rows ++ [_]) h'
      rw [count_same rfl, count_same rfl]; exact s.c h' hh'
    · show st.wr.set h _ = st'.wr.set h _
      rw [s.wr, s.c h hh]
  | fall l c hk => exact absurd d (fun z => z)
theorem lrun_inv {tabs : Tabs} {ds : List TD} {td : TD} {rows : List Row} {wr : List Nat} (h : LRun tabs (ds ++ [td]) rows wr) : ∃ rows0 wr0 st' T, LRun tabs ds rows0 wr0 ∧ LDraw tabs.length rows0 wr0 td ∧ Does tabs false (lst_ rows0 wr0) td st' ∧ TellsN tabs.length st'.rows T ∧ rows = st'.rows ++ T.map (tkRow tabs.length) ∧ wr = st'.wr := by
  generalize e : ds ++ [td] = es at h
  cases h with
  | nil => simp at e
  | snoc h1 h2 h3 h4 =>
    obtain ⟨e1, e2⟩ := List.append_inj' e rfl
    cases e2
    subst e1
    exact ⟨_, _, _, _, h1, h2, h3, h4, rfl, rfl⟩
theorem lrun_nil {tabs : Tabs} {rows : List Row} {wr : List Nat} (h : LRun tabs [] rows wr) : rows = [] ∧ wr = List.replicate tabs.length 0 := by
  generalize e : ([] : List TD) = es at h
  cases h with
  | nil => exact ⟨rfl, rfl⟩
  | snoc h1 h2 h3 h4 => simp at e
theorem lrun_pre {tabs : Tabs} : ∀ (n : Nat) (ds2 : List TD), ds2.length = n → ∀ {ds1 : List TD} {rows : List Row} {wr : List Nat}, LRun tabs (ds1 ++ ds2) rows wr → ∃ rows1 wr1, LRun tabs ds1 rows1 wr1
  | 0, ds2, e, ds1, rows, wr, h => by
    rw [List.length_eq_zero_iff.mp e, List.append_nil] at h
    exact ⟨_, _, h⟩
  | n + 1, ds2, e, ds1, rows, wr, h => by
    rcases List.eq_nil_or_concat ds2 with z | ⟨a, b, z⟩
    · rw [z] at e; simp at e
    · rw [List.concat_eq_append] at z
      rw [z, ← List.append_assoc] at h
      obtain ⟨_, _, _, _, h1, _⟩ := lrun_inv h
      exact lrun_pre n a (by rw [z] at e; simpa using e) h1
end Lor
end

section
set_option Elab.async false
set_option linter.all false
set_option maxRecDepth 10000
set_option maxHeartbeats 1000000
/-! the plain law: what a run keeps -/
namespace Lor
theorem lrun_sim {tabs : Tabs} {ds : List TD} {R W} (h : LRun tabs ds R W) : ∀ {R' W'}, LRun tabs ds R' W' → TSim tabs (lst_ R W) (lst_ R' W') := by
  induction h with
  | nil =>
    intro R' W' h'
    obtain ⟨rfl, rfl⟩ := lrun_nil h'
    exact ⟨⟨List.length_replicate, List.length_replicate, rfl, fun _ _ => rfl, fun q => LRel.refl _ _⟩, fun _ _ => rfl, rfl⟩
  | snoc h1 h2 h3 h4 ih =>
    intro R' W' h'
    obtain ⟨R0, W0, s', T', g1, g2, g3, g4, rfl, rfl⟩ := lrun_inv h'
    have s1 := tsim_does (ih g1) h2 h3 g3
    have s2 := (tsim_tells (told := []) (falls := []) s1 fun q hq => let ⟨l, a, b, _⟩ := h4.way q hq; ⟨l, a, b⟩).symm
    exact (tsim_tells (told := []) (falls := []) s2 fun q hq => let ⟨l, a, b, _⟩ := g4.way q hq; ⟨l, a, b⟩).symm
structure LI (tabs : Tabs) (n : Nat) (st : TS) : Prop where
  hs : Hs tabs.length st.rows
  wlen : st.wr.length = tabs.length
  wrc : ∀ h, h < tabs.length → st.wr.getD h 0 ≤ count st.rows h
  cnt : ∀ h, h < tabs.length → count st.rows h ≤ n
  out : nOut tabs.length st.rows ≤ 3 * n
  len : st.rows.length ≤ 4 * n + (outT tabs.length st.rows).length
theorem LI.few {tabs : Tabs} {n : Nat} {st : TS} (I : LI tabs n st) : st.rows.length ≤ 7 * n := by
  have := I.len
  have := I.out
  have := I.hs.outLen
  omega
theorem LI.nil {tabs : Tabs} : LI tabs 0 (tstart tabs.length) := by
  refine ⟨.nil, List.length_replicate, fun h hh => ?_, fun h hh => Nat.le_refl _, Nat.le_refl _, Nat.le_refl _⟩
  show (List.replicate tabs.length 0).getD h 0 ≤ 0
  rw [List.getD_eq_getElem?_getD, List.getElem?_replicate]
  split <;> exact Nat.le_refl _
theorem nOut_tells (many : Nat) (T : List Nm) : nOut many (T.map (tkRow many)) = 0 := by
  unfold nOut
  rw [List.length_eq_zero_iff, List.filter_eq_nil_iff]
  intro r hr
  obtain ⟨q, _, e⟩ := List.mem_map.mp hr
  rw [← e]; simp [tkRow, isOut]
theorem li_tells {tabs : Tabs} {n : Nat} {st st' : TS} {T : List Nm} (I : LI tabs n st) (nd : T.Nodup) (w : ∀ q ∈ T, Tellable tabs.length st.rows q) (e : st'.rows = st.rows ++ T.map (tkRow tabs.length)) (ew : st'.wr = st.wr) : LI tabs n st' := by
  refine ⟨by rw [e]; exact hs_tells T I.hs nd w, by rw [ew]; exact I.wlen, fun h hh => ?_, fun h hh => ?_, ?_, ?_⟩
  · rw [e, ew, count_tells hh]; exact I.wrc h hh
  · rw [e, count_tells hh]; exact I.cnt h hh
  · rw [e, nOut_append, nOut_tells]; exact I.out
  · rw [e, outT_append, outT_tells, List.length_append, List.length_append, List.length_map]
    have := I.len; omega
theorem li_does {tabs : Tabs} {n : Nat} {al : Bool} {st st' : TS} {td : TD} (ok : TabsOk tabs) (I : LI tabs n st) (hn : n ≤ 32) (d : LDraw tabs.length st.rows st.wr td) (e : Does tabs al st td st') : LI tabs (n + 1) st' := by
  have hs' := hs_does ok I.hs (fun h hh => Nat.le_trans (I.cnt h hh) hn) d e
  have hl := I.len
  have ho := I.out
  cases e with
  | put h x =>
    have hne : ¬ h = tabs.length := Nat.ne_of_lt d.1
    have ec : ∀ h', count (st.rows ++ [(.own tabs.length x, 0), (.send tabs.length h, 0)]) h' = count st.rows h' := fun h' => count_sends st.rows h' _ (by simp [isTake])
    refine ⟨hs', I.wlen, fun h' hh => ?_, fun h' hh => ?_, ?_, ?_⟩
    · show _ ≤ count (st.rows ++ [_, _]) h'
      rw [ec]; exact I.wrc h' hh
    · show count (st.rows ++ [_, _]) h' ≤ _
      rw [ec]; exact Nat.le_succ_of_le (I.cnt h' hh)
    · show nOut _ (st.rows ++ [_, _]) ≤ _
      have : nOut tabs.length [((Deed.own tabs.length x, 0) : Row), (.send tabs.length h, 0)] = 0 := by simp [nOut, isOut, hne]
      rw [nOut_append, this]; omega
    · show (st.rows ++ [_, _]).length ≤ _ + (outT _ (st.rows ++ [_, _])).length
      have : outT tabs.length [((Deed.own tabs.length x, 0) : Row), (.send tabs.length h, 0)] = [] := rfl
      rw [outT_append, this, List.length_append, List.append_nil]
      simp; omega
  | step h f k =>
    have hh : h < tabs.length := d.1
    have tm := targets_mem (rows := st.rows ++ [(.take h f k, count st.rows h + 1)]) (h := h) ok
    have es : ∀ (rows : List Row) (ts : List Nat) (n h' : Nat), count (rows ++ ts.map fun to => ((.send h to, n) : Row)) h' = count rows h' := fun rows ts n h' => count_sends rows h' _ fun r hr => by
      obtain ⟨t, _, e⟩ := List.mem_map.mp hr
      rw [← e]; rfl
    have ec : ∀ h', count (sendAll tabs (st.rows ++ [(.take h f k, count st.rows h + 1)]) h) h' = count st.rows h' + (if isTake h' (.take h f k, count st.rows h + 1) = true then 1 else 0) := fun h' => by
      unfold sendAll
      rw [es, count_snoc]
    refine ⟨hs', I.wlen, fun h' hh => ?_, fun h' hh => ?_, ?_, ?_⟩
    · show _ ≤ count (sendAll tabs (st.rows ++ [_]) h) h'
      rw [ec]; exact Nat.le_trans (I.wrc h' hh) (Nat.le_add_right _ _)
    · show count (sendAll tabs (st.rows ++ [_]) h) h' ≤ _
      rw [ec]
      have := I.cnt h' hh
      split <;> omega
    · show nOut _ (sendAll tabs (st.rows ++ [_]) h) ≤ _
      unfold sendAll
      have e1 : nOut tabs.length [((Deed.take h f k, count st.rows h + 1) : Row)] = 0 := rfl
      rw [nOut_append, nOut_append, e1]
      have : nOut tabs.length ((targets tabs (st.rows ++ [(.take h f k, count st.rows h + 1)]) h).map fun to => ((.send h to, count (st.rows ++ [(.take h f k, count st.rows h + 1)]) h) : Row)) ≤ 3 := by
        unfold nOut
        exact Nat.le_trans (List.length_filter_le _ _) (by rw [List.length_map]; exact tm.1)
      omega
    · show (sendAll tabs (st.rows ++ [_]) h).length ≤ _ + (outT _ (sendAll tabs (st.rows ++ [_]) h)).length
      unfold sendAll
      rw [outT_append, outT_append, List.length_append, List.length_append, List.length_append, List.length_append, List.length_map]
      have := tm.1
      simp only [List.length_singleton]
      omega
  | write h =>
    obtain ⟨hh, hw⟩ : h < tabs.length ∧ st.wr.getD h 0 < count st.rows h := d
    refine ⟨hs', List.length_set.trans I.wlen, fun h' hh' => ?_, fun h' hh => Nat.le_succ_of_le (I.cnt h' hh), ?_, ?_⟩
    · show (st.wr.set h _).getD h' 0 ≤ count st.rows h'
      rw [getD_set (by rw [I.wlen]; exact hh)]
      split
      next c => rw [c]; exact hw
      next => exact I.wrc h' hh'
    · show nOut _ st.rows ≤ _; omega
    · show st.rows.length ≤ _ + (outT _ st.rows).length; omega
  | keep h =>
    have hh : h < tabs.length := d
    have ec : ∀ h', count (st.rows ++ [(.keep h, count st.rows h)]) h' = count st.rows h' := fun h' => count_same rfl
    refine ⟨hs', List.length_set.trans I.wlen, fun h' hh' => ?_, fun h' hh => ?_, ?_, ?_⟩
    · show (st.wr.set h _).getD h' 0 ≤ count (st.rows ++ [_]) h'
      rw [ec, getD_set (by rw [I.wlen]; exact hh)]
      split
      next c => rw [c]; exact Nat.le_refl _
      next => exact I.wrc h' hh'
    · show count (st.rows ++ [_]) h' ≤ _
      rw [ec]; exact Nat.le_succ_of_le (I.cnt h' hh)
    · show nOut _ (st.rows ++ [_]) ≤ _
      have : nOut tabs.length [((Deed.keep h, count st.rows h) : Row)] = 0 := rfl
      rw [nOut_append, this]; omega
    · show (st.rows ++ [_]).length ≤ _ + (outT _ (st.rows ++ [_])).length
      have : outT tabs.length [((Deed.keep h, count st.rows h) : Row)] = [] := rfl
      rw [outT_append, this, List.length_append, List.append_nil]
      simp; omega
  | fall l c hk => exact absurd d (fun z => z)
theorem lrun_li {tabs : Tabs} (ok : TabsOk tabs) {ds : List TD} {R W} (h : LRun tabs ds R W) : ds.length ≤ 32 → LI tabs ds.length (lst_ R W) := by
  induction h with
  | nil => exact fun _ => LI.nil
  | snoc h1 h2 h3 h4 ih =>
    intro hl
    rw [List.length_append] at hl ⊢
    simp only [List.length_singleton] at hl ⊢
    have I := li_does ok (ih (by omega)) (by omega) h2 h3
    exact li_tells I h4.nd (fun q hq => h4.way q hq) rfl rfl
theorem does_lst {tabs : Tabs} {al : Bool} {st st' : TS} {td : TD} (n : NoFall td) (h : Does tabs al st td st') : Does tabs al (lst_ st.rows st.wr) td (lst_ st'.rows st'.wr) ∧ st'.told = st.told ∧ st'.falls = st.falls := by
  cases h with
  | put h x => exact ⟨.put h x, rfl, rfl⟩
  | step h f k => exact ⟨.step h f k, rfl, rfl⟩
  | write h => exact ⟨.write h, rfl, rfl⟩
  | keep h => exact ⟨.keep h, rfl, rfl⟩
  | fall l c hk => exact absurd rfl (n l)
theorem draw_nofall {many : Nat} {R W} {td : TD} (d : LDraw many R W td) : NoFall td := fun l z => by rw [z] at d; exact d
/-- what the towns' states keep -/
structure TI (tabs : Tabs) (ds : List TD) (st : TS) : Prop where
  run : LRun tabs ds st.rows st.wr
  tw : ToldWr tabs.length st.rows st.wr
  told : st.told.length ≤ st.rows.length
  falls : st.falls = []
theorem allWritten_mono {wr wr' : List Nat} {ks : List Nm} (h : ∀ q ∈ ks, wr.getD q.1 0 ≤ wr'.getD q.1 0) (w : allWritten wr ks = true) : allWritten wr' ks = true := by
  unfold allWritten at w ⊢
  rw [List.all_eq_true] at w ⊢
  intro q hq
  have := w q hq
  rw [decide_eq_true_eq] at this ⊢
  exact Nat.le_trans this (h q hq)
theorem bo_tells (many : Nat) : ∀ (T : List Nm) (rows : List Row), (bearing many (rows ++ T.map (tkRow many))).bo = (bearing many rows).bo
  | [], rows => by simp
  | q :: T, rows => by
    have e : rows ++ (q :: T).map (tkRow many) = (rows ++ [tkRow many q]) ++ T.map (tkRow many) := by simp
    rw [e, bo_tells many T, bearing_snoc]; rfl
end Lor
end

section
set_option Elab.async false
set_option linter.all false
set_option maxRecDepth 10000
set_option maxHeartbeats 1000000
/-! the plain law: the towns' states -/
namespace Lor
theorem set_ge {wr : List Nat} {h v : Nat} (hv : wr.getD h 0 ≤ v) : ∀ j, wr.getD j 0 ≤ (wr.set h v).getD j 0 := by
  intro j
  by_cases c : h < wr.length
  · rw [getD_set c]
    split
    next e => rw [e]; exact hv
    next => exact Nat.le_refl _
  · rw [List.set_eq_of_length_le (by omega)]; exact Nat.le_refl _
theorem does_add {tabs : Tabs} {al : Bool} {st st' : TS} {td : TD} (d : LDraw tabs.length st.rows st.wr td) (wc : ∀ h, h < tabs.length → st.wr.getD h 0 ≤ count st.rows h) (h : Does tabs al st td st') :
    ∃ add, st'.rows = st.rows ++ add ∧ (∀ f k s, (.take tabs.length f k, s) ∉ add) ∧ ∀ j, st.wr.getD j 0 ≤ st'.wr.getD j 0 := by
  cases h with
  | put h x => exact ⟨[(.own tabs.length x, 0), (.send tabs.length h, 0)], rfl, by simp, fun _ => Nat.le_refl _⟩
  | step h f k =>
    have hh : h < tabs.length := d.1
    refine ⟨[(.take h f k, count st.rows h + 1)] ++ (targets tabs (st.rows ++ [(.take h f k, count st.rows h + 1)]) h).map fun to => (.send h to, count (st.rows ++ [(.take h f k, count st.rows h + 1)]) h), ?_, ?_, fun _ => Nat.le_refl _⟩
    · show sendAll tabs _ h = _
      unfold sendAll
      rw [List.append_assoc]
    · intro f' k' s z
      rcases List.mem_append.mp z with e | e
      · rw [List.mem_singleton] at e
        cases e
        exact Nat.lt_irrefl _ hh
      · obtain ⟨t, _, e2⟩ := List.mem_map.mp e
        cases e2
  | write h => exact ⟨[], by simp, by simp, set_ge (Nat.le_succ _)⟩
  | keep h =>
    have hh : h < tabs.length := d
    exact ⟨[(.keep h, count st.rows h)], rfl, by simp, set_ge (wc h hh)⟩
  | fall l c hk => exact absurd d (fun z => z)
theorem bo_ext {many : Nat} : ∀ (add : List Row) {rows : List Row}, Valid many (rows ++ add) → ∀ {q S}, aget (bearing many rows).bo q = some S → aget (bearing many (rows ++ add)).bo q = some S
  | [], rows, _, q, S, h => by simpa using h
  | r :: add, rows, v, q, S, h => by
    have e : rows ++ r :: add = (rows ++ [r]) ++ add := by simp
    rw [e] at v ⊢
    refine bo_ext add v ?_
    have v1 := valid_pre v
    have v0 := valid_pre v1
    have ok : RowOk many (going (many + 1) rows) r := by
      have := v1 rows.length r (by simp)
      rwa [List.take_left] at this
    have B := binv v0
    have G := gsh v0
    rw [bearing_snoc]
    have hq : ahas (going (many + 1) rows).ls q = true := by rw [← B.has]; unfold ahas; rw [h]; rfl
    generalize bearing many rows = b at *
    generalize going (many + 1) rows = g at *
    obtain ⟨d, s⟩ := r
    cases d with
    | own h' x => exact h
    | keep h' => exact h
    | take h' f k => exact h
    | send h' to =>
      show aget (aput b.bo (h', b.se.getD h' 0) _) q = _
      rw [aget_aput_ne fun z => ?_]
      · exact h
      · have hm : h' ≤ many := ok.hand
        rw [z, B.se, G.se h' hm, G.ls] at hq
        exact Nat.lt_irrefl _ hq.2
theorem mem_outT {many f k s : Nat} {rows : List Row} (h : (.take many f k, s) ∈ rows) : (f, k) ∈ outT many rows := by
  unfold outT
  rw [List.mem_filterMap]
  exact ⟨_, h, by simp⟩
theorem told_has {many f k s : Nat} {rows : List Row} (H : Hs many rows) (h : (.take many f k, s) ∈ rows) : ∃ S, aget (bearing many rows).bo (f, k) = some S := by
  obtain ⟨l, e, _⟩ := H.outT.2 _ (mem_outT h)
  have := (binv H.valid).has (f, k)
  unfold ahas at this
  rw [e] at this
  exact Option.isSome_iff_exists.mp this
theorem trun_ti {tabs : Tabs} (ok : TabsOk tabs) {ds : List TD} {st : TS} (h : TRun tabs ds st) : ∀ {R W}, LRun tabs ds R W → ds.length ≤ 32 → TI tabs ds st := by
  induction h with
  | nil => exact fun _ _ => ⟨.nil, (fun f k s z => by cases z), Nat.le_refl _, rfl⟩
  | @snoc ds td st st' h0 d ih =>
    intro R W hr hl
    rw [List.length_append] at hl
    simp only [List.length_singleton] at hl
    obtain ⟨R0, W0, s', T', g1, g2, g3, g4, rfl, rfl⟩ := lrun_inv hr
    have I := ih g1 (by omega)
    have dr : LDraw tabs.length st.rows st.wr td := tsim_draw (st' := lst_ st.rows st.wr) (lrun_sim g1 I.run) g2
    obtain ⟨d', e1, e2⟩ := does_lst (draw_nofall dr) d
    obtain ⟨T, f1, f2, f3, f4⟩ := tell_spec tabs.length st'
    have li0 := lrun_li ok I.run (by omega)
    have li := li_does ok li0 (by omega) dr d'
    have H' : Hs tabs.length st'.rows := li.hs
    have run : LRun tabs (ds ++ [td]) (tellS tabs.length st').rows st'.wr := by
      rw [f1]
      show LRun tabs (ds ++ [td]) ((lst_ st'.rows st'.wr).rows ++ T.map (tkRow tabs.length)) (lst_ st'.rows st'.wr).wr
      exact .snoc I.run dr d' ⟨f3.nd, f4, fun q hq => f3.tellable H' q hq⟩
    obtain ⟨add, a1, a2, a3⟩ := does_add dr li0.wrc d
    have tw1 : ToldWr tabs.length st'.rows st'.wr := by
      intro f k s hm
      rw [a1] at hm
      rcases List.mem_append.mp hm with e | e
      · obtain ⟨S, hS⟩ := told_has li0.hs e
        have hw := I.tw f k s e
        rw [hS] at hw
        have hb := bo_ext add (by rw [← a1]; exact H'.valid) hS
        rw [a1, hb]
        exact allWritten_mono (fun q _ => a3 q.1) hw
      · exact absurd e (a2 f k s)
    refine ⟨run, ?_, ?_, ?_⟩
    · intro f k s hm
      show allWritten st'.wr _ = true
      rw [f1] at hm ⊢
      rw [bo_tells]
      rcases List.mem_append.mp hm with e | e
      · exact tw1 f k s e
      · obtain ⟨q, hq, e3⟩ := List.mem_map.mp e
        have := (f3.way q hq).2.2
        cases e3
        exact this
    · rw [f1, f2, e1, List.length_append, List.length_map, a1, List.length_append]
      have := I.told
      omega
    · show st'.falls = []
      rw [e2]; exact I.falls
end Lor
end

section
set_option Elab.async false
set_option linter.all false
set_option maxRecDepth 10000
set_option maxHeartbeats 1000000
/-! the plain law: whole -/
namespace Lor
theorem li_sound {tabs : Tabs} {n : Nat} {st : TS} (I : LI tabs n (lst_ st.rows st.wr)) (hn : n ≤ 31) (ht : st.told.length ≤ st.rows.length) (hf : st.falls = []) : Sound tabs st := by
  have fw : st.rows.length ≤ 7 * n := I.few
  refine ⟨I.hs.valid, by omega, I.wlen, I.wrc, fun h hh => ?_, by omega, by rw [hf]; exact Nat.zero_le _⟩
  have : count st.rows h ≤ n := I.cnt h hh
  omega
theorem draw_legal {tabs : Tabs} {n : Nat} {st : TS} {td : TD} (I : LI tabs n (lst_ st.rows st.wr)) (hn : n ≤ 31) (d : LDraw tabs.length st.rows st.wr td) : Legal tabs st td ∧ FormOk tabs.length td := by
  have fw : st.rows.length ≤ 7 * n := I.few
  cases td with
  | put h x => exact ⟨d, d⟩
  | step h f k =>
    obtain ⟨hh, w, hl⟩ := d
    have G : GSh tabs.length st.rows (going (tabs.length + 1) st.rows) := gsh I.hs.valid
    have L : LSh tabs.length st.rows (going (tabs.length + 1) st.rows) (bearing tabs.length st.rows) := I.hs.lsh
    have a := (G.ls f k).mp (by unfold ahas; rw [hl]; rfl)
    have b := L.to f k _ hl
    have k4 : k ≤ 400 := by
      have : (sendsOf st.rows f).length ≤ st.rows.length := by unfold sendsOf; rw [List.length_map]; exact List.length_filter_le _ _
      omega
    exact ⟨⟨hh, a.1, fun z => b.1 z.symm, k4, w, hl⟩, hh, a.1, k4⟩
  | write h => exact ⟨d, d.1⟩
  | keep h => exact ⟨d, d⟩
  | fall l => exact d.elim
theorem leaves_draw {tabs : Tabs} {n : Nat} {al : Bool} {st : TS} {td : TD} (ok : TabsOk tabs) (I : LI tabs n (lst_ st.rows st.wr)) (hn : n ≤ 30) (ht : st.told.length ≤ st.rows.length) (hf : st.falls = []) (d : LDraw tabs.length st.rows st.wr td) : Leaves tabs al st td := by
  obtain ⟨lg, fo⟩ := draw_legal I (by omega) d
  refine ⟨li_sound I (by omega) ht hf, lg, fo, fun st' e => ?_⟩
  obtain ⟨d', e1, e2⟩ := does_lst (draw_nofall d) e
  have li := li_does ok I (by omega) d d'
  obtain ⟨T, f1, f2, f3, f4⟩ := tell_spec tabs.length st'
  have li2 : LI tabs (n + 1) (tellS tabs.length st') := li_tells li f3.nd (fun q hq => f3.tellable li.hs q hq) f1 rfl
  have fw : st'.rows.length ≤ 7 * (n + 1) := li.few
  have fw2 := li2.few
  have fw0 : st.rows.length ≤ 7 * n := I.few
  exact ⟨⟨li.hs.valid, by omega⟩, li.wlen, by rw [e1]; omega, by omega⟩
theorem leaves_fall {tabs : Tabs} {n : Nat} {al : Bool} {st : TS} {l : List Nat} (I : LI tabs n (lst_ st.rows st.wr)) (hn : n ≤ 30) (ht : st.told.length ≤ st.rows.length) (hf : st.falls = []) (tw : ToldWr tabs.length st.rows st.wr) (lo : LotOk tabs.length l) (l10 : l.length ≤ 10) : Leaves tabs al st (.fall l) := by
  refine ⟨li_sound I (by omega) ht hf, lo, ⟨lo, l10⟩, fun st' e => ?_⟩
  have fw0 : st.rows.length ≤ 7 * n := I.few
  have ho : nOut tabs.length st.rows ≤ 3 * n := I.out
  cases e with
  | fall l c hk =>
    have v : Valid tabs.length (fallS tabs.length st c).rows := fall_valid (st := st) I.hs tw hk
    have len : (fallS tabs.length st c).rows.length ≤ st.rows.length := List.length_filter_le _ _
    obtain ⟨T, f1, f2, f3, f4⟩ := tell_spec tabs.length (fallS tabs.length st c)
    have tl := outs_len v f3.nd (fun q hq => (f3.way q hq).1)
    have no : nOut tabs.length (fallS tabs.length st c).rows ≤ nOut tabs.length st.rows := by
      unfold nOut fallS
      exact (List.Sublist.filter _ List.filter_sublist).length_le
    refine ⟨⟨v, by omega⟩, ?_, ?_, ?_⟩
    · show ((List.range tabs.length).map _).length = _
      rw [List.length_map, List.length_range]
    · show st.told.length ≤ 1000
      omega
    · rw [f1, List.length_append, List.length_map]
      omega
theorem ownD_tells {many h : Nat} (hh : h < many) (rows : List Row) (T : List Nm) : ownD (rows ++ T.map (tkRow many)) h = ownD rows h := by
  unfold ownD
  rw [List.map_append, List.filter_append]
  have : ((T.map (tkRow many)).map (·.1)).filter (fun d => decide (d.hand = h)) = [] := by
    rw [List.filter_eq_nil_iff]
    intro d hd
    obtain ⟨r, hr, e⟩ := List.mem_map.mp hd
    obtain ⟨q, _, e2⟩ := List.mem_map.mp hr
    rw [← e, ← e2]
    show ¬ decide (many = h) = true
    rw [decide_eq_true_eq]
    omega
  rw [this, List.append_nil]
theorem fall_right {tabs : Tabs} {n : Nat} {st : TS} {l c1 c2 : List Nat} (I : LI tabs n (lst_ st.rows st.wr)) (lo : LotOk tabs.length l) (h1 : Kept tabs.length st l false c1) (h2 : Kept tabs.length st l true c2) : FallRight tabs.length st l c1 c2 := by
  have K : KSh tabs.length st.rows (bearing tabs.length st.rows) := I.hs.ksh
  have tai := fun p hp => (ta_inv (rows := st.rows) I.hs.valid p hp).2
  have less := kept_less h1 h2
  refine ⟨less, kept_safe K tai h2, fun e h hh => by rw [kept_all lo e h1 h2], fun h hh => ?_⟩
  obtain ⟨T1, f1, _⟩ := tell_spec tabs.length (fallS tabs.length st c1)
  obtain ⟨T2, g1, _⟩ := tell_spec tabs.length (fallS tabs.length st c2)
  rw [f1, g1, ownD_tells hh, ownD_tells hh]
  exact ownD_pre hh (Hs.srt (rows := st.rows) I.hs).pw (less h hh)
theorem trun_li {tabs : Tabs} (ok : TabsOk tabs) {ds : List TD} {st : TS} (t : TI tabs ds st) (hl : ds.length ≤ 30) : LI tabs ds.length (lst_ st.rows st.wr) := lrun_li ok t.run (by omega)
theorem math {tabs : Tabs} (ok : TabsOk tabs) : Math tabs := by
  refine ⟨fun ds rows wr h hl => ?_, fun ds rows wr h hl ds1 td ds2 st al e ht => ?_, fun ds rows wr h hl st ht => ?_⟩
  · have I := lrun_li ok h (by omega)
    have fw : rows.length ≤ 7 * ds.length := I.few
    refine ⟨I.hs.valid, by omega, I.wlen, I.wrc, fun td st' d e => ?_⟩
    have li := li_does ok I (by omega) d e
    have fw2 := li.few
    exact ⟨li.hs.valid, by omega⟩
  · subst e
    have e2 : ds1 ++ td :: ds2 = (ds1 ++ [td]) ++ ds2 := by simp
    rw [e2] at h hl
    rw [List.length_append, List.length_append] at hl
    simp only [List.length_singleton] at hl
    obtain ⟨R1, W1, r1⟩ := lrun_pre _ ds2 rfl h
    obtain ⟨R0, W0, s', T', g1, g2, _⟩ := lrun_inv r1
    have t := trun_ti ok ht g1 (by omega)
    have dr : LDraw tabs.length st.rows st.wr td := tsim_draw (st' := lst_ st.rows st.wr) (lrun_sim g1 t.run) g2
    exact leaves_draw ok (trun_li ok t (by omega)) (by omega) t.told t.falls dr
  · have t := trun_ti ok ht h (by omega)
    have I := trun_li ok t hl
    have fw : st.rows.length ≤ 7 * ds.length := I.few
    refine ⟨⟨I.hs.valid, by omega⟩, by omega, I.wlen, fun h hh => ?_, by have := t.told; omega, fun l lo l10 => ⟨leaves_fall I hl t.told t.falls t.tw lo l10, leaves_fall I hl t.told t.falls t.tw lo l10, fun c1 c2 h1 h2 => fall_right I lo h1 h2⟩, fun c c' h1 h2 => kept_uniq rfl h1 h2⟩
    have a : st.wr.getD h 0 ≤ count st.rows h := I.wrc h hh
    have b : count st.rows h ≤ ds.length := I.cnt h hh
    omega
end Lor
end

section
set_option Elab.async false
set_option linter.all false
set_option maxRecDepth 100000
set_option maxHeartbeats 4000000
/-! the facts of the head, and the law's def over them -/
namespace Lor
open PySem PySem.Spec PyProof.Rows L2
def gD (x : Str) (i : Nat) : He.FnD := ⟨(x, none), x, x, defArgs (top i), defBody (top i), defScope (top i)⟩
def mD (cn m q : Str) (i j : Nat) : He.FnD := ⟨(cn, some m), m, q, defArgs (inClass (top i) j), defBody (inClass (top i) j), defScope (inClass (top i) j)⟩
def fas : List He.Fa := [.glo "is_whole", .keep "is_whole", .glo "is_within", .keep "is_within", .glo "taken_worth", .keep "taken_worth", .glo "are_targets", .keep "are_targets", .glo "are_tables", .keep "are_tables", .glo "are_fallen", .keep "are_fallen", .glo "settled", .keep "settled", .glo "lost_by", .keep "lost_by", .glo "_law_pool", .keep "_law_pool", .glo "_law_take", .keep "_law_take", .glo "_law_tables", .keep "_law_tables", .glo "_law_town", .keep "_law_town", .glo "_law_town_walk", .keep "_law_town_walk", .glo "_law_town_count", .keep "_law_town_count", .glo "_law_town_sends", .keep "_law_town_sends", .glo "_law_town_write", .keep "_law_town_write", .glo "_law_town_tell", .keep "_law_town_tell", .glo "_law_town_done", .keep "_law_town_done", .glo "_law_town_waiting", .keep "_law_town_waiting", .glo "_law_town_takes", .keep "_law_town_takes", .glo "_law_town_deed", .keep "_law_town_deed", .glo "_law_town_drawn", .keep "_law_town_drawn", .glo "_law_own", .keep "_law_own", .glo "_law_fall_right", .keep "_law_fall_right", .glo "_law_lots", .keep "_law_lots", .glo "law", .keep "law", .meth "Going" "__init__", .meth "Going" "can", .meth "Going" "do", .meth "Bearing" "__init__", .meth "Town" "__init__", .meth "Town" "going", .meth "Town" "bearing", .meth "Town" "count_of", .meth "Town" "do", .meth "Town" "is_form", .meth "Town" "is_hand", .meth "Town" "do_form", .meth "Town" "put", .meth "Town" "step", .meth "Town" "send_all", .meth "Town" "write", .meth "Town" "tell", .meth "Town" "first_untold", .meth "Town" "kept_by", .meth "Town" "cut_down", .meth "Town" "back_by", .meth "Town" "fall", .meth "Town" "settled_steps", .meth "Town" "history", .meth "Town" "falls", .meth "Town" "told", .meth "Town" "take_over", .meth "Town" "twin", .glo "Going", .cls "Going", .mkr "Going", .noat "Going" "worths", .noat "Going" "moods", .noat "Going" "rows", .noat "Going" "sent", .noat "Going" "all_letters", .glo "Bearing", .cls "Bearing", .mkr "Bearing", .noat "Bearing" "own_known", .noat "Bearing" "borne", .noat "Bearing" "step_of", .noat "Bearing" "takers", .glo "Town", .cls "Town", .mkr "Town", .noat "Town" "own_tables", .noat "Town" "own_way", .noat "Town" "own_many", .noat "Town" "rows", .noat "Town" "own_written", .noat "Town" "told_rows", .noat "Town" "fall_rows", .noat "Town" "begun_from", .noat "Town" "done", .free "isinstance", .free "int", .free "bool", .free "str", .free "tuple", .free "list", .free "dict", .free "len", .free "range", .free "all", .free "enumerate", .free "zip", .free "min", .free "max", .free "abs", .free "sorted", .str "UP" "up", .str "REST" "rest", .str "WAIT" "wait", .str "ALONG" "along", .int "MOST_WORTH" 999, .int "MOST_DEEDS" 400, .int "MOST_TARGETS" 3, .int "FEWEST" 2, .int "MOST" 6, .int "MOST_TUPLES" 4, .glo "WAYS"]
def fns : List He.FnD := [gD "is_whole" 13, gD "is_within" 14, gD "taken_worth" 15, gD "are_targets" 26, gD "are_tables" 27, gD "are_fallen" 28, gD "settled" 32, gD "lost_by" 33, gD "_law_pool" 35, gD "_law_take" 36, gD "_law_tables" 37, gD "_law_town" 38, gD "_law_town_walk" 39, gD "_law_town_count" 40, gD "_law_town_sends" 41, gD "_law_town_write" 42, gD "_law_town_tell" 47, gD "_law_town_done" 48, gD "_law_town_waiting" 49, gD "_law_town_takes" 50, gD "_law_town_deed" 52, gD "_law_town_drawn" 53, gD "_law_own" 54, gD "_law_fall_right" 55, gD "_law_lots" 56, gD "law" 57, mD "Going" "__init__" "Going.__init__" 16 0, mD "Going" "can" "Going.can" 16 1, mD "Going" "do" "Going.do" 16 2, mD "Bearing" "__init__" "Bearing.__init__" 29 0, mD "Town" "__init__" "Town.__init__" 30 0, mD "Town" "going" "Town.going" 30 1, mD "Town" "bearing" "Town.bearing" 30 2, mD "Town" "count_of" "Town.count_of" 30 3, mD "Town" "do" "Town.do" 30 4, mD "Town" "is_form" "Town.is_form" 30 5, mD "Town" "is_hand" "Town.is_hand" 30 6, mD "Town" "do_form" "Town.do_form" 30 7, mD "Town" "put" "Town.put" 30 8, mD "Town" "step" "Town.step" 30 9, mD "Town" "send_all" "Town.send_all" 30 10, mD "Town" "write" "Town.write" 30 11, mD "Town" "tell" "Town.tell" 30 12, mD "Town" "first_untold" "Town.first_untold" 30 13, mD "Town" "kept_by" "Town.kept_by" 30 14, mD "Town" "cut_down" "Town.cut_down" 30 15, mD "Town" "back_by" "Town.back_by" 30 16, mD "Town" "fall" "Town.fall" 30 17, mD "Town" "settled_steps" "Town.settled_steps" 30 18, mD "Town" "history" "Town.history" 30 20, mD "Town" "falls" "Town.falls" 30 24, mD "Town" "told" "Town.told" 30 27, mD "Town" "take_over" "Town.take_over" 30 29, mD "Town" "twin" "Town.twin" 30 30]
section
variable {P : Program} {w : World} {K : PySem.W.Frag} {mg : Str → Option Value} {base h : Heap}
theorem def_at (X : K.In h) (G : h.Ns mainGlobals mg) (c : He.SaysE fas fns K) {x : Str} {n : Nat} (g : (He.Fa.glo x).ok K = true) (k : (He.Fa.keep x).ok K = true) (i : Nat) (e : fns[i]? = some (gD x n)) : DefAt K mg x (top n) := by
  obtain ⟨oc, od, osl, kV, doc, pm, an, cdv, ct, l, hc⟩ := c.def_ i e
  exact ⟨He.ga K x, _, He.glo_ok X G g, fun_mk (st := top n) l hc k⟩
theorem meth_at (c : He.SaysE fas fns K) {cn m q : Str} {n j : Nat} (g : (He.Fa.meth cn m).ok K = true) (i : Nat) (e : fns[i]? = some (mD cn m q n j)) : MethAt K (He.ga K cn) m q (inClass (top n) j) := by
  obtain ⟨oc, od, osl, kV, doc, pm, an, cdv, ct, l, hc⟩ := c.def_ i e
  have M := He.meth_ok g
  exact ⟨He.ma K (He.ga K cn) m, _, M, fun_mk (st := inClass (top n) j) l hc M.kp⟩
theorem mk_at (X : K.In h) (G : h.Ns mainGlobals mg) (c : He.SaysE fas fns K) {cn q : Str} {n j : Nat} (a : (He.Fa.glo cn).ok K = true) (b : (He.Fa.mkr cn).ok K = true) (g : (He.Fa.meth cn "__init__").ok K = true) (i : Nat) (e : fns[i]? = some (mD cn "__init__" q n j)) : MkAt K mg cn (He.ga K cn) q (inClass (top n) j) := by
  obtain ⟨oc, od, osl, kV, doc, pm, an, cdv, ct, l, hc⟩ := c.def_ i e
  have M := He.meth_ok g
  exact ⟨He.ma K (He.ga K cn) "__init__", _, He.glo_ok X G a, He.mkr_ok b, fun_mk (st := inClass (top n) j) l hc M.kp⟩
theorem val_str (X : K.In h) (G : h.Ns mainGlobals mg) {x z : Str} (c : (He.Fa.str x z).ok K = true) : Val mg x (.str z) := let ⟨t, e⟩ := He.str_ok X G c; ⟨_, e, t, rfl⟩
theorem val_int (X : K.In h) (G : h.Ns mainGlobals mg) {x : Str} {i : Int} (c : (He.Fa.int x i).ok K = true) : Val mg x (.int i) := let ⟨t, e⟩ := He.int_ok X G c; ⟨_, e, t, rfl⟩
theorem bl_at (X : K.In h) (G : h.Ns mainGlobals mg) (c : He.SaysE fas fns K) : Bl mg :=
  ⟨He.free_ok X G (c.fact 107 rfl), He.free_ok X G (c.fact 108 rfl), He.free_ok X G (c.fact 109 rfl), He.free_ok X G (c.fact 110 rfl), He.free_ok X G (c.fact 111 rfl), He.free_ok X G (c.fact 112 rfl), He.free_ok X G (c.fact 113 rfl), He.free_ok X G (c.fact 114 rfl), He.free_ok X G (c.fact 115 rfl), He.free_ok X G (c.fact 116 rfl), He.free_ok X G (c.fact 117 rfl), He.free_ok X G (c.fact 118 rfl), He.free_ok X G (c.fact 119 rfl), He.free_ok X G (c.fact 120 rfl), He.free_ok X G (c.fact 121 rfl), He.free_ok X G (c.fact 122 rfl)⟩
theorem go_at (c : He.SaysE fas fns K) : GoC K (He.ga K "Going") :=
  ⟨He.cls_ok (c.fact 81 rfl), He.noat_ok (c.fact 83 rfl), He.noat_ok (c.fact 84 rfl), He.noat_ok (c.fact 85 rfl), He.noat_ok (c.fact 86 rfl), He.noat_ok (c.fact 87 rfl)⟩
theorem be_at (c : He.SaysE fas fns K) : BeC K (He.ga K "Bearing") :=
  ⟨He.cls_ok (c.fact 89 rfl), He.noat_ok (c.fact 91 rfl), He.noat_ok (c.fact 92 rfl), He.noat_ok (c.fact 93 rfl), He.noat_ok (c.fact 94 rfl)⟩
theorem to_at (c : He.SaysE fas fns K) : ToC K (He.ga K "Town") :=
  ⟨He.cls_ok (c.fact 96 rfl), He.noat_ok (c.fact 98 rfl), He.noat_ok (c.fact 99 rfl), He.noat_ok (c.fact 100 rfl), He.noat_ok (c.fact 101 rfl), He.noat_ok (c.fact 102 rfl), He.noat_ok (c.fact 103 rfl), He.noat_ok (c.fact 104 rfl), He.noat_ok (c.fact 105 rfl), He.noat_ok (c.fact 106 rfl)⟩
/-- the town, of each way -/
structure TownG (P : Program) (w : World) (K : PySem.W.Frag) (mg : Str → Option Value) (base : Heap) (C : Addr) (tabs : Tabs) (al : Bool) : Prop where
  I : LMakK P w K mg base 5 "Town" "way" 1 C (spTInit C tabs al)
  D : LMet P w K mg base 8 C "do" (spDo C tabs al)
  H : LMet P w K mg base 1 C "history" (spHist C tabs al)
  T : LMet P w K mg base 1 C "told" (spTold C tabs al)
  S : LCal P w K mg base 6 "settled" (spSettled C tabs al)
  W : LMet P w K mg base 7 C "twin" (spTwin C tabs al)
  L : LCal P w K mg base 9 "lost_by" (spLost C tabs al)
theorem town_g {sd : Addr} {es : Array DictEntry} {sn : Nat} (X : K.In h) (G : h.Ns mainGlobals mg) (c : He.SaysE fas fns K) (wy : He.tupB K "WAYS" [.str "wait", .str "free", .str "along"] = true) (SA : SizesAt K w mg sd es sn) (tabs : Tabs) (al : Bool) : TownG P w K mg base (He.ga K "Town") tabs al := by
  have B := bl_at X G c
  have TG := go_at c
  have TB := be_at c
  have T := to_at c
  have WY : TupAt K mg "WAYS" [.str "wait", .str "free", .str "along"] := ⟨He.ga K "WAYS", ⟨_, He.glo_ok X G (c.fact 133 rfl), rfl⟩, fun H => He.tupB_ok wy H⟩
  have gWh := ok_whole (P := P) (w := w) (mg := mg) (base := base) (def_at X G c (c.fact 0 rfl) (c.fact 1 rfl) 0 rfl) B
  have gWi := ok_within (P := P) (w := w) (mg := mg) (base := base) (def_at X G c (c.fact 2 rfl) (c.fact 3 rfl) 1 rfl) gWh
  have gTk := ok_taken (P := P) (w := w) (mg := mg) (base := base) (def_at X G c (c.fact 4 rfl) (c.fact 5 rfl) 2 rfl) (val_int X G (c.fact 127 rfl))
  have gGi := ok_ginit (P := P) (w := w) (mg := mg) (base := base) (mk_at X G c (c.fact 80 rfl) (c.fact 82 rfl) (c.fact 52 rfl) 26 rfl) B TG (val_str X G (c.fact 123 rfl))
  have gGc := ok_gcan (P := P) (w := w) (mg := mg) (base := base) (meth_at c (c.fact 53 rfl) 27 rfl) TG (val_str X G (c.fact 123 rfl)) (val_str X G (c.fact 124 rfl))
  have gGd := ok_gdo (P := P) (w := w) (mg := mg) (base := base) (meth_at c (c.fact 54 rfl) 28 rfl) B TG (val_str X G (c.fact 123 rfl)) gTk
  have gCo := ok_count (P := P) (w := w) (mg := mg) (base := base) (tabs := tabs) (al := al) (meth_at c (c.fact 59 rfl) 33 rfl) B T
  have gGo := ok_going (P := P) (w := w) (mg := mg) (base := base) (tabs := tabs) (al := al) (meth_at c (c.fact 57 rfl) 31 rfl) T TG gGi gGd
  have gBi := ok_binit (P := P) (w := w) (mg := mg) (base := base) (mk_at X G c (c.fact 88 rfl) (c.fact 90 rfl) (c.fact 55 rfl) 29 rfl) B TB
  have gBe := ok_bearing (P := P) (w := w) (mg := mg) (base := base) (tabs := tabs) (al := al) (meth_at c (c.fact 58 rfl) 32 rfl) T gBi
  have gFu := ok_first (P := P) (w := w) (mg := mg) (base := base) (tabs := tabs) (al := al) (meth_at c (c.fact 69 rfl) 43 rfl) B T TG TB
  have gTe := ok_tell (P := P) (w := w) (mg := mg) (base := base) (meth_at c (c.fact 68 rfl) 42 rfl) B T TG TB gBe gGo gFu
  have gCu := ok_cut (P := P) (w := w) (mg := mg) (base := base) (tabs := tabs) (al := al) (meth_at c (c.fact 71 rfl) 45 rfl) B T TB
  have gKe := ok_kept (P := P) (w := w) (mg := mg) (base := base) (meth_at c (c.fact 70 rfl) 44 rfl) B T TB gBe gCo gCu
  have gBa := ok_back (P := P) (w := w) (mg := mg) (base := base) (meth_at c (c.fact 72 rfl) 46 rfl) B T gCo
  have gFa := ok_fall (P := P) (w := w) (mg := mg) (base := base) (meth_at c (c.fact 73 rfl) 47 rfl) B T (val_str X G (c.fact 126 rfl)) gKe gBa
  have gTg := ok_tgts (P := P) (w := w) (mg := mg) (base := base) (def_at X G c (c.fact 6 rfl) (c.fact 7 rfl) 3 rfl) B (val_int X G (c.fact 129 rfl)) gWi
  have gTa := ok_tabs (P := P) (w := w) (mg := mg) (base := base) (tabs := tabs) (def_at X G c (c.fact 8 rfl) (c.fact 9 rfl) 4 rfl) B (val_int X G (c.fact 130 rfl)) (val_int X G (c.fact 131 rfl)) (val_int X G (c.fact 132 rfl)) gTg
  have gFl := ok_fln (P := P) (w := w) (mg := mg) (base := base) (def_at X G c (c.fact 10 rfl) (c.fact 11 rfl) 5 rfl) B gWi
  have gTi := ok_tinit (P := P) (w := w) (mg := mg) (base := base) (al := al) (mk_at X G c (c.fact 95 rfl) (c.fact 97 rfl) (c.fact 56 rfl) 30 rfl) B T WY gTa
  have gOv := ok_over (P := P) (w := w) (mg := mg) (base := base) (tabs := tabs) (al := al) (meth_at c (c.fact 78 rfl) 52 rfl) B T
  have gTw := ok_twin (P := P) (w := w) (mg := mg) (base := base) (meth_at c (c.fact 79 rfl) 53 rfl) T gTi gOv
  have gHi := ok_hist (P := P) (w := w) (mg := mg) (base := base) (tabs := tabs) (al := al) (meth_at c (c.fact 75 rfl) 49 rfl) B T
  have gFs := ok_falls (P := P) (w := w) (mg := mg) (base := base) (tabs := tabs) (al := al) (meth_at c (c.fact 76 rfl) 50 rfl) B T
  have gTo := ok_told (P := P) (w := w) (mg := mg) (base := base) (tabs := tabs) (al := al) (meth_at c (c.fact 77 rfl) 51 rfl) B T
  have gSt := ok_steps (P := P) (w := w) (mg := mg) (base := base) (meth_at c (c.fact 74 rfl) 48 rfl) B T gKe
  have gHa := ok_hand (P := P) (w := w) (mg := mg) (base := base) (tabs := tabs) (al := al) (meth_at c (c.fact 62 rfl) 36 rfl) T gWi
  have gFo := ok_form (P := P) (w := w) (mg := mg) (base := base) (meth_at c (c.fact 61 rfl) 35 rfl) B T SA (val_int X G (c.fact 127 rfl)) (val_int X G (c.fact 128 rfl)) gWi gFl gHa
  have gPu := ok_put (P := P) (w := w) (mg := mg) (base := base) (tabs := tabs) (al := al) (meth_at c (c.fact 64 rfl) 38 rfl) T
  have gSe := ok_send (P := P) (w := w) (mg := mg) (base := base) (meth_at c (c.fact 66 rfl) 40 rfl) B T TG gGo gCo
  have gSp := ok_step (P := P) (w := w) (mg := mg) (base := base) (meth_at c (c.fact 65 rfl) 39 rfl) T TG (val_str X G (c.fact 125 rfl)) gGo gGc gCo gSe
  have gWr := ok_write (P := P) (w := w) (mg := mg) (base := base) (tabs := tabs) (al := al) (meth_at c (c.fact 67 rfl) 41 rfl) T (val_str X G (c.fact 125 rfl))
  have gDf := ok_doform (P := P) (w := w) (mg := mg) (base := base) (meth_at c (c.fact 63 rfl) 37 rfl) T gPu gSp gWr gCo gFa
  have gDo := ok_do (P := P) (w := w) (mg := mg) (base := base) (meth_at c (c.fact 60 rfl) 34 rfl) B T (val_int X G (c.fact 128 rfl)) gFo gTw gDf gTe gOv
  have gSd := ok_settled (P := P) (w := w) (mg := mg) (base := base) (def_at X G c (c.fact 12 rfl) (c.fact 13 rfl) 6 rfl) B gSt
  have gLo := ok_lost (P := P) (w := w) (mg := mg) (base := base) (def_at X G c (c.fact 14 rfl) (c.fact 15 rfl) 7 rfl) gTw gDo gFs
  exact ⟨gTi, gDo, gHi, gTo, gSd, gTw, gLo⟩
theorem law_g (X : K.In h) (G : h.Ns mainGlobals mg) (c : He.SaysE fas fns K) (T : ∀ tabs al, TownG P w K mg base (He.ga K "Town") tabs al) : LawG P w K mg base (He.ga K "Town") := by
  have B := bl_at X G c
  have gPo := ok_pool (P := P) (w := w) (mg := mg) (base := base) (def_at X G c (c.fact 16 rfl) (c.fact 17 rfl) 8 rfl) B
  have gTk := ok_take (P := P) (w := w) (mg := mg) (base := base) (def_at X G c (c.fact 18 rfl) (c.fact 19 rfl) 9 rfl)
  have gTs := ok_ltabs (P := P) (w := w) (mg := mg) (base := base) (def_at X G c (c.fact 20 rfl) (c.fact 21 rfl) 10 rfl) B gTk
  have gTn := fun tabs : Tabs => ok_ltown (P := P) (w := w) (mg := mg) (base := base) (tabs := tabs) (def_at X G c (c.fact 22 rfl) (c.fact 23 rfl) 11 rfl) B
  have gCn := fun tabs : Tabs => ok_lcount (P := P) (w := w) (mg := mg) (base := base) (tabs := tabs) (def_at X G c (c.fact 26 rfl) (c.fact 27 rfl) 13 rfl) B
  have gWa := fun tabs : Tabs => ok_lwalk (P := P) (w := w) (mg := mg) (base := base) (tabs := tabs) (def_at X G c (c.fact 24 rfl) (c.fact 25 rfl) 12 rfl) B
  have gSe := fun tabs : Tabs => ok_lsends (P := P) (w := w) (mg := mg) (base := base) (def_at X G c (c.fact 28 rfl) (c.fact 29 rfl) 14 rfl) B (gWa tabs) (gCn tabs)
  have gWr := fun tabs : Tabs => ok_lwrite (P := P) (w := w) (mg := mg) (base := base) (tabs := tabs) (def_at X G c (c.fact 30 rfl) (c.fact 31 rfl) 15 rfl)
  have gTe := fun tabs : Tabs => ok_ltell (P := P) (w := w) (mg := mg) (base := base) (def_at X G c (c.fact 32 rfl) (c.fact 33 rfl) 16 rfl) B (gWa tabs)
  have gDn := fun tabs : Tabs => ok_ldone (P := P) (w := w) (mg := mg) (base := base) (def_at X G c (c.fact 34 rfl) (c.fact 35 rfl) 17 rfl) (gCn tabs) (gSe tabs) (gWr tabs) (gTe tabs)
  have gWt := fun tabs : Tabs => ok_lwait (P := P) (w := w) (mg := mg) (base := base) (def_at X G c (c.fact 36 rfl) (c.fact 37 rfl) 18 rfl) B (gWa tabs)
  have gTa := fun tabs : Tabs => ok_ltakes (P := P) (w := w) (mg := mg) (base := base) (def_at X G c (c.fact 38 rfl) (c.fact 39 rfl) 19 rfl) B (gWa tabs) (gWt tabs) (gCn tabs)
  have gDe := fun tabs : Tabs => ok_ldeed (P := P) (w := w) (mg := mg) (base := base) (def_at X G c (c.fact 40 rfl) (c.fact 41 rfl) 20 rfl) B gTk (gTa tabs) (gCn tabs)
  have gDr := fun tabs : Tabs => ok_ldrawn (P := P) (w := w) (mg := mg) (base := base) (def_at X G c (c.fact 42 rfl) (c.fact 43 rfl) 21 rfl) B gTk (gTn tabs) (gDe tabs) (gDn tabs)
  have gOw := fun tabs : Tabs => ok_lown (P := P) (w := w) (mg := mg) (base := base) (tabs := tabs) (def_at X G c (c.fact 44 rfl) (c.fact 45 rfl) 22 rfl)
  have gLl := ok_llots (P := P) (w := w) (mg := mg) (base := base) (def_at X G c (c.fact 48 rfl) (c.fact 49 rfl) 24 rfl) B
  have gFr := fun tabs : Tabs => ok_fr (P := P) (w := w) (mg := mg) (base := base) (def_at X G c (c.fact 46 rfl) (c.fact 47 rfl) 23 rfl) B (T tabs false).L (T tabs true).L (T tabs false).W (T tabs true).W (T tabs false).D (T tabs true).D (T tabs false).H (T tabs true).H (gOw tabs)
  exact ⟨gPo, gTs, gDr, fun tabs => (T tabs false).I, fun tabs => (T tabs true).I, fun tabs => (T tabs false).D, fun tabs => (T tabs true).D, fun tabs => (T tabs false).H, fun tabs => (T tabs true).H, fun tabs => (T tabs false).T, fun tabs => (T tabs true).T, fun tabs => (T tabs false).S, fun tabs => (T tabs true).S, gLl, gFr⟩
theorem law_at {sd : Addr} {es : Array DictEntry} {sn : Nat} {fa : Addr} (X : K.In h) (G : h.Ns mainGlobals mg) (c : He.SaysE fas fns K) (wy : He.tupB K "WAYS" [.str "wait", .str "free", .str "along"] = true) (SA : SizesAt K w mg sd es sn) (hfa : mg ("law" : Str) = some (.ref fa)) :
    ∃ fd : FuncData, (∀ (s : Shared) (u : Value), BindsTo s fd ⟨[u], []⟩ [("_law_script", u)]) ∧ ∀ base : Heap, K.In base → base.Ns mainGlobals mg → FnOk P w K mg base CX0 11 fa fd ["_law_script"] (spLaw K) := by
  obtain ⟨f, fd, hf, F⟩ := (def_at X G c (c.fact 50 rfl) (c.fact 51 rfl) 25 rfl)
  have e := hfa.symm.trans hf
  cases e
  refine ⟨fd, fun s u => ?_, fun base _ _ => ok_law F (bl_at X G c) (law_g X G c fun tabs al => town_g X G c wy SA tabs al) fun tabs ok => math ok⟩
  obtain ⟨oc, od, kV, doc, pm, an, cdv, ct, osl, rfl, lk, hcd⟩ := F.ex
  exact PySem.BindsTo.of_eq rfl
theorem walk (l : PySem.W.OpenLaw) {q : Program} {loose : List Str} {XP : (Str → Option Value) → Heap → Prop} {YP : World → Heap → Prop} {d : DefRec} {K : Params → PySem.W.Frag} (hn : l.most = some 63) (hdf : d.params.defaults = [])
    (hY : ∀ (w : World) (h : Heap), YP w h → (K w.params).In h)
    (F : ∀ (w : World) (mg : Str → Option Value) (fa : Addr) (h : Heap), (K w.params).In h → h.Ns mainGlobals mg → mg d.name = some (.ref fa) →
      ∃ fd : FuncData, (∀ (s : Shared) (u : Value), BindsTo s fd ⟨[u], []⟩ [("_law_script", u)]) ∧ ∀ base : Heap, (K w.params).In base → base.Ns mainGlobals mg → FnOk l.prog w (K w.params) mg base CX0 11 fa fd ["_law_script"] (spLaw (K w.params))) :
    PySem.W.WalkO q loose XP YP l.row.toRowW d [] (fun f vs => PySem.call f vs) :=
  L2.walk_of (n := 63) (k := 11) (x := "_law_script") (CX := fun _ => CX0) (sp := fun w => spLaw (K w.params)) hn (by decide) hdf ⟨rfl, by decide, by decide⟩ hY F (fun _ _ a ns hl _ hS => ⟨a, ns, rfl, hS, hl, fun _ => rfl⟩) fun _ _ _ _ _ z => z
end
end Lor
end

section
set_option Elab.async false
set_option maxRecDepth 100000
open PySem PySem.W PyProof.Rows
set_option maxHeartbeats 0
open_top lorhead for PySem.Challenge.rw_linesofreturn_k90_whole_along_loses_no_m
end

section
set_option Elab.async false
set_option linter.all false
set_option maxRecDepth 100000
set_option maxHeartbeats 0
namespace Lor
open PySem PySem.Spec PyProof.Rows L2
theorem sizes_mk {w : World} {K : PySem.W.Frag} {mg : Str → Option Value} {h : Heap} {d : Addr} {es : Array DictEntry} {n : Nat} (X : K.In h) (G : h.Ns mainGlobals mg) (g : PySem.W.nsIn K mainGlobals "SIZES" = some (some (.ref d))) (l : K.lookup d = some ⟨.type "dict", none, .dict es n, #[]⟩) (k : PySem.W.KeysLit w.params es.toList) (lo : (d == sysModules) = false)
    (h1 : ∃ t, PySem.W.nsIn K d "put" = some (some (.int 3 t))) (h2 : ∃ t, PySem.W.nsIn K d "step" = some (some (.int 4 t))) (h3 : ∃ t, PySem.W.nsIn K d "write" = some (some (.int 2 t))) (h4 : ∃ t, PySem.W.nsIn K d "keep" = some (some (.int 2 t))) (h5 : ∃ t, PySem.W.nsIn K d "fall" = some (some (.int 2 t))) :
    ∃ (d : Addr) (es : Array DictEntry) (n : Nat), SizesAt K w mg d es n := ⟨d, es, n, ⟨_, PySem.W.mg_of X G g, rfl⟩, ⟨l, k, lo⟩, h1, h2, h3, h4, h5⟩
theorem law_at' {P : Program} {w : World} {K : PySem.W.Frag} {mg : Str → Option Value} {h : Heap} {fa : Addr} (X : K.In h) (G : h.Ns mainGlobals mg) (SA : ∃ (d : Addr) (es : Array DictEntry) (n : Nat), SizesAt K w mg d es n) (c : He.SaysE fas fns K) (wy : He.tupB K "WAYS" [.str "wait", .str "free", .str "along"] = true) (hfa : mg ("law" : Str) = some (.ref fa)) :
    ∃ fd : FuncData, (∀ (s : Shared) (u : Value), BindsTo s fd ⟨[u], []⟩ [("_law_script", u)]) ∧ ∀ base : Heap, K.In base → base.Ns mainGlobals mg → FnOk P w K mg base CX0 11 fa fd ["_law_script"] (spLaw K) := by
  obtain ⟨d, es, n, S⟩ := SA
  exact law_at X G c wy S hfa
end Lor
open PySem PySem.W PyProof.Rows
theorem PySem.Challenge.cw_linesofreturn_k90_whole_along_loses_no_m_holds : PySem.Challenge.rw_linesofreturn_k90_whole_along_loses_no_m.Holds :=
 lorhead (by
  k_fill
  refine Lor.walk (PySem.Challenge.rw_linesofreturn_k90_whole_along_loses_no_m) rfl rfl (fun w h Y => PySem.W.kIn_of Y) ?F
  case F =>
    intro w mg fa h KX G hmg
    refine Lor.law_at' KX G ?S ?c ?y hmg
    case S =>
      refine' Lor.sizes_mk KX G ?g ?l ?k ?lo ?h1 ?h2 ?h3 ?h4 ?h5
      (case g => k_is)
      (case l => k_is)
      (case k => exact ⟨⟨_, _, rfl, rfl⟩, ⟨_, _, rfl, rfl⟩, ⟨_, _, rfl, rfl⟩, ⟨_, _, rfl, rfl⟩, ⟨_, _, rfl, rfl⟩, ⟨_, _, rfl, rfl⟩, trivial⟩)
      (case lo => decide)
      (case h1 => exact ⟨_, by k_is⟩)
      (case h2 => exact ⟨_, by k_is⟩)
      (case h3 => exact ⟨_, by k_is⟩)
      (case h4 => exact ⟨_, by k_is⟩)
      (case h5 => exact ⟨_, by k_is⟩)
    case c => (unfold He.SaysE; kernel_rfl)
    case y => kernel_rfl)
end
