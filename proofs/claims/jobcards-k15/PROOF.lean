import PyProof.Rows.All
import Wide.All
import OpenK.AllK
import Wide.FinOn
import KE.KStateDown
import Lean
import HandS.ForMost
import HandS.ForExc
import HandS.Defaults
import HandS.Head0
import HandS.Head1
import HandS.Head2
import HandS.HeadEnd
import HandS.HeadHook4
import PySem.Challenge.RW_jobcards_k15_written_and_read
import HandS.Walk
import HandS.TupAny
import HandS.IsInst
import HandS.Conv
import HandS.TupMul
import HandS.Wide
import HandS.Flow
import HandS.More
import KE.GoesMore
import KE.KDictLaws
import HandS.SortRule
import HandS.Deep
import HandS.SetFor
import HandS.Strs
import HandS.RevRange
import HandS.Style
import HandS.HeadHook3
import KE.KDictPairs
import KE.KDictList
import HandS.OwnEq
import KE.SortKeyHeap
import HandS.SortKw
import HandS.Text
set_option Elab.async false
set_option linter.all false
set_option maxRecDepth 100000
set_option maxHeartbeats 4000000
namespace Hd
open PySem PySem.Spec PyProof.Rows L2
def top (i : Nat) : Stmt := PySem.Challenge.pw_jobcards_k15_written_and_read.main.body.getD i (.Pass ⟨0, 0, 0, 0⟩)

abbrev sis_number : Stmt := (top 15)
abbrev sis_one_of : Stmt := (top 16)
abbrev sis_name : Stmt := (top 17)
abbrev sis_row : Stmt := (top 18)
abbrev sis_cond : Stmt := (top 19)
abbrev sis_card : Stmt := (top 20)
abbrev sneed_step_form : Stmt := (top 21)
abbrev sneed_deck : Stmt := (top 22)
abbrev swritten : Stmt := (top 29)
abbrev snumber_of : Stmt := (top 30)
abbrev sReader_u_init_u : Stmt := (inClass (top 31) 0)
abbrev sReader_reads : Stmt := (inClass (top 31) 1)
abbrev sread : Stmt := (top 32)
abbrev slaw_mix : Stmt := (top 34)
abbrev slaw_next : Stmt := (top 35)
abbrev slaw_card : Stmt := (top 36)
abbrev slaw_step : Stmt := (top 37)
abbrev slaw_deck : Stmt := (top 38)
abbrev slaw_alike : Stmt := (top 39)
abbrev slaw : Stmt := (top 40)
def fn : List He.DefD := [
  ⟨("is_number", none), "is_number", "is_number", defArgs sis_number, defBody sis_number, defScope sis_number, [], []⟩,
  ⟨("is_one_of", none), "is_one_of", "is_one_of", defArgs sis_one_of, defBody sis_one_of, defScope sis_one_of, [], []⟩,
  ⟨("is_name", none), "is_name", "is_name", defArgs sis_name, defBody sis_name, defScope sis_name, [], []⟩,
  ⟨("is_row", none), "is_row", "is_row", defArgs sis_row, defBody sis_row, defScope sis_row, [], []⟩,
  ⟨("is_cond", none), "is_cond", "is_cond", defArgs sis_cond, defBody sis_cond, defScope sis_cond, [], []⟩,
  ⟨("is_card", none), "is_card", "is_card", defArgs sis_card, defBody sis_card, defScope sis_card, [], []⟩,
  ⟨("need_step_form", none), "need_step_form", "need_step_form", defArgs sneed_step_form, defBody sneed_step_form, defScope sneed_step_form, [], []⟩,
  ⟨("need_deck", none), "need_deck", "need_deck", defArgs sneed_deck, defBody sneed_deck, defScope sneed_deck, [], []⟩,
  ⟨("written", none), "written", "written", defArgs swritten, defBody swritten, defScope swritten, [], []⟩,
  ⟨("number_of", none), "number_of", "number_of", defArgs snumber_of, defBody snumber_of, defScope snumber_of, [], []⟩,
  ⟨("Reader", some "__init__"), "__init__", "Reader.__init__", defArgs sReader_u_init_u, defBody sReader_u_init_u, defScope sReader_u_init_u, [], []⟩,
  ⟨("Reader", some "reads"), "reads", "Reader.reads", defArgs sReader_reads, defBody sReader_reads, defScope sReader_reads, [], []⟩,
  ⟨("read", none), "read", "read", defArgs sread, defBody sread, defScope sread, [], []⟩,
  ⟨("_law_mix", none), "_law_mix", "_law_mix", defArgs slaw_mix, defBody slaw_mix, defScope slaw_mix, [], []⟩,
  ⟨("_law_next", none), "_law_next", "_law_next", defArgs slaw_next, defBody slaw_next, defScope slaw_next, [], []⟩,
  ⟨("_law_card", none), "_law_card", "_law_card", defArgs slaw_card, defBody slaw_card, defScope slaw_card, [], []⟩,
  ⟨("_law_step", none), "_law_step", "_law_step", defArgs slaw_step, defBody slaw_step, defScope slaw_step, [], []⟩,
  ⟨("_law_deck", none), "_law_deck", "_law_deck", defArgs slaw_deck, defBody slaw_deck, defScope slaw_deck, [], []⟩,
  ⟨("_law_alike", none), "_law_alike", "_law_alike", defArgs slaw_alike, defBody slaw_alike, defScope slaw_alike, [], []⟩,
  ⟨("law", none), "law", "law", defArgs slaw, defBody slaw, defScope slaw, [], []⟩]
def fa : List He.Fa := [
  .glo "CardError",
  .glo "BadDeck",
  .glo "BadText",
  .int "MOST_STEPS" 6,
  .int "MOST_CONDS" 3,
  .int "MOST_CARDS" 4,
  .int "MOST_CODE" 9,
  .str "LETTERS" "abcdefghijklmnopqrstuvwxyz",
  .glo "FLAGS",
  .glo "WORDS",
  .glo "BEGINS",
  .glo "GOODS",
  .glo "BADS",
  .glo "is_number",
  .glo "is_one_of",
  .glo "is_name",
  .glo "is_row",
  .glo "is_cond",
  .glo "is_card",
  .glo "need_step_form",
  .glo "need_deck",
  .str "FIGURES" "0123456789",
  .str "ANY" "-",
  .str "STEP" "step",
  .str "COND" "cond",
  .str "CARD" "card",
  .glo "written",
  .glo "number_of",
  .glo "Reader",
  .cls "Reader",
  .mkr "Reader",
  .meth "Reader" "reads",
  .noat "Reader" "steps",
  .glo "read",
  .glo "_law_mix",
  .glo "_law_next",
  .glo "_law_card",
  .glo "_law_step",
  .glo "_law_deck",
  .glo "_law_alike",
  .glo "law",
  .free "isinstance",
  .free "len",
  .free "enumerate",
  .free "range",
  .free "max",
  .free "list",
  .free "tuple",
  .free "str",
  .free "int",
  .free "bool"]
def ts : List He.Tab := []
def ex (K : PySem.W.Frag) : Bool := (He.tupB K "FLAGS" [.str "plain", .str "even", .str "only"]) && (He.tupB K "WORDS" [.str "gt", .str "ge", .str "eq", .str "ne", .str "le", .str "lt"]) && (He.tupB K "BEGINS" [.str "old", .str "shr", .str "new", .str "mod"]) && (He.tupB K "GOODS" [.str "keep", .str "drop", .str "pass"]) && (He.tupB K "BADS" [.str "keep", .str "drop"])
def names0 : List PySem.Str := ["CardError", "BadDeck", "BadText", "MOST_STEPS", "MOST_CONDS", "MOST_CARDS", "MOST_CODE", "LETTERS", "FLAGS", "WORDS", "BEGINS", "GOODS", "BADS", "is_number", "is_one_of", "is_name", "is_row", "is_cond", "is_card", "need_step_form", "need_deck", "FIGURES", "ANY", "STEP", "COND", "CARD", "written", "number_of", "Reader", "read"]
def names1 : List PySem.Str := ["_law_mix", "_law_next", "_law_card", "_law_step", "_law_deck", "_law_alike"]
def names : List PySem.Str := names0 ++ names1
abbrev R : PySem.W.OpenRow := PySem.W.OpenLaw.row PySem.Challenge.rw_jobcards_k15_written_and_read
abbrev hk : PySem.W.Hook := He.hookX 5 fa fn ts [] ex
def ob (s : PySem.W.SharedT) : He.AlX := He.obsX 5 fa fn ts [] ex (HandSHeadRun.getT s)
theorem ob_eq (s : PySem.W.SharedT) : ob s = hk.obs s.abs := He.obsX_eq (HandSHeadRun.getT_eq s)
theorem run (w : World) : HandSHeadRun.RunEq R (PySem.W.view R.prog [40]) hk ob 5000 names w := by
  intro os
  kernel_rfl
end Hd

namespace DL
open PySem L2

/-- data: values as trees; ref n is the n-th cell of the store -/
inductive D where
  | non
  | bl (b : Bool)
  | int (i : Int)
  | str (s : Str)
  | tup (xs : List D)
  | lst (xs : List D)
  | scr (xs : List Int)
  | ref (n : Nat)
  | val (v : V)

/-- a cell of the store: what may change -/
inductive MO where
  | lst (xs : List D)
  | dct (kvs : List (Key × D))
  | ins (c : Str) (fs : List (Str × D))
  | dead

abbrev Sl := List (Option D)
abbrev Mem := List MO

inductive Res (α : Type) where
  | ok (a : α) (m : Mem)
  | exc (c : Str) (p : D) (m : Mem)
  | bad

def Res.bind {α β : Type} (r : Res α) (f : α → Mem → Res β) : Res β :=
  match r with
  | .ok a m => f a m
  | .exc c p m => .exc c p m
  | .bad => .bad

@[simp] theorem bind_ok {α β : Type} (a : α) (m : Mem) (f : α → Mem → Res β) : (Res.ok a m).bind f = f a m := rfl
@[simp] theorem bind_exc {α β : Type} (c : Str) (p : D) (m : Mem) (f : α → Mem → Res β) : (Res.exc c p m : Res α).bind f = .exc c p m := rfl
@[simp] theorem bind_bad {α β : Type} (f : α → Mem → Res β) : (Res.bad : Res α).bind f = .bad := rfl

inductive Flw where
  | nx (e : Sl)
  | rt (d : D)
  | bk (e : Sl)
  | ct (e : Sl)

abbrev EDen := Sl → Mem → Res D
abbrev ADen := Sl → Mem → Res (List D)
abbrev TDen := Sl → Mem → Res Bool
abbrev SDen := Sl → Mem → Res Flw

/-! ### data stand for values -/
section
variable (K : PySem.W.Frag) (G : Hp) (ph : List Addr)
mutual
def RepV : D → V → Prop
  | .non, v => v = .non
  | .bl b, v => v = .bl b
  | .int i, v => v = .int i
  | .str s, v => v = .str s
  | .tup ds, v => ∃ a vs, v = .ref a ∧ SqT K G a vs ∧ RepL ds vs
  | .lst ds, v => ∃ a vs, v = .ref a ∧ G a = some (.lst vs) ∧ RepL ds vs
  | .scr xs, v => ∃ a, v = .ref a ∧ SqL K G a (xs.map V.int)
  | .ref n, v => ∃ a, v = .ref a ∧ ph[n]? = some a
  | .val u, v => v = u
def RepL : List D → List V → Prop
  | [], vs => vs = []
  | d :: ds, vs => ∃ v r, vs = v :: r ∧ RepV d v ∧ RepL ds r
end
end

/-- the first list's places hold in the second -/
def Pre (a b : List Addr) : Prop := ∀ (n : Nat) (x : Addr), a[n]? = some x → b[n]? = some x
theorem Pre.refl (a : List Addr) : Pre a a := fun _ _ h => h
theorem Pre.trans {a b c : List Addr} (h : Pre a b) (k : Pre b c) : Pre a c := fun n x q => k n x (h n x q)
theorem Pre.snoc (a : List Addr) (x : Addr) : Pre a (a ++ [x]) := fun n y h => by
  have hn := (List.getElem?_eq_some_iff.mp h).1
  rw [List.getElem?_append_left hn]
  exact h

theorem sqT_mono {K : PySem.W.Frag} {G G' : Hp} (s : Same G G') {a : Addr} {vs : List V} (h : SqT K G a vs) : SqT K G' a vs := by
  rcases h with (h | ⟨o, h⟩) | h
  · exact .inl (.inl (s _ _ h))
  · exact .inl (.inr ⟨o, s _ _ h⟩)
  · exact .inr h
theorem sqL_mono {K : PySem.W.Frag} {G G' : Hp} (s : Same G G') {a : Addr} {vs : List V} (h : SqL K G a vs) : SqL K G' a vs := s.seq h

section
variable {K : PySem.W.Frag} {G G' : Hp} {ph ph' : List Addr}
mutual
theorem RepV.mono (s : Same G G') (p : Pre ph ph') : ∀ (d : D) (v : V), RepV K G ph d v → RepV K G' ph' d v
  | .non, _, h => h
  | .bl _, _, h => h
  | .int _, _, h => h
  | .str _, _, h => h
  | .tup ds, _, h => by
    obtain ⟨a, vs, e, h1, h2⟩ := h
    exact ⟨a, vs, e, sqT_mono s h1, RepL.mono s p ds vs h2⟩
  | .lst ds, _, h => by
    obtain ⟨a, vs, e, h1, h2⟩ := h
    exact ⟨a, vs, e, s _ _ h1, RepL.mono s p ds vs h2⟩
  | .scr xs, _, h => by
    obtain ⟨a, e, h1⟩ := h
    exact ⟨a, e, sqL_mono s h1⟩
  | .ref n, _, h => by
    obtain ⟨a, e, h1⟩ := h
    exact ⟨a, e, p _ _ h1⟩
  | .val _, _, h => h
theorem RepL.mono (s : Same G G') (p : Pre ph ph') : ∀ (ds : List D) (vs : List V), RepL K G ph ds vs → RepL K G' ph' ds vs
  | [], _, h => h
  | d :: ds, _, h => by
    obtain ⟨v, r, e, h1, h2⟩ := h
    exact ⟨v, r, e, RepV.mono s p d v h1, RepL.mono s p ds r h2⟩
end
theorem RepL.length : ∀ {ds : List D} {vs : List V}, RepL K G ph ds vs → vs.length = ds.length
  | [], _, h => by
    have e : _ = [] := h
    rw [e]
    rfl
  | d :: ds, _, h => by
    obtain ⟨v, r, e, _, h2⟩ := h
    rw [e, List.length_cons, List.length_cons, RepL.length h2]
theorem RepL.get : ∀ {ds : List D} {vs : List V} {i : Nat} {d : D}, RepL K G ph ds vs → ds[i]? = some d → ∃ v, vs[i]? = some v ∧ RepV K G ph d v
  | [], _, i, d, _, e => by simp at e
  | d :: ds, _, 0, d', h, e => by
    obtain ⟨v, r, q, h1, _⟩ := h
    simp at e
    subst e q
    exact ⟨v, rfl, h1⟩
  | d :: ds, _, i + 1, d', h, e => by
    obtain ⟨v, r, q, _, h2⟩ := h
    subst q
    obtain ⟨w, a, b⟩ := RepL.get (i := i) (d := d') h2 (by simpa using e)
    exact ⟨w, by simpa using a, b⟩
theorem RepL.get_back {ds : List D} {vs : List V} {i : Nat} {v : V} (h : RepL K G ph ds vs) (e : vs[i]? = some v) : ∃ d, ds[i]? = some d ∧ RepV K G ph d v := by
  have hi : i < ds.length := by
    rw [← h.length]
    exact (List.getElem?_eq_some_iff.mp e).1
  have hd : ds[i]? = some ds[i] := List.getElem?_eq_getElem hi
  obtain ⟨w, a, b⟩ := h.get hd
  rw [e] at a
  cases a
  exact ⟨_, hd, b⟩
theorem RepL.append : ∀ {ds es : List D} {vs us : List V}, RepL K G ph ds vs → RepL K G ph es us → RepL K G ph (ds ++ es) (vs ++ us)
  | [], _, _, _, h, k => by
    have e : _ = [] := h
    rw [e]
    exact k
  | d :: ds, es, _, us, h, k => by
    obtain ⟨v, r, e, h1, h2⟩ := h
    rw [e]
    exact ⟨v, r ++ us, rfl, h1, RepL.append h2 k⟩
theorem RepL.one {d : D} {v : V} (h : RepV K G ph d v) : RepL K G ph [d] [v] := ⟨v, [], rfl, h, rfl⟩
theorem RepL.nil : RepL K G ph [] [] := rfl
theorem RepL.cons {d : D} {v : V} {ds : List D} {vs : List V} (h : RepV K G ph d v) (k : RepL K G ph ds vs) : RepL K G ph (d :: ds) (v :: vs) := ⟨v, vs, rfl, h, k⟩
theorem RepL.set : ∀ {ds : List D} {vs : List V} {i : Nat} {d : D} {v : V}, RepL K G ph ds vs → RepV K G ph d v → RepL K G ph (ds.set i d) (vs.set i v)
  | [], _, i, d, v, h, k => by
    have e : _ = [] := h
    rw [e]
    exact rfl
  | d :: ds, _, 0, d', v', h, k => by
    obtain ⟨v, r, e, _, h2⟩ := h
    rw [e]
    exact ⟨v', r, rfl, k, h2⟩
  | d :: ds, _, i + 1, d', v', h, k => by
    obtain ⟨v, r, e, h1, h2⟩ := h
    rw [e]
    exact ⟨v, r.set i v', rfl, h1, RepL.set (i := i) h2 k⟩
theorem RepL.ints {xs : List Int} : RepL K G ph (xs.map D.int) (xs.map V.int) := by
  induction xs with
  | nil => exact rfl
  | cons x r ih => exact ⟨.int x, _, rfl, rfl, ih⟩
end

/-! ### the store, the slots -/
/-- the context: the written part, where classes stand, an exception's own field, what is wanted of exceptions -/
structure Cn where
  K : PySem.W.Frag
  cl : Str → Addr
  xf : Str → Option Str
  E : XK

section
variable (C : Cn) (G : Hp) (ph : List Addr) (H : Hp)
def CellRep : MO → Addr → Prop
  | .lst ds, a => ∃ vs, H a = some (.lst vs) ∧ RepL C.K G ph ds vs
  | .dct kvs, a => ∃ kv : List (Key × V), H a = some (.dK kv) ∧ kv.map (·.1) = kvs.map (·.1) ∧ RepL C.K G ph (kvs.map (·.2)) (kv.map (·.2))
  | .ins c fs, a => ∃ (dx : Addr) (f : List (Str × V)), H a = some (.ins (C.cl c) dx f) ∧ f.map (·.1) = fs.map (·.1) ∧ RepL C.K G ph (fs.map (·.2)) (f.map (·.2))
  | .dead, _ => True
end

structure Mok (C : Cn) (m : Mem) (G : Hp) (ph : List Addr) (H : Hp) : Prop where
  sub : Same G H
  len : m.length = ph.length
  nd : ph.Nodup
  trk : ∀ a ∈ ph, H a ≠ none
  out : ∀ (n : Nat) (a : Addr) (mo : MO), ph[n]? = some a → m[n]? = some mo → mo ≠ .dead → G a = none
  cell : ∀ (n : Nat) (a : Addr) (mo : MO), ph[n]? = some a → m[n]? = some mo → CellRep C G ph H mo a

structure Ext (G : Hp) (ph : List Addr) (H : Hp) (G' : Hp) (ph' : List Addr) (H' : Hp) : Prop where
  g : Same G G'
  p : Pre ph ph'
  keep : ∀ a o, a ∉ ph → H a = some o → H' a = some o
  gnew : ∀ a, G a = none → G' a ≠ none → H a = none ∨ a ∈ ph
  pnew : ∀ a, a ∈ ph' → a ∈ ph ∨ H a = none
  there : ∀ a, H a ≠ none → H' a ≠ none

theorem Ext.refl (G : Hp) (ph : List Addr) (H : Hp) : Ext G ph H G ph H :=
  ⟨Same.refl G, Pre.refl ph, fun _ _ _ h => h, fun _ h k => absurd h k, fun _ h => .inl h, fun _ h => h⟩
theorem Ext.trans {G G1 G2 : Hp} {ph ph1 ph2 : List Addr} {H H1 H2 : Hp} (a : Ext G ph H G1 ph1 H1) (b : Ext G1 ph1 H1 G2 ph2 H2) : Ext G ph H G2 ph2 H2 where
  g := a.g.trans b.g
  p := a.p.trans b.p
  keep := fun x o hx h => by
    refine b.keep x o (fun hm => ?_) (a.keep x o hx h)
    rcases a.pnew x hm with q | q
    · exact hx q
    · rw [q] at h; cases h
  gnew := fun x h k => by
    by_cases q : G1 x = none
    · rcases b.gnew x q k with z | z
      · by_cases w : H x = none
        · exact .inl w
        · exact absurd z (a.there x w)
      · rcases a.pnew x z with y | y
        · exact .inr y
        · exact .inl y
    · exact a.gnew x h q
  pnew := fun x h => by
    rcases b.pnew x h with q | q
    · exact a.pnew x q
    · by_cases w : H x = none
      · exact .inr w
      · exact absurd q (a.there x w)
  there := fun x h => b.there x (a.there x h)

theorem upd_there {H : Hp} {a : Addr} {o : HO} {x : Addr} (h : H x ≠ none) : upd H a o x ≠ none := by
  by_cases q : x = a
  · subst q
    rw [upd_same]
    intro z
    cases z
  · rw [upd_ne q]
    exact h
theorem same_upd {G : Hp} {p : Addr} {o : HO} (h : G p = none) : Same G (upd G p o) := fun b u e => by
  rw [upd_ne (ne_of_none e h)]
  exact e
theorem same_none {G H : Hp} (s : Same G H) {p : Addr} (h : H p = none) : G p = none := by
  cases q : G p with
  | none => rfl
  | some o =>
    rw [s p o q] at h
    cases h

theorem CellRep.mono {C : Cn} {G G' : Hp} {ph ph' : List Addr} {H H' : Hp} (s : Same G G') (p : Pre ph ph') : ∀ {mo : MO} {a : Addr}, CellRep C G ph H mo a → (mo ≠ .dead → ∀ o, H a = some o → H' a = some o) → CellRep C G' ph' H' mo a
  | .lst ds, a, h, k => by
    obtain ⟨vs, e, r⟩ := h
    exact ⟨vs, k (by intro q; cases q) _ e, r.mono s p _ _⟩
  | .dct kvs, a, h, k => by
    obtain ⟨kv, e, q, r⟩ := h
    exact ⟨kv, k (by intro q; cases q) _ e, q, r.mono s p _ _⟩
  | .ins c fs, a, h, k => by
    obtain ⟨dx, f, e, q, r⟩ := h
    exact ⟨dx, f, k (by intro q; cases q) _ e, q, r.mono s p _ _⟩
  | .dead, _, _, _ => trivial

/-- a new object that never changes from now on -/
theorem Mok.frozen {C : Cn} {m : Mem} {G : Hp} {ph : List Addr} {H : Hp} (I : Mok C m G ph H) {p : Addr} (hp : H p = none) (o : HO) :
    Mok C m (upd G p o) ph (upd H p o) ∧ Ext G ph H (upd G p o) ph (upd H p o) := by
  have gp : G p = none := same_none I.sub hp
  have np : p ∉ ph := fun h => I.trk p h hp
  refine ⟨⟨fun b u e => ?_, I.len, I.nd, fun a ha => upd_there (I.trk a ha), fun n a mo h1 h2 h3 => ?_, fun n a mo h1 h2 => ?_⟩, ?_⟩
  · by_cases q : b = p
    · subst q
      rw [upd_same] at e ⊢
      exact e
    · rw [upd_ne q] at e ⊢
      exact I.sub b u e
  · have q : a ≠ p := fun z => np (by rw [← z]; exact List.mem_of_getElem? h1)
    rw [upd_ne q]
    exact I.out n a mo h1 h2 h3
  · have q : a ≠ p := fun z => np (by rw [← z]; exact List.mem_of_getElem? h1)
    refine (I.cell n a mo h1 h2).mono (same_upd gp) (Pre.refl ph) fun _ o e => ?_
    rw [upd_ne q]
    exact e
  · refine ⟨same_upd gp, Pre.refl ph, fun a u _ h => ?_, fun a h k => ?_, fun a h => .inl h, fun a h => upd_there h⟩
    · rw [upd_ne (ne_of_none h hp)]
      exact h
    · by_cases q : a = p
      · subst q
        exact .inl hp
      · rw [upd_ne q] at k
        exact absurd h k

/-- a new cell -/
theorem Mok.cellNew {C : Cn} {m : Mem} {G : Hp} {ph : List Addr} {H H' : Hp} (I : Mok C m G ph H) {p : Addr} (hp : H p = none) (hs : Same H H') (hq : H' p ≠ none) {mo : MO} (hc : CellRep C G (ph ++ [p]) H' mo p) :
    Mok C (m ++ [mo]) G (ph ++ [p]) H' ∧ Ext G ph H G (ph ++ [p]) H' := by
  have gp : G p = none := same_none I.sub hp
  have np : p ∉ ph := fun h => I.trk p h hp
  have pos : ∀ {n : Nat} {a : Addr} {o : MO}, (ph ++ [p])[n]? = some a → (m ++ [mo])[n]? = some o → (ph[n]? = some a ∧ m[n]? = some o) ∨ (n = ph.length ∧ a = p ∧ o = mo) := fun {n a o} h1 h2 => by
    by_cases hn : n < ph.length
    · rw [List.getElem?_append_left hn] at h1
      rw [List.getElem?_append_left (by rw [I.len]; exact hn)] at h2
      exact .inl ⟨h1, h2⟩
    · have hl := (List.getElem?_eq_some_iff.mp h1).1
      rw [List.length_append, List.length_singleton] at hl
      have e : n = ph.length := by omega
      subst e
      rw [List.getElem?_append_right (Nat.le_refl _), Nat.sub_self] at h1
      rw [← I.len, List.getElem?_append_right (Nat.le_refl _), Nat.sub_self] at h2
      simp at h1 h2
      exact .inr ⟨rfl, h1.symm, h2.symm⟩
  refine ⟨⟨I.sub.trans hs, by simp [I.len], ?_, fun a ha => ?_, fun n a o h1 h2 h3 => ?_, fun n a o h1 h2 => ?_⟩, ⟨Same.refl G, Pre.snoc ph p, fun a o _ h => hs a o h, fun a h k => absurd h k, fun a h => ?_, fun a h => ?_⟩⟩
  · rw [List.nodup_append]
    refine ⟨I.nd, by simp, fun a ha b hb => ?_⟩
    simp at hb
    subst hb
    intro z
    subst z
    exact np ha
  · rcases List.mem_append.mp ha with h | h
    · cases q : H a with
      | none => exact absurd q (I.trk a h)
      | some o =>
        rw [hs a o q]
        intro z
        cases z
    · simp at h
      subst h
      exact hq
  · rcases pos h1 h2 with ⟨a1, a2⟩ | ⟨rfl, rfl, rfl⟩
    · exact I.out n a o a1 a2 h3
    · exact gp
  · rcases pos h1 h2 with ⟨a1, a2⟩ | ⟨rfl, rfl, rfl⟩
    · exact (I.cell n a o a1 a2).mono (Same.refl G) (Pre.snoc ph p) fun _ u e => hs a u e
    · exact hc
  · rcases List.mem_append.mp h with q | q
    · exact .inl q
    · simp at q
      subst q
      exact .inr hp
  · cases q : H a with
    | none => exact absurd q h
    | some o =>
      rw [hs a o q]
      intro z
      cases z

theorem nodup_at : ∀ {l : List Addr} {i j : Nat} {x : Addr}, l.Nodup → l[i]? = some x → l[j]? = some x → i = j
  | [], i, j, x, _, h, _ => by simp at h
  | a :: l, 0, 0, x, _, _, _ => rfl
  | a :: l, 0, j + 1, x, nd, h, k => by
    simp at h k
    subst h
    exact absurd (List.mem_of_getElem? k) (List.nodup_cons.mp nd).1
  | a :: l, i + 1, 0, x, nd, h, k => by
    simp at h k
    subst k
    exact absurd (List.mem_of_getElem? h) (List.nodup_cons.mp nd).1
  | a :: l, i + 1, j + 1, x, nd, h, k => by
    have q := nodup_at (i := i) (j := j) (List.nodup_cons.mp nd).2 (by simpa using h) (by simpa using k)
    rw [q]
/-- a cell is written: u the object behind -/
theorem Mok.write {C : Cn} {m : Mem} {G : Hp} {ph : List Addr} {H : Hp} (I : Mok C m G ph H) {n : Nat} {a : Addr} {mo mo' : MO} (h1 : ph[n]? = some a) (h2 : m[n]? = some mo) (h3 : mo ≠ .dead) (u : HO) (hc : CellRep C G ph (upd H a u) mo' a) :
    Mok C (m.set n mo') G ph (upd H a u) ∧ Ext G ph H G ph (upd H a u) := by
  have ga : G a = none := I.out n a mo h1 h2 h3
  have nn : ∀ {k : Nat} {b : Addr}, ph[k]? = some b → k ≠ n → b ≠ a := fun {k b} q hk z => by
    subst z
    exact hk (nodup_at I.nd q h1)
  refine ⟨⟨fun b o e => ?_, by rw [List.length_set]; exact I.len, I.nd, fun b hb => upd_there (I.trk b hb), fun k b o q1 q2 q3 => ?_, fun k b o q1 q2 => ?_⟩, ⟨Same.refl G, Pre.refl ph, fun b o hb e => ?_, fun b h k => absurd h k, fun b h => .inl h, fun b h => upd_there h⟩⟩
  · rw [upd_ne (ne_of_none e ga)]
    exact I.sub b o e
  · by_cases hk : k = n
    · subst hk
      rw [h1] at q1
      cases q1
      exact ga
    · rw [List.getElem?_set_ne (Ne.symm hk)] at q2
      exact I.out k b o q1 q2 q3
  · by_cases hk : k = n
    · subst hk
      rw [h1] at q1
      cases q1
      rw [List.getElem?_set_self (by exact (List.getElem?_eq_some_iff.mp h2).1)] at q2
      cases q2
      exact hc
    · rw [List.getElem?_set_ne (Ne.symm hk)] at q2
      refine (I.cell k b o q1 q2).mono (Same.refl G) (Pre.refl ph) fun _ w e => ?_
      rw [upd_ne (nn q1 hk)]
      exact e
  · have z : b ≠ a := fun q => hb (by rw [q]; exact List.mem_of_getElem? h1)
    rw [upd_ne z]
    exact e

/-- the slots hold what the names stand for -/
structure Eok (C : Cn) (e : Sl) (G : Hp) (ph : List Addr) (σ : St) : Prop where
  len : e.length = σ.length
  at_ : ∀ (i : Nat) (d : D), e[i]? = some (some d) → ∃ v, σ[i]? = some (some v) ∧ RepV C.K G ph d v
theorem Eok.mono {C : Cn} {e : Sl} {G G' : Hp} {ph ph' : List Addr} {σ : St} (h : Eok C e G ph σ) (s : Same G G') (p : Pre ph ph') : Eok C e G' ph' σ :=
  ⟨h.len, fun i d q => let ⟨v, a, b⟩ := h.at_ i d q; ⟨v, a, RepV.mono s p d v b⟩⟩
theorem Eok.set {C : Cn} {e : Sl} {G : Hp} {ph : List Addr} {σ : St} (h : Eok C e G ph σ) {i : Nat} {d : D} {v : V} (r : RepV C.K G ph d v) : Eok C (e.set i (some d)) G ph (σ.set i (some v)) := by
  refine ⟨by rw [List.length_set, List.length_set]; exact h.len, fun j d' q => ?_⟩
  by_cases hj : j = i
  · subst hj
    have hl := (List.getElem?_eq_some_iff.mp q).1
    rw [List.length_set] at hl
    rw [List.getElem?_set_self hl] at q
    cases q
    exact ⟨v, List.getElem?_set_self (by rw [← h.len]; exact hl), r⟩
  · rw [List.getElem?_set_ne (Ne.symm hj)] at q ⊢
    exact h.at_ j d' q

/-! ### what follows -/
def ExcAt (C : Cn) (c : Str) (p : D) (G : Hp) (ph : List Addr) (H : Hp) (od : Option Addr) : Prop :=
  match C.xf c with
  | some f => ∃ d v, od = some d ∧ H d = some (.xd [(f, v)]) ∧ RepV C.K G ph p v
  | none => od = none
def Post {α : Type} (C : Cn) (G : Hp) (ph : List Addr) (H : Hp) (R : α → Mem → Hp → List Addr → Hp → Prop) : Res α → Prop
  | .ok a m => ∀ G' ph' H', Mok C m G' ph' H' → Ext G ph H G' ph' H' → R a m G' ph' H'
  | .exc c p m => ∀ G' ph' H' od, Mok C m G' ph' H' → Ext G ph H G' ph' H' → ExcAt C c p G' ph' H' od → C.E (.ref (C.cl c)) od H'
  | .bad => False
theorem Post.mono {α : Type} {C : Cn} {G : Hp} {ph : List Addr} {H : Hp} {R R' : α → Mem → Hp → List Addr → Hp → Prop} {r : Res α} (h : Post C G ph H R r) (k : ∀ a m G' ph' H', R a m G' ph' H' → R' a m G' ph' H') : Post C G ph H R' r := by
  cases r with
  | ok a m => exact fun G' ph' H' I X => k _ _ _ _ _ (h G' ph' H' I X)
  | exc c p m => exact h
  | bad => exact h
theorem Post.shift {α : Type} {C : Cn} {G G1 : Hp} {ph ph1 : List Addr} {H H1 : Hp} {R : α → Mem → Hp → List Addr → Hp → Prop} {r : Res α} (X : Ext G ph H G1 ph1 H1) (h : Post C G ph H R r) : Post C G1 ph1 H1 R r := by
  cases r with
  | ok a m => exact fun G' ph' H' I X' => h G' ph' H' I (X.trans X')
  | exc c p m => exact fun G' ph' H' od I X' => h G' ph' H' od I (X.trans X')
  | bad => exact h
/-- the first part of a sequence -/
theorem Post.bind {α β : Type} {C : Cn} {G : Hp} {ph : List Addr} {H : Hp} {R : β → Mem → Hp → List Addr → Hp → Prop} {r : Res α} {f : α → Mem → Res β} (h : Post C G ph H R (r.bind f)) :
    Post C G ph H (fun a m G' ph' H' => Mok C m G' ph' H' ∧ Ext G ph H G' ph' H' ∧ Post C G' ph' H' R (f a m)) r := by
  cases r with
  | ok a m => exact fun G' ph' H' I X => ⟨I, X, Post.shift X h⟩
  | exc c p m => exact h
  | bad => exact h

/-- the reading of an expression by its data -/
def tE (C : Cn) (f : EDen) : TE := fun σ H Q => ∃ e m G ph, Eok C e G ph σ ∧ Mok C m G ph H ∧ Post C G ph H (fun d _ G' ph' H' => ∀ v, RepV C.K G' ph' d v → Q v H') (f e m)
def tA (C : Cn) (f : ADen) : TA := fun σ H Q => ∃ e m G ph, Eok C e G ph σ ∧ Mok C m G ph H ∧ Post C G ph H (fun ds _ G' ph' H' => ∀ vs, RepL C.K G' ph' ds vs → Q vs H') (f e m)
def tT (C : Cn) (f : TDen) : TT := fun σ H Q => ∃ e m G ph, Eok C e G ph σ ∧ Mok C m G ph H ∧ Post C G ph H (fun b _ _ _ H' => Q b H') (f e m)
def endS (C : Cn) (D' : Ends) : Flw → Mem → Hp → List Addr → Hp → Prop
  | .nx e, _, G', ph', H' => ∀ σ', Eok C e G' ph' σ' → D'.nx σ' H'
  | .bk e, _, G', ph', H' => ∀ σ', Eok C e G' ph' σ' → D'.bk σ' H'
  | .ct e, _, G', ph', H' => ∀ σ', Eok C e G' ph' σ' → D'.ct σ' H'
  | .rt d, _, G', ph', H' => ∀ v, RepV C.K G' ph' d v → D'.rt v H'
def tS (C : Cn) (f : SDen) : TS := fun D' σ H => ∃ e m G ph, Eok C e G ph σ ∧ Mok C m G ph H ∧ Post C G ph H (endS C D') (f e m)

/-! ### judgements -/
abbrev DE (X : Cx) (C : Cn) (e : Expr) (f : EDen) : Prop := PE X e (tE C f)
abbrev DA (X : Cx) (C : Cn) (es : List Expr) (f : ADen) : Prop := PA X es (tA C f)
abbrev DT (X : Cx) (C : Cn) (e : Expr) (f : TDen) : Prop := PT X e (tT C f)
abbrev DS (X : Cx) (C : Cn) (st : Stmt) (f : SDen) : Prop := PS X st (tS C f)
abbrev DSs (X : Cx) (C : Cn) (st : List Stmt) (f : SDen) : Prop := PSs X st (tS C f)

section
variable {X : Cx}
theorem pe_weak {e : Expr} {t t' : TE} (h : PE X e t) (w : ∀ σ H Q, t' σ H Q → t σ H Q) : PE X e t' := ⟨fun pins s σ H Q I q => h.run pins s σ H Q I (w σ H Q q)⟩
theorem pt_weak {e : Expr} {t t' : TT} (h : PT X e t) (w : ∀ σ H Q, t' σ H Q → t σ H Q) : PT X e t' := ⟨fun pins s σ H Q I q => h.run pins s σ H Q I (w σ H Q q)⟩
theorem pw_weak {e : Expr} {t t' : TT} (h : PW X e t) (w : ∀ σ H Q, t' σ H Q → t σ H Q) : PW X e t' := ⟨fun wh pins s σ H Q I q => h.run wh pins s σ H Q I (w σ H Q q)⟩
theorem pa_weak {e : List Expr} {t t' : TA} (h : PA X e t) (w : ∀ σ H Q, t' σ H Q → t σ H Q) : PA X e t' := ⟨fun p pins s σ H Q I q => h.run p pins s σ H Q I (w σ H Q q)⟩
theorem ps_weak {st : Stmt} {t t' : TS} (h : PS X st t) (w : ∀ D σ H, t' D σ H → t D σ H) : PS X st t' := ⟨fun pins s σ H D I q => h.run pins s σ H D I (w D σ H q)⟩
theorem pss_weak {st : List Stmt} {t t' : TS} (h : PSs X st t) (w : ∀ D σ H, t' D σ H → t D σ H) : PSs X st t' := ⟨fun pins s σ H D I q => h.run pins s σ H D I (w D σ H q)⟩
end

/-- into the first expression -/
theorem goE {C : Cn} {e : Sl} {m : Mem} {G : Hp} {ph : List Addr} {σ : St} {H : Hp} {β : Type} {f : EDen} {k : D → Mem → Res β} {R : β → Mem → Hp → List Addr → Hp → Prop} {Q : VK}
    (Eo : Eok C e G ph σ) (I : Mok C m G ph H) (h : Post C G ph H R ((f e m).bind k))
    (w : ∀ d m1 G1 ph1 H1 v, Eok C e G1 ph1 σ → Mok C m1 G1 ph1 H1 → Ext G ph H G1 ph1 H1 → RepV C.K G1 ph1 d v → Post C G1 ph1 H1 R (k d m1) → Q v H1) : tE C f σ H Q :=
  ⟨e, m, G, ph, Eo, I, h.bind.mono fun d m1 G1 ph1 H1 ⟨I1, X1, h1⟩ v r => w d m1 G1 ph1 H1 v (Eo.mono X1.g X1.p) I1 X1 r h1⟩
theorem goA {C : Cn} {e : Sl} {m : Mem} {G : Hp} {ph : List Addr} {σ : St} {H : Hp} {β : Type} {f : ADen} {k : List D → Mem → Res β} {R : β → Mem → Hp → List Addr → Hp → Prop} {Q : List V → Hp → Prop}
    (Eo : Eok C e G ph σ) (I : Mok C m G ph H) (h : Post C G ph H R ((f e m).bind k))
    (w : ∀ d m1 G1 ph1 H1 v, Eok C e G1 ph1 σ → Mok C m1 G1 ph1 H1 → Ext G ph H G1 ph1 H1 → RepL C.K G1 ph1 d v → Post C G1 ph1 H1 R (k d m1) → Q v H1) : tA C f σ H Q :=
  ⟨e, m, G, ph, Eo, I, h.bind.mono fun d m1 G1 ph1 H1 ⟨I1, X1, h1⟩ v r => w d m1 G1 ph1 H1 v (Eo.mono X1.g X1.p) I1 X1 r h1⟩
theorem goT {C : Cn} {e : Sl} {m : Mem} {G : Hp} {ph : List Addr} {σ : St} {H : Hp} {β : Type} {f : TDen} {k : Bool → Mem → Res β} {R : β → Mem → Hp → List Addr → Hp → Prop} {Q : Bool → Hp → Prop}
    (Eo : Eok C e G ph σ) (I : Mok C m G ph H) (h : Post C G ph H R ((f e m).bind k))
    (w : ∀ b m1 G1 ph1 H1, Eok C e G1 ph1 σ → Mok C m1 G1 ph1 H1 → Ext G ph H G1 ph1 H1 → Post C G1 ph1 H1 R (k b m1) → Q b H1) : tT C f σ H Q :=
  ⟨e, m, G, ph, Eo, I, h.bind.mono fun d m1 G1 ph1 H1 ⟨I1, X1, h1⟩ => w d m1 G1 ph1 H1 (Eo.mono X1.g X1.p) I1 X1 h1⟩
theorem Post.here {α : Type} {C : Cn} {G : Hp} {ph : List Addr} {H : Hp} {R : α → Mem → Hp → List Addr → Hp → Prop} {a : α} {m : Mem} (h : Post C G ph H R (.ok a m)) (I : Mok C m G ph H) : R a m G ph H := h G ph H I (Ext.refl G ph H)
end DL

namespace DL
open PySem L2

/-! ## names, constants, displays -/
def eVar (i : Nat) : EDen := fun e m => match e[i]? with
  | some (some d) => .ok d m
  | _ => .bad
def eC (d : D) : EDen := fun _ m => .ok d m
def aNil : ADen := fun _ m => .ok [] m
def aCons (a : EDen) (r : ADen) : ADen := fun e m => (a e m).bind fun x m1 => (r e m1).bind fun xs m2 => .ok (x :: xs) m2
def eTup (f : ADen) : EDen := fun e m => (f e m).bind fun ds m1 => if ds.length ≤ 1000 then .ok (.tup ds) m1 else .bad
def eLst (f : ADen) : EDen := fun e m => (f e m).bind fun ds m1 => if ds.length ≤ 1000 then .ok (.lst ds) m1 else .bad
def eLstN (f : ADen) : EDen := fun e m => (f e m).bind fun ds m1 => if ds.length ≤ 1000 then .ok (.ref m1.length) (m1 ++ [.lst ds]) else .bad

theorem small_line {n : Nat} (h : n ≤ 1000000) : n ≤ sizeLine := by
  rw [sizeLine_eq]
  omega
theorem thousand {n : Nat} (h : n ≤ 1000) : n ≤ sizeLine := small_line (by omega)

section
variable {X : Cx} {C : Cn}
theorem de_var (i : Nat) {x : Str} {pos : Pos} (hN : X.N[i]? = some x := by rfl) (hv : Vis X.env.scope x := by first | exact Or.inl rfl | exact Or.inr (Or.inl rfl) | exact Or.inr (Or.inr rfl))
    (hd : (x == ("__debug__" : Str)) = false := by decide) (hcd : (x == ("__classdict__" : Str)) = false := by decide) : DE X C (.Name x pos) (eVar i) :=
  pe_weak (pv i hN hv hd hcd) fun σ H Q ⟨e, m, G, ph, Eo, I, h⟩ => by
    unfold eVar at h
    cases q : e[i]? with
    | none =>
      rw [q] at h
      exact h.elim
    | some o =>
      rw [q] at h
      cases o with
      | none => exact h.elim
      | some d =>
        obtain ⟨v, hv, r⟩ := Eo.at_ i d q
        exact ⟨v, hv, h.here I v r⟩
theorem de_const {e : Expr} {v : V} {d : D} (h : PE X e (tC v)) (r : ∀ G ph, RepV C.K G ph d v) : DE X C e (eC d) :=
  pe_weak h fun σ H Q ⟨_, m, G, ph, _, I, h⟩ => Post.here h I v (r G ph)
theorem de_int {i j pos} : DE X C (.Constant (.int i) j pos) (eC (.int i)) := de_const pe_int fun _ _ => rfl
theorem de_bl {i j pos} : DE X C (.Constant (.bool i) j pos) (eC (.bl i)) := de_const pe_bl fun _ _ => rfl
theorem de_non {j pos} : DE X C (.Constant .none j pos) (eC .non) := de_const pe_non fun _ _ => rfl
theorem de_str {x j pos} : DE X C (.Constant (.str x) j pos) (eC (.str x)) := de_const pe_str fun _ _ => rfl
theorem da_nil : DA X C [] aNil := pa_weak pa_nil fun σ H Q ⟨_, m, G, ph, _, I, h⟩ => Post.here h I [] rfl
theorem da_cons {e : Expr} {es : List Expr} {f : EDen} {r : ADen} (h : DE X C e f) (k : DA X C es r) (hs : starEach (e :: es) X.env = (false, eval e X.env) :: starEach es X.env := by rfl) : DA X C (e :: es) (aCons f r) :=
  pa_weak (pa_cons h k hs) fun σ H Q ⟨e0, m, G, ph, Eo, I, h⟩ =>
    goE Eo I h fun x m1 G1 ph1 H1 v Eo1 I1 X1 r1 h1 => goA Eo1 I1 h1 fun xs m2 G2 ph2 H2 vs Eo2 I2 X2 r2 h2 =>
      h2.here I2 (v :: vs) ⟨v, vs, rfl, RepV.mono X2.g X2.p _ _ r1, r2⟩
theorem de_tup {es : List Expr} {f : ADen} {x1 pos} (h : DA X C es f) : DE X C (.Tuple es x1 pos) (eTup f) :=
  pe_weak (pe_tup h) fun σ H Q ⟨e0, m, G, ph, Eo, I, h⟩ => goA Eo I h fun xs m1 G1 ph1 H1 vs Eo1 I1 X1 r1 h1 => by
    by_cases hl : xs.length ≤ 1000
    · rw [if_pos hl] at h1
      refine ⟨by rw [r1.length]; exact thousand hl, fun p hp => ?_⟩
      obtain ⟨I2, X2⟩ := I1.frozen hp (.tup vs)
      exact h1 _ _ _ I2 X2 _ ⟨p, vs, rfl, SqT.of upd_same, RepL.mono X2.g X2.p _ _ r1⟩
    · rw [if_neg hl] at h1
      exact h1.elim
theorem de_lst {es : List Expr} {f : ADen} {pos} (h : DA X C es f) : DE X C (.List es pos) (eLst f) :=
  pe_weak (pe_lst h) fun σ H Q ⟨e0, m, G, ph, Eo, I, h⟩ => goA Eo I h fun xs m1 G1 ph1 H1 vs Eo1 I1 X1 r1 h1 => by
    by_cases hl : xs.length ≤ 1000
    · rw [if_pos hl] at h1
      refine ⟨by rw [r1.length]; exact thousand hl, fun p hp => ?_⟩
      obtain ⟨I2, X2⟩ := I1.frozen hp (.lst vs)
      exact h1 _ _ _ I2 X2 _ ⟨p, vs, rfl, upd_same, RepL.mono X2.g X2.p _ _ r1⟩
    · rw [if_neg hl] at h1
      exact h1.elim
theorem ref_last (ph : List Addr) (p : Addr) {m : Mem} (h : m.length = ph.length) : (ph ++ [p])[m.length]? = some p := by
  rw [h, List.getElem?_append_right (Nat.le_refl _), Nat.sub_self]
  rfl
theorem de_lstN {es : List Expr} {f : ADen} {pos} (h : DA X C es f) : DE X C (.List es pos) (eLstN f) :=
  pe_weak (pe_lst h) fun σ H Q ⟨e0, m, G, ph, Eo, I, h⟩ => goA Eo I h fun xs m1 G1 ph1 H1 vs Eo1 I1 X1 r1 h1 => by
    by_cases hl : xs.length ≤ 1000
    · rw [if_pos hl] at h1
      refine ⟨by rw [r1.length]; exact thousand hl, fun p hp => ?_⟩
      obtain ⟨I2, X2⟩ := I1.cellNew hp (same_upd hp) (by rw [upd_same]; intro z; cases z) (mo := .lst xs) ⟨vs, upd_same, RepL.mono (Same.refl _) (Pre.snoc _ _) _ _ r1⟩
      exact h1 _ _ _ I2 X2 _ ⟨p, rfl, ref_last ph1 p I1.len⟩
    · rw [if_neg hl] at h1
      exact h1.elim

/-! ## two-place operations -/
abbrev Op2 := Mem → D → D → Res D
def Snd2 (C : Cn) (r : R2) (f : Op2) : Prop := ∀ m G ph H x y v u Q, Mok C m G ph H → RepV C.K G ph x v → RepV C.K G ph y u → Post C G ph H (fun d _ G' ph' H' => ∀ w, RepV C.K G' ph' d w → Q w H') (f m x y) → r v u H Q
def OpD (X : Cx) (C : Cn) (g : Value → Value → Sem Value) (f : Op2) : Prop := ∃ r, OpR X g r ∧ Snd2 C r f
def eBin (f : Op2) (a b : EDen) : EDen := fun e m => (a e m).bind fun x m1 => (b e m1).bind fun y m2 => f m2 x y
theorem op_w {r : R2} {f : Op2} {fa fb : EDen} (hs : Snd2 C r f) {σ : St} {H : Hp} {Q : VK} : tE C (eBin f fa fb) σ H Q → tOp r (tE C fa) (tE C fb) σ H Q := fun ⟨e, m, G, ph, Eo, I, h⟩ =>
  goE Eo I h fun x m1 G1 ph1 H1 v Eo1 I1 X1 r1 h1 => goE Eo1 I1 h1 fun y m2 G2 ph2 H2 u Eo2 I2 X2 r2 h2 =>
    hs m2 G2 ph2 H2 x y v u Q I2 (RepV.mono X2.g X2.p _ _ r1) r2 h2
theorem de_bin {op : Operator} {a b : Expr} {pos : Pos} {f : Op2} {fa fb : EDen} (h : OpD X C (binaryOp op) f) (ha : DE X C a fa) (hb : DE X C b fb) : DE X C (.BinOp a op b pos) (eBin f fa fb) := by
  obtain ⟨r, ho, hs⟩ := h
  exact pe_weak (pe_op ho ha hb) fun σ H Q q => op_w hs q
theorem de_cmp {op : CmpOp} {a b : Expr} {pos : Pos} {f : Op2} {fa fb : EDen} (h : OpD X C (compareOp op) f) (ha : DE X C a fa) (hb : DE X C b fb) (hm : behindInMarks op b = false) : DE X C (.Compare a [op] [b] pos) (eBin f fa fb) := by
  obtain ⟨r, ho, hs⟩ := h
  exact pe_weak (pe_cmpR ho ha hb hm) fun σ H Q q => op_w hs q

/-! ## tests -/
def tVal (f : EDen) : TDen := fun e m => (f e m).bind fun d m1 => match d with
  | .bl b => .ok b m1
  | _ => .bad
theorem tval_of {f : EDen} {σ : St} {H : Hp} {Q : Bool → Hp → Prop} (h : tT C (tVal f) σ H Q) : tE C f σ H fun x H' => ∃ k, x = .bl k ∧ Q k H' := by
  obtain ⟨e, m, G, ph, Eo, I, h⟩ := h
  refine goE Eo I h fun x m1 G1 ph1 H1 v Eo1 I1 X1 r1 h1 => ?_
  cases x with
  | bl b => exact ⟨b, r1, h1.here I1⟩
  | _ => exact h1.elim
theorem dt_cmp {op : CmpOp} {a b : Expr} {pos : Pos} {f : Op2} {fa fb : EDen} (h : OpD X C (compareOp op) f) (ha : DE X C a fa) (hb : DE X C b fb) (hm : behindInMarks op b = false) : DT X C (.Compare a [op] [b] pos) (tVal (eBin f fa fb)) := by
  obtain ⟨r, ho, hs⟩ := h
  exact pt_weak (pt_cmpR ho ha hb hm) fun σ H Q q => op_w hs (tval_of q)
theorem dt_val {e : Expr} {f : EDen} (h : DE X C e f) (he : ∀ whole, isTrue e X.env whole = (do let v ← whole; standAt e.pos; holding [v] (truthy v)) := by intro _; rfl) : DT X C e (tVal f) :=
  pt_weak (pt_val h he) fun σ H Q q => tval_of q
abbrev DW (X : Cx) (C : Cn) (e : Expr) (f : TDen) : Prop := PW X e (tT C f)
def tAndD (a b : TDen) : TDen := fun e m => (a e m).bind fun x m1 => if x = true then b e m1 else .ok false m1
def tOrD (a b : TDen) : TDen := fun e m => (a e m).bind fun x m1 => if x = true then .ok true m1 else b e m1
def tNotD (a : TDen) : TDen := fun e m => (a e m).bind fun x m1 => .ok (!x) m1
theorem tt_in {f : TDen} {e : Sl} {m : Mem} {G : Hp} {ph : List Addr} {σ : St} {H : Hp} {Q : Bool → Hp → Prop} (Eo : Eok C e G ph σ) (I : Mok C m G ph H) (h : Post C G ph H (fun b _ _ _ H' => Q b H') (f e m)) : tT C f σ H Q := ⟨e, m, G, ph, Eo, I, h⟩
theorem te_in {f : EDen} {e : Sl} {m : Mem} {G : Hp} {ph : List Addr} {σ : St} {H : Hp} {Q : VK} (Eo : Eok C e G ph σ) (I : Mok C m G ph H) (h : Post C G ph H (fun d _ G' ph' H' => ∀ v, RepV C.K G' ph' d v → Q v H') (f e m)) : tE C f σ H Q := ⟨e, m, G, ph, Eo, I, h⟩
theorem and_w {fa fb : TDen} {σ : St} {H : Hp} {Q : Bool → Hp → Prop} : tT C (tAndD fa fb) σ H Q → tAnd (tT C fa) (tT C fb) σ H Q := fun ⟨e, m, G, ph, Eo, I, h⟩ =>
  goT Eo I h fun b m1 G1 ph1 H1 Eo1 I1 X1 h1 => by
    cases b with
    | true => exact iteT (tt_in Eo1 I1 h1)
    | false => exact iteF (h1.here I1)
theorem or_w {fa fb : TDen} {σ : St} {H : Hp} {Q : Bool → Hp → Prop} : tT C (tOrD fa fb) σ H Q → tOr (tT C fa) (tT C fb) σ H Q := fun ⟨e, m, G, ph, Eo, I, h⟩ =>
  goT Eo I h fun b m1 G1 ph1 H1 Eo1 I1 X1 h1 => by
    cases b with
    | true => exact iteT (h1.here I1)
    | false => exact iteF (tt_in Eo1 I1 h1)
theorem dw_and1 {a : Expr} {pos : Pos} {f : TDen} (h : DT X C a f) : DW X C (.BoolOp .And [a] pos) f := pw_and1 h
theorem dw_or1 {a : Expr} {pos : Pos} {f : TDen} (h : DT X C a f) : DW X C (.BoolOp .Or [a] pos) f := pw_or1 h
theorem dw_and {a b : Expr} {rest : List Expr} {pos : Pos} {fa fb : TDen} (h : DT X C a fa) (k : DW X C (.BoolOp .And (b :: rest) pos) fb) : DW X C (.BoolOp .And (a :: b :: rest) pos) (tAndD fa fb) := pw_weak (pw_and h k) fun _ _ _ q => and_w q
theorem dw_or {a b : Expr} {rest : List Expr} {pos : Pos} {fa fb : TDen} (h : DT X C a fa) (k : DW X C (.BoolOp .Or (b :: rest) pos) fb) : DW X C (.BoolOp .Or (a :: b :: rest) pos) (tOrD fa fb) := pw_weak (pw_or h k) fun _ _ _ q => or_w q
theorem dt_w {e : Expr} {f : TDen} (h : DW X C e f) : DT X C e f := h.pt
theorem dt_not {a : Expr} {pos : Pos} {f : TDen} (h : DT X C a f) : DT X C (.UnaryOp .Not a pos) (tNotD f) := pt_weak (pt_not h) fun σ H Q ⟨e, m, G, ph, Eo, I, h⟩ =>
  goT Eo I h fun b m1 G1 ph1 H1 Eo1 I1 X1 h1 => h1.here I1
/-! as values -/
def eAnd (a b : EDen) : EDen := fun e m => (a e m).bind fun x m1 => match x with
  | .bl true => b e m1
  | .bl false => .ok (.bl false) m1
  | _ => .bad
def eOr (a b : EDen) : EDen := fun e m => (a e m).bind fun x m1 => match x with
  | .bl true => .ok (.bl true) m1
  | .bl false => b e m1
  | _ => .bad
def eNot (a : EDen) : EDen := fun e m => (a e m).bind fun x m1 => match x with
  | .bl b => .ok (.bl (!b)) m1
  | _ => .bad
def eIf (c : TDen) (a b : EDen) : EDen := fun e m => (c e m).bind fun x m1 => if x = true then a e m1 else b e m1
theorem de_one {op} {a : Expr} {pos : Pos} {f : EDen} (h : DE X C a f) : DE X C (.BoolOp op [a] pos) f := pe_one h
theorem de_and {a b : Expr} {rest : List Expr} {pos : Pos} {fa fb : EDen} (h : DE X C a fa) (k : DE X C (.BoolOp .And (b :: rest) pos) fb) : DE X C (.BoolOp .And (a :: b :: rest) pos) (eAnd fa fb) :=
  pe_weak (pe_and h k) fun σ H Q ⟨e, m, G, ph, Eo, I, h⟩ => goE Eo I h fun x m1 G1 ph1 H1 v Eo1 I1 X1 r1 h1 => by
    cases x with
    | bl b =>
      refine ⟨b, r1, ?_⟩
      cases b with
      | true => exact iteT (te_in Eo1 I1 h1)
      | false => exact iteF (h1.here I1 _ rfl)
    | _ => exact h1.elim
theorem de_or {a b : Expr} {rest : List Expr} {pos : Pos} {fa fb : EDen} (h : DE X C a fa) (k : DE X C (.BoolOp .Or (b :: rest) pos) fb) : DE X C (.BoolOp .Or (a :: b :: rest) pos) (eOr fa fb) :=
  pe_weak (pe_or h k) fun σ H Q ⟨e, m, G, ph, Eo, I, h⟩ => goE Eo I h fun x m1 G1 ph1 H1 v Eo1 I1 X1 r1 h1 => by
    cases x with
    | bl b =>
      refine ⟨b, r1, ?_⟩
      cases b with
      | true => exact iteT (h1.here I1 _ rfl)
      | false => exact iteF (te_in Eo1 I1 h1)
    | _ => exact h1.elim
theorem de_not {a : Expr} {pos : Pos} {f : EDen} (h : DE X C a f) : DE X C (.UnaryOp .Not a pos) (eNot f) :=
  pe_weak (pe_not h) fun σ H Q ⟨e, m, G, ph, Eo, I, h⟩ => goE Eo I h fun x m1 G1 ph1 H1 v Eo1 I1 X1 r1 h1 => by
    cases x with
    | bl b => exact ⟨b, r1, h1.here I1 _ rfl⟩
    | _ => exact h1.elim
theorem de_if {c a b : Expr} {pos : Pos} {fc : TDen} {fa fb : EDen} (hc : DT X C c fc) (ha : DE X C a fa) (hb : DE X C b fb) : DE X C (.IfExp c a b pos) (eIf fc fa fb) :=
  pe_weak (pe_ifExp hc ha hb) fun σ H Q ⟨e, m, G, ph, Eo, I, h⟩ => goT Eo I h fun b m1 G1 ph1 H1 Eo1 I1 X1 h1 => by
    cases b with
    | true => exact iteT (te_in Eo1 I1 h1)
    | false => exact iteF (te_in Eo1 I1 h1)
end
end DL

namespace DL
open PySem L2

/-! ## seeing sequences -/
/-- the items of a list or tuple -/
def dSeq (m : Mem) : D → Option (List D)
  | .tup ds => some ds
  | .lst ds => some ds
  | .scr xs => some (xs.map D.int)
  | .ref n => match m[n]? with
    | some (.lst ds) => some ds
    | _ => none
  | _ => none
/-- the items of a list that stands in the heap by itself -/
def dList (m : Mem) : D → Option (List D)
  | .lst ds => some ds
  | .ref n => match m[n]? with
    | some (.lst ds) => some ds
    | _ => none
  | _ => none
section
variable {C : Cn} {m : Mem} {G : Hp} {ph : List Addr} {H : Hp}
theorem cellList (I : Mok C m G ph H) {n : Nat} {a : Addr} {ds : List D} (h : ph[n]? = some a) (k : m[n]? = some (.lst ds)) : ∃ vs, H a = some (.lst vs) ∧ RepL C.K G ph ds vs := I.cell n a _ h k
theorem dList_rep (I : Mok C m G ph H) {x : D} {v : V} {ds : List D} (h : dList m x = some ds) (r : RepV C.K G ph x v) : ∃ a vs, v = .ref a ∧ H a = some (.lst vs) ∧ RepL C.K G ph ds vs := by
  cases x with
  | lst es =>
    cases h
    obtain ⟨a, vs, e, q, r⟩ := r
    exact ⟨a, vs, e, I.sub _ _ q, r⟩
  | ref n =>
    obtain ⟨a, e, q⟩ := r
    have h' : (match m[n]? with
      | some (.lst ds) => some ds
      | _ => none) = some ds := h
    cases z : m[n]? with
    | none =>
      rw [z] at h'
      cases h'
    | some mo =>
      rw [z] at h'
      cases mo with
      | lst es =>
        cases h'
        obtain ⟨vs, w, r⟩ := cellList I q z
        exact ⟨a, vs, e, w, r⟩
      | _ => cases h'
  | _ => cases h
theorem dSeq_rep (I : Mok C m G ph H) {x : D} {v : V} {ds : List D} (h : dSeq m x = some ds) (r : RepV C.K G ph x v) : ∃ a vs, v = .ref a ∧ (SqL C.K H a vs ∨ SqT C.K H a vs) ∧ RepL C.K G ph ds vs := by
  cases x with
  | tup es =>
    cases h
    obtain ⟨a, vs, e, q, r⟩ := r
    exact ⟨a, vs, e, .inr (sqT_mono I.sub q), r⟩
  | lst es =>
    obtain ⟨a, vs, e, q, r⟩ := dList_rep I (x := .lst es) h r
    exact ⟨a, vs, e, .inl (SqL.of q), r⟩
  | scr xs =>
    cases h
    obtain ⟨a, e, q⟩ := r
    exact ⟨a, _, e, .inl (sqL_mono I.sub q), RepL.ints⟩
  | ref n =>
    obtain ⟨a, vs, e, q, r⟩ := dList_rep I (x := .ref n) h r
    exact ⟨a, vs, e, .inl (SqL.of q), r⟩
  | _ => cases h
theorem at_rep {K : PySem.W.Frag} {ds : List D} {vs : List V} {i : Int} {d : D} (r : RepL K G ph ds vs) (h : atI ds i = some d) : ∃ v, atI vs i = some v ∧ RepV K G ph d v := by
  unfold atI at h ⊢
  rw [r.length]
  cases q : ixN ds.length i with
  | none =>
    rw [q] at h
    cases h
  | some j =>
    rw [q] at h
    exact r.get h
end

/-! ## arithmetic -/
def oAdd : Op2 := fun m x y => match x, y with
  | .int i, .int j => .ok (.int (i + j)) m
  | .str a, .str b => if a.length + b.length ≤ 1000000 then .ok (.str (a ++ b)) m else .bad
  | .tup xs, .tup ys => if xs.length + ys.length ≤ 1000000 then .ok (.tup (xs ++ ys)) m else .bad
  | x, y => match dList m x, dList m y with
    | some xs, some ys => if xs.length + ys.length ≤ 1000000 then .ok (.lst (xs ++ ys)) m else .bad
    | _, _ => .bad
def oSub : Op2 := fun m x y => match x, y with
  | .int i, .int j => .ok (.int (i - j)) m
  | _, _ => .bad
def oMul : Op2 := fun m x y => match x, y with
  | .int i, .int j => if (-18446744073709551616 < i ∧ i < 18446744073709551616) ∨ (-18446744073709551616 < j ∧ j < 18446744073709551616) then .ok (.int (i * j)) m else .bad
  | _, _ => .bad
def oDiv : Op2 := fun m x y => match x, y with
  | .int i, .int j => if 0 < j ∧ j < 1073741824 then .ok (.int (i / j)) m else .bad
  | _, _ => .bad
def oMod : Op2 := fun m x y => match x, y with
  | .int i, .int j => if 0 < j then .ok (.int (i % j)) m else .bad
  | _, _ => .bad
def oPow : Op2 := fun m x y => match x, y with
  | .int i, .int j => if 0 ≤ j ∧ j ≤ 1000000 ∧ i.natAbs < 18446744073709551616 then .ok (.int (i ^ j.toNat)) m else .bad
  | _, _ => .bad
section
variable {X : Cx} {C : Cn}
theorem opd_add (hK : C.K = X.K := by rfl) : OpD X C (binaryOp .Add) oAdd := by
  refine ⟨_, op_add.or (op_add_str.or (op_catA.or op_cat)), ?_⟩
  intro m G ph H x y v u Q I rx ry h
  have lists : ∀ {x y : D}, RepV C.K G ph x v → RepV C.K G ph y u → Post C G ph H (fun d _ G' ph' H' => ∀ w, RepV C.K G' ph' d w → Q w H') (match dList m x, dList m y with
    | some xs, some ys => if xs.length + ys.length ≤ 1000000 then (.ok (.lst (xs ++ ys)) m : Res D) else .bad
    | _, _ => .bad) → rCat v u H Q := fun {x y} rx ry h => by
    cases hx : dList m x with
    | none =>
      rw [hx] at h
      exact h.elim
    | some xs =>
      cases hy : dList m y with
      | none =>
        rw [hx, hy] at h
        exact h.elim
      | some ys =>
        rw [hx, hy] at h
        obtain ⟨a, vs, rfl, ha, r1⟩ := dList_rep I hx rx
        obtain ⟨b, us, rfl, hb, r2⟩ := dList_rep I hy ry
        by_cases hl : xs.length + ys.length ≤ 1000000
        · have h2 := h
          simp only [if_pos hl] at h2
          refine ⟨a, b, vs, us, rfl, rfl, ha, hb, by rw [r1.length, r2.length]; exact small_line hl, fun p hp => ?_⟩
          obtain ⟨I2, X2⟩ := I.frozen hp (.lst (vs ++ us))
          exact h2 _ _ _ I2 X2 _ ⟨p, _, rfl, upd_same, RepL.mono X2.g X2.p _ _ (r1.append r2)⟩
        · simp only [if_neg hl] at h
          exact h.elim
  cases x with
  | int i =>
    cases y with
    | int j => exact .inl ⟨i, j, rx, ry, h.here I _ rfl⟩
    | _ => exact .inr (.inr (.inr (lists rx ry h)))
  | str a =>
    cases y with
    | str b =>
      by_cases hl : a.length + b.length ≤ 1000000
      · have h2 : Post C G ph H (fun d _ G' ph' H' => ∀ w, RepV C.K G' ph' d w → Q w H') (if a.length + b.length ≤ 1000000 then (.ok (.str (a ++ b)) m : Res D) else .bad) := h
        rw [if_pos hl] at h2
        exact .inr (.inl ⟨a, b, rx, ry, small_line hl, h2.here I _ rfl⟩)
      · have h2 : Post C G ph H (fun d _ G' ph' H' => ∀ w, RepV C.K G' ph' d w → Q w H') (if a.length + b.length ≤ 1000000 then (.ok (.str (a ++ b)) m : Res D) else .bad) := h
        rw [if_neg hl] at h2
        exact h2.elim
    | _ => exact .inr (.inr (.inr (lists rx ry h)))
  | tup xs =>
    cases y with
    | tup ys =>
      have h2 : Post C G ph H (fun d _ G' ph' H' => ∀ w, RepV C.K G' ph' d w → Q w H') (if xs.length + ys.length ≤ 1000000 then (.ok (.tup (xs ++ ys)) m : Res D) else .bad) := h
      by_cases hl : xs.length + ys.length ≤ 1000000
      · rw [if_pos hl] at h2
        obtain ⟨a, vs, rfl, q1, r1⟩ := rx
        obtain ⟨b, us, rfl, q2, r2⟩ := ry
        refine .inr (.inr (.inl ⟨a, b, vs, us, rfl, rfl, by rw [← hK]; exact sqT_mono I.sub q1, by rw [← hK]; exact sqT_mono I.sub q2, by rw [r1.length, r2.length]; exact small_line hl, fun e => ?_, fun e1 e2 => ?_, fun _ _ p hp => ?_⟩))
        · subst e
          have e0 : xs = [] := List.length_eq_zero_iff.mp (by rw [← r1.length] <;> rfl)
          subst e0
          exact h2.here I _ ⟨b, us, rfl, q2, r2⟩
        · subst e2
          have e0 : ys = [] := List.length_eq_zero_iff.mp (by rw [← r2.length] <;> rfl)
          subst e0
          exact h2.here I _ ⟨a, vs, rfl, q1, by rw [List.append_nil]; exact r1⟩
        · obtain ⟨I2, X2⟩ := I.frozen hp (.tup (vs ++ us))
          exact h2 _ _ _ I2 X2 _ ⟨p, _, rfl, SqT.of upd_same, RepL.mono X2.g X2.p _ _ (r1.append r2)⟩
      · rw [if_neg hl] at h2
        exact h2.elim
    | _ => exact .inr (.inr (.inr (lists rx ry h)))
  | _ => exact .inr (.inr (.inr (lists rx ry (by cases y <;> exact h))))
theorem opd_sub : OpD X C (binaryOp .Sub) oSub := by
  refine ⟨_, op_sub, ?_⟩
  intro m G ph H x y v u Q I rx ry h
  cases x with
  | int i =>
    cases y with
    | int j => exact ⟨i, j, rx, ry, h.here I _ rfl⟩
    | _ => exact h.elim
  | _ => exact h.elim
theorem opd_mul : OpD X C (binaryOp .Mult) oMul := by
  refine ⟨_, op_mul, ?_⟩
  intro m G ph H x y v u Q I rx ry h
  cases x with
  | int i =>
    cases y with
    | int j =>
      by_cases c : (-18446744073709551616 < i ∧ i < 18446744073709551616) ∨ (-18446744073709551616 < j ∧ j < 18446744073709551616)
      · simp only [oMul, if_pos c] at h
        exact ⟨i, j, rx, ry, c, h.here I _ rfl⟩
      · simp only [oMul, if_neg c] at h
        exact h.elim
    | _ => exact h.elim
  | _ => exact h.elim
theorem opd_div : OpD X C (binaryOp .FloorDiv) oDiv := by
  refine ⟨_, op_fdiv, ?_⟩
  intro m G ph H x y v u Q I rx ry h
  cases x with
  | int i =>
    cases y with
    | int j =>
      by_cases c : 0 < j ∧ j < 1073741824
      · simp only [oDiv, if_pos c] at h
        exact ⟨i, j, rx, ry, c, h.here I _ rfl⟩
      · simp only [oDiv, if_neg c] at h
        exact h.elim
    | _ => exact h.elim
  | _ => exact h.elim
theorem opd_mod : OpD X C (binaryOp .Mod) oMod := by
  refine ⟨_, op_mod, ?_⟩
  intro m G ph H x y v u Q I rx ry h
  cases x with
  | int i =>
    cases y with
    | int j =>
      by_cases c : 0 < j
      · simp only [oMod, if_pos c] at h
        exact ⟨i, j, rx, ry, c, h.here I _ rfl⟩
      · simp only [oMod, if_neg c] at h
        exact h.elim
    | _ => exact h.elim
  | _ => exact h.elim
theorem opd_pow : OpD X C (binaryOp .Pow) oPow := by
  refine ⟨_, op_pow, ?_⟩
  intro m G ph H x y v u Q I rx ry h
  cases x with
  | int i =>
    cases y with
    | int j =>
      by_cases c : 0 ≤ j ∧ j ≤ 1000000 ∧ i.natAbs < 18446744073709551616
      · simp only [oPow, if_pos c] at h
        exact ⟨i, j, rx, ry, c, h.here I _ rfl⟩
      · simp only [oPow, if_neg c] at h
        exact h.elim
    | _ => exact h.elim
  | _ => exact h.elim
def eNeg (a : EDen) : EDen := fun e m => (a e m).bind fun x m1 => match x with
  | .int i => .ok (.int (-i)) m1
  | _ => .bad
theorem de_neg {a : Expr} {pos : Pos} {f : EDen} (h : DE X C a f) : DE X C (.UnaryOp .USub a pos) (eNeg f) :=
  pe_weak (pe_un un_neg h) fun σ H Q ⟨e, m, G, ph, Eo, I, h⟩ => goE Eo I h fun x m1 G1 ph1 H1 v Eo1 I1 X1 r1 h1 => by
    cases x with
    | int i => exact ⟨i, r1, h1.here I1 _ rfl⟩
    | _ => exact h1.elim

/-! ## comparisons -/
def isNon : D → Res Bool
  | .non => .ok true []
  | .val _ => .bad
  | _ => .ok false []
def oIs : Op2 := fun m x y => match y with
  | .non => (match x with
    | .non => .ok (.bl true) m
    | .val _ => .bad
    | _ => .ok (.bl false) m)
  | _ => .bad
def oIsNot : Op2 := fun m x y => match y with
  | .non => (match x with
    | .non => .ok (.bl false) m
    | .val _ => .bad
    | _ => .ok (.bl true) m)
  | _ => .bad
theorem not_non {K : PySem.W.Frag} {G : Hp} {ph : List Addr} : ∀ {x : D} {v : V}, RepV K G ph x v → x ≠ .non → (∀ u, x ≠ .val u) → v ≠ .non
  | .non, _, _, h, _ => absurd rfl h
  | .bl b, _, r, _, _ => by
    cases r
    intro z
    cases z
  | .int b, _, r, _, _ => by
    cases r
    intro z
    cases z
  | .str b, _, r, _, _ => by
    cases r
    intro z
    cases z
  | .tup b, _, r, _, _ => by
    obtain ⟨a, vs, e, _⟩ := r
    rw [e]
    intro z
    cases z
  | .lst b, _, r, _, _ => by
    obtain ⟨a, vs, e, _⟩ := r
    rw [e]
    intro z
    cases z
  | .scr b, _, r, _, _ => by
    obtain ⟨a, e, _⟩ := r
    rw [e]
    intro z
    cases z
  | .ref b, _, r, _, _ => by
    obtain ⟨a, e, _⟩ := r
    rw [e]
    intro z
    cases z
  | .val u, _, _, _, k => absurd rfl (k u)
theorem opd_is : OpD X C (compareOp .Is) oIs := by
  refine ⟨_, op_isN, ?_⟩
  intro m G ph H x y v u Q I rx ry h
  cases y with
  | non =>
    refine ⟨ry, ?_⟩
    cases x with
    | non =>
      have e : v = .non := rx
      subst e
      exact h.here I _ rfl
    | val w => exact h.elim
    | _ =>
      rw [decide_eq_false (not_non rx (by intro z; cases z) (by intro w z; cases z))]
      exact h.here I _ rfl
  | _ => exact h.elim
theorem opd_isnot : OpD X C (compareOp .IsNot) oIsNot := by
  refine ⟨_, op_notN, ?_⟩
  intro m G ph H x y v u Q I rx ry h
  cases y with
  | non =>
    refine ⟨ry, ?_⟩
    cases x with
    | non =>
      have e : v = .non := rx
      subst e
      exact h.here I _ rfl
    | val w => exact h.elim
    | _ =>
      rw [decide_eq_false (not_non rx (by intro z; cases z) (by intro w z; cases z))]
      exact h.here I _ rfl
  | _ => exact h.elim
def oLt : Op2 := fun m x y => match x, y with
  | .int i, .int j => .ok (.bl (decide (i < j))) m
  | _, _ => .bad
def oLe : Op2 := fun m x y => match x, y with
  | .int i, .int j => .ok (.bl (decide (i ≤ j))) m
  | .str i, .str j => .ok (.bl (!decide (j.cps.toList < i.cps.toList))) m
  | _, _ => .bad
def oGt : Op2 := fun m x y => match x, y with
  | .int i, .int j => .ok (.bl (decide (j < i))) m
  | _, _ => .bad
def oGe : Op2 := fun m x y => match x, y with
  | .int i, .int j => .ok (.bl (decide (j ≤ i))) m
  | _, _ => .bad
theorem opd_lt : OpD X C (compareOp .Lt) oLt := by
  refine ⟨_, op_lt, ?_⟩
  intro m G ph H x y v u Q I rx ry h
  cases x with
  | int i =>
    cases y with
    | int j => exact ⟨i, j, rx, ry, h.here I _ rfl⟩
    | _ => exact h.elim
  | _ => exact h.elim
theorem opd_gt : OpD X C (compareOp .Gt) oGt := by
  refine ⟨_, op_gt, ?_⟩
  intro m G ph H x y v u Q I rx ry h
  cases x with
  | int i =>
    cases y with
    | int j => exact ⟨i, j, rx, ry, h.here I _ rfl⟩
    | _ => exact h.elim
  | _ => exact h.elim
theorem opd_ge : OpD X C (compareOp .GtE) oGe := by
  refine ⟨_, op_ge, ?_⟩
  intro m G ph H x y v u Q I rx ry h
  cases x with
  | int i =>
    cases y with
    | int j => exact ⟨i, j, rx, ry, h.here I _ rfl⟩
    | _ => exact h.elim
  | _ => exact h.elim
theorem opd_le : OpD X C (compareOp .LtE) oLe := by
  refine ⟨_, op_le.or op_le_str, ?_⟩
  intro m G ph H x y v u Q I rx ry h
  cases x with
  | int i =>
    cases y with
    | int j => exact .inl ⟨i, j, rx, ry, h.here I _ rfl⟩
    | _ => exact h.elim
  | str i =>
    cases y with
    | str j => exact .inr ⟨i, j, rx, ry, h.here I _ rfl⟩
    | _ => exact h.elim
  | _ => exact h.elim
end

/-! ## == of data -/
mutual
def plain : D → Bool
  | .non => true
  | .bl _ => true
  | .int _ => true
  | .str _ => true
  | .tup xs => plainL xs
  | .lst xs => plainL xs
  | _ => false
def plainL : List D → Bool
  | [] => true
  | d :: ds => plain d && plainL ds
end
mutual
def toP : D → PyData
  | .bl b => .bool b
  | .int i => .int i
  | .str x => .str x
  | .tup xs => .tuple (toPL xs)
  | .lst xs => .list (toPL xs)
  | _ => .none
def toPL : List D → List PyData
  | [] => []
  | d :: ds => toP d :: toPL ds
end
def view (m : Mem) : D → Option D
  | .ref n => match m[n]? with
    | some (.lst ds) => some (.lst ds)
    | _ => none
  | d => some d
def okP (d : D) : Bool := plain d && SeqAt.shaped (toP d)
def oEq : Op2 := fun m x y => match view m x, view m y with
  | some a, some b => if okP a = true ∧ okP b = true then .ok (.bl (PyData.eqv (toP a) (toP b))) m else .bad
  | _, _ => .bad
def oNe : Op2 := fun m x y => match view m x, view m y with
  | some a, some b => if okP a = true ∧ okP b = true then .ok (.bl (!PyData.eqv (toP a) (toP b))) m else .bad
  | _, _ => .bad
section
variable {K : PySem.W.Frag} {G H : Hp} {ph : List Addr}
mutual
theorem dp_of (s : Same G H) : ∀ (d : D) (v : V), plain d = true → RepV K G ph d v → Dp K H v (toP d)
  | .non, _, _, r => by
    cases r
    exact .non
  | .bl b, _, _, r => by
    cases r
    exact .bl b
  | .int i, _, _, r => by
    cases r
    exact .int i
  | .str i, _, _, r => by
    cases r
    exact .str i
  | .tup xs, _, p, r => by
    obtain ⟨a, vs, rfl, q, r⟩ := r
    exact .tup (sqT_mono s q) (dpl_of s xs vs p r)
  | .lst xs, _, p, r => by
    obtain ⟨a, vs, rfl, q, r⟩ := r
    exact .lst (SqL.of (s _ _ q)) (dpl_of s xs vs p r)
  | .scr _, _, p, _ => by cases p
  | .ref _, _, p, _ => by cases p
  | .val _, _, p, _ => by cases p
theorem dpl_of (s : Same G H) : ∀ (ds : List D) (vs : List V), plainL ds = true → RepL K G ph ds vs → DpAll K H vs (toPL ds)
  | [], _, _, r => by
    have e : _ = [] := r
    rw [e]
    exact .nil
  | d :: ds, _, p, r => by
    obtain ⟨v, vs, rfl, r1, r2⟩ := r
    have p2 : (plain d && plainL ds) = true := p
    rw [Bool.and_eq_true] at p2
    exact .cons (dp_of s d v p2.1 r1) (dpl_of s ds vs p2.2 r2)
end
end
theorem dp_view {C : Cn} {m : Mem} {G H : Hp} {ph : List Addr} (I : Mok C m G ph H) {x a : D} {v : V} (h : view m x = some a) (p : plain a = true) (r : RepV C.K G ph x v) : Dp C.K H v (toP a) := by
  cases x with
  | ref n =>
    cases q : dList m (.ref n) with
    | none =>
      have h' : (match m[n]? with
        | some (.lst ds) => some (D.lst ds)
        | _ => none) = some a := h
      have q' : (match m[n]? with
        | some (.lst ds) => some ds
        | _ => none) = none := q
      cases z : m[n]? with
      | none =>
        rw [z] at h'
        cases h'
      | some mo =>
        rw [z] at h' q'
        cases mo with
        | lst es => cases q'
        | _ => cases h'
    | some ds =>
      have e : a = .lst ds := by
        have h' : (match m[n]? with
          | some (.lst ds) => some (D.lst ds)
          | _ => none) = some a := h
        have q' : (match m[n]? with
          | some (.lst ds) => some ds
          | _ => none) = some ds := q
        cases z : m[n]? with
        | none =>
          rw [z] at h'
          cases h'
        | some mo =>
          rw [z] at h' q'
          cases mo with
          | lst es =>
            cases q'
            cases h'
            rfl
          | _ => cases h'
      subst e
      obtain ⟨b, vs, rfl, w, r2⟩ := dList_rep I q r
      exact .lst (SqL.of w) (dpl_of I.sub ds vs p r2)
  | _ =>
    cases h
    exact dp_of I.sub _ _ p r
section
variable {X : Cx} {C : Cn}
theorem opd_eq (hu : X.A.units + 64 < cLine) (hK : C.K = X.K := by rfl) : OpD X C (compareOp .Eq) oEq := by
  refine ⟨_, op_eqD hu, ?_⟩
  intro m G ph H x y v u Q I rx ry h
  cases hx : view m x with
  | none =>
    simp only [oEq, hx] at h
    exact h.elim
  | some a =>
    cases hy : view m y with
    | none =>
      simp only [oEq, hx, hy] at h
      exact h.elim
    | some b =>
      by_cases c : okP a = true ∧ okP b = true
      · simp only [oEq, hx, hy, if_pos c] at h
        obtain ⟨c1, c2⟩ := c
        unfold okP at c1 c2
        rw [Bool.and_eq_true] at c1 c2
        rw [← hK]
        exact ⟨toP a, toP b, dp_view I hx c1.1 rx, dp_view I hy c2.1 ry, c1.2, c2.2, h.here I _ rfl⟩
      · simp only [oEq, hx, hy, if_neg c] at h
        exact h.elim
theorem opd_ne (hu : X.A.units + 64 < cLine) (hK : C.K = X.K := by rfl) : OpD X C (compareOp .NotEq) oNe := by
  refine ⟨_, op_neD hu, ?_⟩
  intro m G ph H x y v u Q I rx ry h
  cases hx : view m x with
  | none =>
    simp only [oNe, hx] at h
    exact h.elim
  | some a =>
    cases hy : view m y with
    | none =>
      simp only [oNe, hx, hy] at h
      exact h.elim
    | some b =>
      by_cases c : okP a = true ∧ okP b = true
      · simp only [oNe, hx, hy, if_pos c] at h
        obtain ⟨c1, c2⟩ := c
        unfold okP at c1 c2
        rw [Bool.and_eq_true] at c1 c2
        rw [← hK]
        exact ⟨toP a, toP b, dp_view I hx c1.1 rx, dp_view I hy c2.1 ry, c1.2, c2.2, h.here I _ rfl⟩
      · simp only [oNe, hx, hy, if_neg c] at h
        exact h.elim
end

/-! ## in -/
def flatD : D → Bool
  | .non => true
  | .bl _ => true
  | .int _ => true
  | .str _ => true
  | _ => false
def toV : D → V
  | .bl b => .bl b
  | .int i => .int i
  | .str x => .str x
  | _ => .non
theorem flat_rep {K : PySem.W.Frag} {G : Hp} {ph : List Addr} : ∀ {x : D} {v : V}, flatD x = true → RepV K G ph x v → v = toV x ∧ flatV v = true
  | .non, _, _, r => by
    cases r
    exact ⟨rfl, rfl⟩
  | .bl _, _, _, r => by
    cases r
    exact ⟨rfl, rfl⟩
  | .int _, _, _, r => by
    cases r
    exact ⟨rfl, rfl⟩
  | .str _, _, _, r => by
    cases r
    exact ⟨rfl, rfl⟩
  | .tup _, _, h, _ => by cases h
  | .lst _, _, h, _ => by cases h
  | .scr _, _, h, _ => by cases h
  | .ref _, _, h, _ => by cases h
  | .val _, _, h, _ => by cases h
theorem flats_rep {K : PySem.W.Frag} {G : Hp} {ph : List Addr} : ∀ {ds : List D} {vs : List V}, ds.all flatD = true → RepL K G ph ds vs → vs = ds.map toV ∧ vs.all flatV = true
  | [], _, _, r => by
    have e : _ = [] := r
    rw [e]
    exact ⟨rfl, rfl⟩
  | d :: ds, _, h, r => by
    obtain ⟨v, vs, rfl, r1, r2⟩ := r
    rw [List.all_cons, Bool.and_eq_true] at h
    obtain ⟨e1, f1⟩ := flat_rep h.1 r1
    obtain ⟨e2, f2⟩ := flats_rep h.2 r2
    rw [List.all_cons, f1, f2, e1, e2]
    exact ⟨rfl, rfl⟩
/-- one sign -/
def sign1 (x : Str) : Option Nat := match x.cps.toList with
  | [c] => some c
  | _ => none
theorem sign1_ok {x : Str} {c : Nat} (h : sign1 x = some c) : x = ⟨#[c]⟩ := by
  unfold sign1 at h
  obtain ⟨⟨l⟩⟩ := x
  match l, h with
  | [d], h =>
    have e : d = c := by simpa using h
    rw [e]
def oIn (neg : Bool) : Op2 := fun m x y => match x, y with
  | .str a, .str b => match sign1 a with
    | some c => .ok (.bl (if neg then !decide (c ∈ b.cps.toList) else decide (c ∈ b.cps.toList))) m
    | none => .bad
  | x, y => match dSeq m y with
    | some ds => if flatD x = true ∧ ds.all flatD = true then .ok (.bl (if neg then !inV (toV x) (ds.map toV) else inV (toV x) (ds.map toV))) m else .bad
    | none => .bad
section
variable {X : Cx} {C : Cn}
theorem in_snd (neg : Bool) (hK : C.K = X.K) : Snd2 C (fun x y H Q => rIn X.K neg x y H Q ∨ ∃ (c : Nat) (z : Str), x = .str ⟨#[c]⟩ ∧ y = .str z ∧ Q (.bl (if neg then !decide (c ∈ z.cps.toList) else decide (c ∈ z.cps.toList))) H) (oIn neg) := by
  intro m G ph H x y v u Q I rx ry h
  have seqs : ∀ {x y : D}, RepV C.K G ph x v → RepV C.K G ph y u → Post C G ph H (fun d _ G' ph' H' => ∀ w, RepV C.K G' ph' d w → Q w H') (match dSeq m y with
    | some ds => if flatD x = true ∧ ds.all flatD = true then (.ok (.bl (if neg then !inV (toV x) (ds.map toV) else inV (toV x) (ds.map toV))) m : Res D) else .bad
    | none => .bad) → rIn X.K neg v u H Q := fun {x y} rx ry h => by
    cases hy : dSeq m y with
    | none =>
      rw [hy] at h
      exact h.elim
    | some ds =>
      rw [hy] at h
      obtain ⟨a, vs, rfl, hs, r⟩ := dSeq_rep I hy ry
      by_cases c : flatD x = true ∧ ds.all flatD = true
      · simp only [if_pos c] at h
        obtain ⟨e1, f1⟩ := flat_rep c.1 rx
        obtain ⟨e2, f2⟩ := flats_rep c.2 r
        refine ⟨a, vs, rfl, by rw [← hK]; exact hs, f1, f2, ?_⟩
        rw [e1, e2]
        exact h.here I _ rfl
      · simp only [if_neg c] at h
        exact h.elim
  cases x with
  | str a =>
    cases y with
    | str b =>
      cases q : sign1 a with
      | none =>
        simp only [oIn, q] at h
        exact h.elim
      | some c =>
        simp only [oIn, q] at h
        have e := sign1_ok q
        subst e
        exact .inr ⟨c, b, rx, ry, h.here I _ rfl⟩
    | _ => exact .inl (seqs rx ry h)
  | _ => exact .inl (seqs rx ry (by cases y <;> exact h))
theorem opd_in (hK : C.K = X.K := by rfl) : OpD X C (compareOp .In) (oIn false) := by
  refine ⟨_, OpR.or op_in_seq op_in_sign, fun m G ph H x y v u Q I rx ry h => ?_⟩
  rcases in_snd (X := X) false hK m G ph H x y v u Q I rx ry h with q | ⟨c, z, e1, e2, q⟩
  · exact .inl q
  · exact .inr ⟨c, z, e1, e2, q⟩
theorem opd_notin (hK : C.K = X.K := by rfl) : OpD X C (compareOp .NotIn) (oIn true) := by
  refine ⟨_, OpR.or op_notIn_seq op_notIn_sign, fun m G ph H x y v u Q I rx ry h => ?_⟩
  rcases in_snd (X := X) true hK m G ph H x y v u Q I rx ry h with q | ⟨c, z, e1, e2, q⟩
  · exact .inl q
  · exact .inr ⟨c, z, e1, e2, q⟩

/-! ## a chain of two comparisons -/
def eChain (f g : Op2) (a b c : EDen) : EDen := fun e m => (a e m).bind fun x m1 => (b e m1).bind fun y m2 => (f m2 x y).bind fun z m3 => match z with
  | .bl true => (c e m3).bind fun w m4 => g m4 y w
  | .bl false => .ok (.bl false) m3
  | _ => .bad
/-- what it tells leans on no later state -/
def Snd2' (C : Cn) (r : R2) (f : Op2) : Prop := ∀ m G ph H x y v u Q, Mok C m G ph H → RepV C.K G ph x v → RepV C.K G ph y u → Post C G ph H (fun d _ G' ph' H' => ∀ w, RepV C.K G' ph' d w → Q w H') (f m x y) → r v u H Q
theorem de_chain {op op' : CmpOp} {a b c : Expr} {pos : Pos} {f g : Op2} {fa fb fc : EDen} (h : OpD X C (compareOp op) f) (h' : OpD X C (compareOp op') g) (ha : DE X C a fa) (hb : DE X C b fb) (hc : DE X C c fc)
    (hm : lastMarks [op, op'] [b, c] = false := by rfl) : DE X C (.Compare a [op, op'] [b, c] pos) (eChain f g fa fb fc) := by
  obtain ⟨r, ho, hs⟩ := h
  obtain ⟨r', ho', hs'⟩ := h'
  refine pe_weak (pe_chain ho ho' ha hb hc hm) fun σ H Q ⟨e, m, G, ph, Eo, I, h⟩ => ?_
  refine goE Eo I h fun x m1 G1 ph1 H1 v Eo1 I1 X1 r1 h1 => goE Eo1 I1 h1 fun y m2 G2 ph2 H2 u Eo2 I2 X2 r2 h2 => ?_
  refine hs m2 G2 ph2 H2 x y v u _ I2 (RepV.mono X2.g X2.p _ _ r1) r2 (h2.bind.mono fun z m3 G3 ph3 H3 ⟨I3, X3, h3⟩ w rw => ?_)
  cases z with
  | bl k =>
    cases k with
    | true =>
      refine ⟨true, rw, iteT ?_⟩
      refine goE (Eo2.mono X3.g X3.p) I3 h3 fun z m4 G4 ph4 H4 w4 Eo4 I4 X4 r4 h4 => ?_
      exact hs' m4 G4 ph4 H4 y z u w4 Q I4 (RepV.mono (X3.g.trans X4.g) (X3.p.trans X4.p) _ _ r2) r4 h4
    | false => exact ⟨false, rw, iteF (h3.here I3 _ rfl)⟩
  | _ => exact h3.elim

/-! ## subscripts, slices -/
def IxD (X : Cx) (C : Cn) (f : Op2) : Prop := ∃ r, IxR X r ∧ Snd2 C r f
theorem de_ix {a b : Expr} {pos : Pos} {f : Op2} {fa fb : EDen} (h : IxD X C f) (ha : DE X C a fa) (hb : DE X C b fb) (hs : PlainIx b := by exact fun _ _ => rfl) : DE X C (.Subscript a b pos) (eBin f fa fb) := by
  obtain ⟨r, ho, hs'⟩ := h
  exact pe_weak (pe_ix ho ha hb hs) fun σ H Q q => op_w hs' q
def oIx : Op2 := fun m x y => match x, y with
  | .str z, .int i => match atI z.cps.toList i with
    | some c => if z.length ≤ 1000000 then .ok (.str ⟨#[c]⟩) m else .bad
    | none => .bad
  | x, .int i => match dSeq m x with
    | some ds => match atI ds i with
      | some d => .ok d m
      | none => .bad
    | none => .bad
  | _, _ => .bad
theorem ixd (hK : C.K = X.K := by rfl) : IxD X C oIx := by
  refine ⟨_, ix_seq, ?_⟩
  intro m G ph H x y v u Q I rx ry h
  have seqs : ∀ {x : D} {i : Int}, RepV C.K G ph x v → u = .int i → Post C G ph H (fun d _ G' ph' H' => ∀ w, RepV C.K G' ph' d w → Q w H') (match dSeq m x with
    | some ds => match atI ds i with
      | some d => (.ok d m : Res D)
      | none => .bad
    | none => .bad) → rIx X.K v u H Q := fun {x i} rx ry h => by
    cases hx : dSeq m x with
    | none =>
      rw [hx] at h
      exact h.elim
    | some ds =>
      rw [hx] at h
      obtain ⟨a, vs, rfl, hs, r⟩ := dSeq_rep I hx rx
      cases q : atI ds i with
      | none =>
        simp only [q] at h
        exact h.elim
      | some d =>
        simp only [q] at h
        obtain ⟨w, ew, rw'⟩ := at_rep r q
        rw [← hK]
        rcases hs with hs | hs
        · exact .inl ⟨a, vs, i, w, rfl, ry, hs, ew, h.here I _ rw'⟩
        · exact .inr (.inl ⟨a, vs, i, w, rfl, ry, hs, ew, h.here I _ rw'⟩)
  cases y with
  | int i =>
    cases x with
    | str z =>
      cases q : atI z.cps.toList i with
      | none =>
        simp only [oIx, q] at h
        exact h.elim
      | some c =>
        by_cases hl : z.length ≤ 1000000
        · simp only [oIx, q, if_pos hl] at h
          exact .inr (.inr ⟨z, i, c, rx, ry, small_line hl, q, h.here I _ rfl⟩)
        · simp only [oIx, q, if_neg hl] at h
          exact h.elim
    | _ => exact seqs rx ry h
  | _ => cases x <;> exact h.elim
/-- a slice's part -/
abbrev ODen := Sl → Mem → Res (Option Int)
def pNone : ODen := fun _ m => .ok none m
def pSome (f : EDen) : ODen := fun e m => (f e m).bind fun d m1 => match d with
  | .int i => .ok (some i) m1
  | _ => .bad
def tO (C : Cn) (f : ODen) : TO := fun σ H Q => ∃ e m G ph, Eok C e G ph σ ∧ Mok C m G ph H ∧ Post C G ph H (fun o _ _ _ H' => Q o H') (f e m)
theorem po_weak {e : Option Expr} {t t' : TO} (h : PO X e t) (w : ∀ σ H Q, t' σ H Q → t σ H Q) : PO X e t' := ⟨fun pins s σ H Q I q => h.run pins s σ H Q I (w σ H Q q)⟩
theorem dp_none : PO X none (tO C pNone) := po_weak po_none fun σ H Q ⟨_, m, G, ph, _, I, h⟩ => Post.here h I
theorem dp_some {e : Expr} {f : EDen} (h : DE X C e f) : PO X (some e) (tO C (pSome f)) := po_weak (po_some h) fun σ H Q ⟨e, m, G, ph, Eo, I, h⟩ =>
  goE Eo I h fun x m1 G1 ph1 H1 v Eo1 I1 X1 r1 h1 => by
    cases x with
    | int i => exact ⟨i, r1, h1.here I1⟩
    | _ => exact h1.elim
theorem goO {C : Cn} {e : Sl} {m : Mem} {G : Hp} {ph : List Addr} {σ : St} {H : Hp} {β : Type} {f : ODen} {k : Option Int → Mem → Res β} {R : β → Mem → Hp → List Addr → Hp → Prop} {Q : Option Int → Hp → Prop}
    (Eo : Eok C e G ph σ) (I : Mok C m G ph H) (h : Post C G ph H R ((f e m).bind k))
    (w : ∀ b m1 G1 ph1 H1, Eok C e G1 ph1 σ → Mok C m1 G1 ph1 H1 → Ext G ph H G1 ph1 H1 → Post C G1 ph1 H1 R (k b m1) → Q b H1) : tO C f σ H Q :=
  ⟨e, m, G, ph, Eo, I, h.bind.mono fun d m1 G1 ph1 H1 ⟨I1, X1, h1⟩ => w d m1 G1 ph1 H1 (Eo.mono X1.g X1.p) I1 X1 h1⟩
def cutD (xs : List D) (lo hi : Option Int) : List D := (xs.drop (HT.sIx xs.length 0 lo)).take (HT.sIx xs.length xs.length hi - HT.sIx xs.length 0 lo)
theorem RepL.drop {K : PySem.W.Frag} {G : Hp} {ph : List Addr} : ∀ {ds : List D} {vs : List V} (n : Nat), RepL K G ph ds vs → RepL K G ph (ds.drop n) (vs.drop n)
  | _, _, 0, r => r
  | [], _, n + 1, r => by
    have e : _ = [] := r
    rw [e]
    exact rfl
  | d :: ds, _, n + 1, r => by
    obtain ⟨v, vs, rfl, _, r2⟩ := r
    exact RepL.drop (ds := ds) (vs := vs) n r2
theorem RepL.take {K : PySem.W.Frag} {G : Hp} {ph : List Addr} : ∀ {ds : List D} {vs : List V} (n : Nat), RepL K G ph ds vs → RepL K G ph (ds.take n) (vs.take n)
  | _, _, 0, r => rfl
  | [], _, n + 1, r => by
    have e : _ = [] := r
    rw [e]
    exact rfl
  | d :: ds, _, n + 1, r => by
    obtain ⟨v, vs, rfl, r1, r2⟩ := r
    exact ⟨v, vs.take n, rfl, r1, RepL.take (ds := ds) (vs := vs) n r2⟩
theorem cut_rep {K : PySem.W.Frag} {G : Hp} {ph : List Addr} {ds : List D} {vs : List V} {lo hi : Option Int} (r : RepL K G ph ds vs) : RepL K G ph (cutD ds lo hi) (cutV vs lo hi) := by
  unfold cutD cutV
  rw [r.length]
  exact RepL.take _ (RepL.drop _ r)
/-- a list's, a tuple's part -/
def eSlice (fa : EDen) (fl fh : ODen) : EDen := fun e m => (fa e m).bind fun x m1 => (fl e m1).bind fun lo m2 => (fh e m2).bind fun hi m3 => match x with
  | .tup ds => .ok (.tup (cutD ds lo hi)) m3
  | .str z => if z.length ≤ 1000000 then .ok (.str (cutS z lo hi)) m3 else .bad
  | x => match dList m3 x with
    | some ds => .ok (.lst (cutD ds lo hi)) m3
    | none => .bad
theorem de_slice {e : Expr} {lo hi : Option Expr} {p2 pos : Pos} {fa : EDen} {fl fh : ODen} (he : DE X C e fa) (hl : PO X lo (tO C fl)) (hh : PO X hi (tO C fh)) (hK : C.K = X.K := by rfl) : DE X C (.Subscript e (.Slice lo hi none p2) pos) (eSlice fa fl fh) := by
  refine pe_weak (pe_slice (sl_tupA.or (sl_list.or sl_str)) he hl hh) fun σ H Q ⟨e, m, G, ph, Eo, I, h⟩ => ?_
  refine goE Eo I h fun x m1 G1 ph1 H1 v Eo1 I1 X1 r1 h1 => goO Eo1 I1 h1 fun l m2 G2 ph2 H2 Eo2 I2 X2 h2 => goO Eo2 I2 h2 fun u m3 G3 ph3 H3 Eo3 I3 X3 h3 => ?_
  have rx := RepV.mono (X2.g.trans X3.g) (X2.p.trans X3.p) _ _ r1
  have lists : ∀ {x : D}, RepV C.K G3 ph3 x v → Post C G3 ph3 H3 (fun d _ G' ph' H' => ∀ w, RepV C.K G' ph' d w → Q w H') (match dList m3 x with
    | some ds => (.ok (.lst (cutD ds l u)) m3 : Res D)
    | none => .bad) → rSlL X.K v l u H3 Q := fun {x} rx h => by
    cases hx : dList m3 x with
    | none =>
      rw [hx] at h
      exact h.elim
    | some ds =>
      rw [hx] at h
      obtain ⟨a, vs, rfl, ha, r⟩ := dList_rep I3 hx rx
      refine ⟨a, vs, rfl, SqL.of ha, fun p hp => ?_⟩
      obtain ⟨I4, X4⟩ := I3.frozen hp (.lst (cutV vs l u))
      exact h _ _ _ I4 X4 _ ⟨p, _, rfl, upd_same, RepL.mono X4.g X4.p _ _ (cut_rep r)⟩
  cases x with
  | tup ds =>
    obtain ⟨a, vs, rfl, q, r⟩ := rx
    have h4 : Post C G3 ph3 H3 (fun d _ G' ph' H' => ∀ w, RepV C.K G' ph' d w → Q w H') (.ok (.tup (cutD ds l u)) m3) := h3
    refine .inl ⟨a, vs, rfl, by rw [← hK]; exact sqT_mono I3.sub q, fun z => ?_, fun z p hp => ?_⟩
    · have e0 : cutV vs l u = vs := by
        unfold cutV
        rw [z.1, z.2, List.drop_zero, Nat.sub_zero, List.take_length]
      have r' := cut_rep (lo := l) (hi := u) r
      rw [e0] at r'
      exact h4.here I3 _ ⟨a, vs, rfl, q, r'⟩
    · obtain ⟨I4, X4⟩ := I3.frozen hp (.tup (cutV vs l u))
      exact h4 _ _ _ I4 X4 _ ⟨p, _, rfl, SqT.of upd_same, RepL.mono X4.g X4.p _ _ (cut_rep r)⟩
  | str z =>
    have h4 : Post C G3 ph3 H3 (fun d _ G' ph' H' => ∀ w, RepV C.K G' ph' d w → Q w H') (if z.length ≤ 1000000 then (.ok (.str (cutS z l u)) m3 : Res D) else .bad) := h3
    by_cases hl : z.length ≤ 1000000
    · rw [if_pos hl] at h4
      exact .inr (.inr ⟨z, rx, small_line hl, h4.here I3 _ rfl⟩)
    · rw [if_neg hl] at h4
      exact h4.elim
  | _ => exact .inr (.inl (lists rx h3))
end
end DL

namespace DL
open PySem L2

/-! ## equality of data, decided -/
mutual
def D.beq : D → D → Bool
  | .non, .non => true
  | .bl a, .bl b => a == b
  | .int a, .int b => a == b
  | .str a, .str b => decide (a = b)
  | .tup a, .tup b => D.beqL a b
  | .lst a, .lst b => D.beqL a b
  | .scr a, .scr b => a == b
  | .ref a, .ref b => a == b
  | .val a, .val b => decide (a = b)
  | _, _ => false
def D.beqL : List D → List D → Bool
  | [], [] => true
  | a :: as, b :: bs => D.beq a b && D.beqL as bs
  | _, _ => false
end
mutual
theorem D.eq_of : ∀ (a b : D), D.beq a b = true → a = b
  | .non, b, h => by
    cases b with
    | non => rfl
    | _ => cases h
  | .bl a, b, h => by
    cases b with
    | bl c => rw [eq_of_beq (show (a == c) = true from h)]
    | _ => cases h
  | .int a, b, h => by
    cases b with
    | int c => rw [eq_of_beq (show (a == c) = true from h)]
    | _ => cases h
  | .str a, b, h => by
    cases b with
    | str c => rw [of_decide_eq_true (show decide (a = c) = true from h)]
    | _ => cases h
  | .tup a, b, h => by
    cases b with
    | tup c => rw [D.eq_ofL a c h]
    | _ => cases h
  | .lst a, b, h => by
    cases b with
    | lst c => rw [D.eq_ofL a c h]
    | _ => cases h
  | .scr a, b, h => by
    cases b with
    | scr c => rw [eq_of_beq (show (a == c) = true from h)]
    | _ => cases h
  | .ref a, b, h => by
    cases b with
    | ref c => rw [eq_of_beq (show (a == c) = true from h)]
    | _ => cases h
  | .val a, b, h => by
    cases b with
    | val c => rw [of_decide_eq_true (show decide (a = c) = true from h)]
    | _ => cases h
theorem D.eq_ofL : ∀ (a b : List D), D.beqL a b = true → a = b
  | [], [], _ => rfl
  | [], _ :: _, h => by cases h
  | _ :: _, [], h => by cases h
  | a :: as, b :: bs, h => by
    have h2 : (D.beq a b && D.beqL as bs) = true := h
    rw [Bool.and_eq_true] at h2
    rw [D.eq_of a b h2.1, D.eq_ofL as bs h2.2]
end
mutual
theorem D.beq_self : ∀ (a : D), D.beq a a = true
  | .non => rfl
  | .bl a => beq_self_eq_true a
  | .int a => beq_self_eq_true a
  | .str a => decide_eq_true rfl
  | .tup a => D.beq_selfL a
  | .lst a => D.beq_selfL a
  | .scr a => beq_self_eq_true a
  | .ref a => beq_self_eq_true a
  | .val a => decide_eq_true rfl
theorem D.beq_selfL : ∀ (a : List D), D.beqL a a = true
  | [] => rfl
  | a :: as => by
    show (D.beq a a && D.beqL as as) = true
    rw [D.beq_self a, D.beq_selfL as]
    rfl
end
instance : DecidableEq D := fun a b => decidable_of_iff (D.beq a b = true) ⟨D.eq_of a b, fun h => by rw [h]; exact D.beq_self b⟩
instance : DecidableEq MO := fun a b => match a, b with
  | .lst x, .lst y => if h : x = y then isTrue (by rw [h]) else isFalse fun z => h (MO.lst.inj z)
  | .dct x, .dct y => if h : x = y then isTrue (by rw [h]) else isFalse fun z => h (MO.dct.inj z)
  | .ins c x, .ins d y => if h : c = d ∧ x = y then isTrue (by rw [h.1, h.2]) else isFalse fun z => h (MO.ins.inj z)
  | .dead, .dead => isTrue rfl
  | .lst _, .dct _ => isFalse fun z => by cases z
  | .lst _, .ins _ _ => isFalse fun z => by cases z
  | .lst _, .dead => isFalse fun z => by cases z
  | .dct _, .lst _ => isFalse fun z => by cases z
  | .dct _, .ins _ _ => isFalse fun z => by cases z
  | .dct _, .dead => isFalse fun z => by cases z
  | .ins _ _, .lst _ => isFalse fun z => by cases z
  | .ins _ _, .dct _ => isFalse fun z => by cases z
  | .ins _ _, .dead => isFalse fun z => by cases z
  | .dead, .lst _ => isFalse fun z => by cases z
  | .dead, .dct _ => isFalse fun z => by cases z
  | .dead, .ins _ _ => isFalse fun z => by cases z

/-! ## calls of what is built in -/
def SndA (C : Cn) (r : List V → Hp → VK → Prop) (g : Mem → List D → Res D) : Prop := ∀ m G ph H xs vs Q, Mok C m G ph H → RepL C.K G ph xs vs → Post C G ph H (fun d _ G' ph' H' => ∀ w, RepV C.K G' ph' d w → Q w H') (g m xs) → r vs H Q
def CallD (X : Cx) (C : Cn) (f : Value) (g : Mem → List D → Res D) : Prop := ∃ r, CallR X f r ∧ SndA C r g
def eCall (g : Mem → List D → Res D) (f : ADen) : EDen := fun e m => (f e m).bind fun xs m1 => g m1 xs
section
variable {X : Cx} {C : Cn}
theorem CallR.or {f : Value} {r r' : List V → Hp → VK → Prop} (h : CallR X f r) (h' : CallR X f r') : CallR X f (fun xs H Q => r xs H Q ∨ r' xs H Q) := by
  intro pins s σ H xs us Q I rr q
  rcases q with q | q
  · exact h pins s σ H xs us Q I rr q
  · exact h' pins s σ H xs us Q I rr q
theorem de_callB {x : Str} {id : String} {p pos : Pos} {e : Expr} {es : List Expr} {g : Mem → List D → Res D} {f : ADen} (h : CallD X C (.builtin id) g) (hg : Gl X x) (hm : X.mg x = none) (hv : bootBuiltins x = some (.builtin id)) (ha : DA X C (e :: es) f) (hn : x ≠ "__name__" := by decide) (hdb : (x == ("__debug__" : Str)) = false := by decide)
    (he : starEach (e :: es) X.env = (false, eval e X.env) :: starEach es X.env := by rfl) (hpl : (backTo pos (starEach es X.env)).any (·.1) = false := by rfl) : DE X C (.Call (.Name x p) (e :: es) [] pos) (eCall g f) := by
  obtain ⟨r, ho, hs⟩ := h
  exact pe_weak (pe_callB ho hg hm hv ha hn hdb he hpl) fun σ H Q ⟨e, m, G, ph, Eo, I, h⟩ => goA Eo I h fun xs m1 G1 ph1 H1 vs Eo1 I1 X1 r1 h1 => hs m1 G1 ph1 H1 xs vs Q I1 r1 h1
theorem de_callTy {x : Str} {T : String} {p pos : Pos} {e : Expr} {es : List Expr} {g : Mem → List D → Res D} {f : ADen} (h : CallD X C (.type T) g) (hg : Gl X x) (hm : X.mg x = none) (hv : bootBuiltins x = some (.type T)) (ha : DA X C (e :: es) f) (hn : x ≠ "__name__" := by decide) (hdb : (x == ("__debug__" : Str)) = false := by decide)
    (he : starEach (e :: es) X.env = (false, eval e X.env) :: starEach es X.env := by rfl) (hpl : (backTo pos (starEach es X.env)).any (·.1) = false := by rfl) : DE X C (.Call (.Name x p) (e :: es) [] pos) (eCall g f) := by
  obtain ⟨r, ho, hs⟩ := h
  exact pe_weak (pe_callTy ho hg hm hv ha hn hdb he hpl) fun σ H Q ⟨e, m, G, ph, Eo, I, h⟩ => goA Eo I h fun xs m1 G1 ph1 H1 vs Eo1 I1 X1 r1 h1 => hs m1 G1 ph1 H1 xs vs Q I1 r1 h1
theorem repl1 {K : PySem.W.Frag} {G : Hp} {ph : List Addr} {d : D} {vs : List V} (r : RepL K G ph [d] vs) : ∃ v, vs = [v] ∧ RepV K G ph d v := by
  obtain ⟨v, t, e, r1, r2⟩ := r
  have e2 : t = [] := r2
  rw [e2] at e
  exact ⟨v, e, r1⟩
theorem repl2 {K : PySem.W.Frag} {G : Hp} {ph : List Addr} {d d' : D} {vs : List V} (r : RepL K G ph [d, d'] vs) : ∃ v w, vs = [v, w] ∧ RepV K G ph d v ∧ RepV K G ph d' w := by
  obtain ⟨v, t, e, r1, r2⟩ := r
  obtain ⟨w, e2, r3⟩ := repl1 r2
  rw [e2] at e
  exact ⟨v, w, e, r1, r3⟩
/-- len -/
def bLen : Mem → List D → Res D := fun m xs => match xs with
  | [.str z] => if z.length ≤ 1000000 then .ok (.int z.length) m else .bad
  | [x] => match dSeq m x with
    | some ds => .ok (.int ds.length) m
    | none => .bad
  | _ => .bad
theorem call_len (hK : C.K = X.K := by rfl) : CallD X C (.builtin "len") bLen := by
  refine ⟨_, CallR.or call_len_seq call_len_str, ?_⟩
  intro m G ph H xs vs Q I r h
  unfold bLen at h
  split at h
  · rename_i z
    obtain ⟨v, rfl, r1⟩ := repl1 r
    have e : v = .str z := r1
    subst e
    by_cases hl : z.length ≤ 1000000
    · rw [if_pos hl] at h
      exact .inr ⟨z, rfl, small_line hl, h.here I _ rfl⟩
    · rw [if_neg hl] at h
      exact h.elim
  · rename_i x _
    obtain ⟨v, rfl, r1⟩ := repl1 r
    have seqs : Post C G ph H (fun d _ G' ph' H' => ∀ w, RepV C.K G' ph' d w → Q w H') (match dSeq m x with
      | some ds => (.ok (.int ds.length) m : Res D)
      | none => .bad) → ∃ p ys, [v] = [.ref p] ∧ (SqL X.K H p ys ∨ SqT X.K H p ys) ∧ Q (.int ys.length) H := fun h => by
      cases q : dSeq m x with
      | none =>
        rw [q] at h
        exact h.elim
      | some ds =>
        rw [q] at h
        obtain ⟨a, us, rfl, hs, rr⟩ := dSeq_rep I q r1
        refine ⟨a, us, rfl, by rw [← hK]; exact hs, ?_⟩
        rw [rr.length]
        exact h.here I _ rfl
    exact .inl (seqs h)
  · exact h.elim
/-- max of two ints -/
def bMax : Mem → List D → Res D := fun m xs => match xs with
  | [.int i, .int j] => .ok (.int (if j > i then j else i)) m
  | _ => .bad
theorem call_max (hc : X.calm = true) : CallD X C (.builtin "max") bMax := by
  refine ⟨_, call_max2 hc, ?_⟩
  intro m G ph H xs vs Q I r h
  unfold bMax at h
  split at h
  · obtain ⟨v, w, rfl, r1, r2⟩ := repl2 r
    have e1 : v = .int _ := r1
    have e2 : w = .int _ := r2
    subst e1 e2
    exact ⟨_, _, rfl, h.here I _ rfl⟩
  · exact h.elim
/-- int of an int, a bool; str of an int -/
def bInt : Mem → List D → Res D := fun m xs => match xs with
  | [.int i] => .ok (.int i) m
  | [.bl k] => .ok (.int (if k then 1 else 0)) m
  | _ => .bad
theorem call_int : CallD X C (.type "int") bInt := by
  refine ⟨_, call_int1, ?_⟩
  intro m G ph H xs vs Q I r h
  unfold bInt at h
  split at h
  · obtain ⟨v, rfl, r1⟩ := repl1 r
    have e1 : v = .int _ := r1
    subst e1
    exact .inl ⟨_, rfl, h.here I _ rfl⟩
  · obtain ⟨v, rfl, r1⟩ := repl1 r
    have e1 : v = .bl _ := r1
    subst e1
    exact .inr ⟨_, rfl, h.here I _ rfl⟩
  · exact h.elim
def bStr : Mem → List D → Res D := fun m xs => match xs with
  | [.int i] => if i.natAbs.log2 < 1920 then .ok (.str (toString i)) m else .bad
  | _ => .bad
theorem call_str : CallD X C (.type "str") bStr := by
  refine ⟨_, call_str_int, ?_⟩
  intro m G ph H xs vs Q I r h
  unfold bStr at h
  split at h
  · rename_i i
    obtain ⟨v, rfl, r1⟩ := repl1 r
    have e1 : v = .int i := r1
    subst e1
    by_cases hl : i.natAbs.log2 < 1920
    · rw [if_pos hl] at h
      exact ⟨i, rfl, hl, h.here I _ rfl⟩
    · rw [if_neg hl] at h
      exact h.elim
  · exact h.elim
/-- list(x), tuple(x) -/
def bList : Mem → List D → Res D := fun m xs => match xs with
  | [x] => match dSeq m x with
    | some ds => .ok (.lst ds) m
    | none => .bad
  | _ => .bad
def bListN : Mem → List D → Res D := fun m xs => match xs with
  | [x] => match dSeq m x with
    | some ds => .ok (.ref m.length) (m ++ [.lst ds])
    | none => .bad
  | _ => .bad
def bTuple : Mem → List D → Res D := fun m xs => match xs with
  | [x] => match dSeq m x with
    | some ds => .ok (.tup ds) m
    | none => .bad
  | _ => .bad
theorem call_list (hK : C.K = X.K := by rfl) : CallD X C (.type "list") bList := by
  refine ⟨_, call_list_of, ?_⟩
  intro m G ph H xs vs Q I r h
  unfold bList at h
  split at h
  · rename_i x
    obtain ⟨v, rfl, r1⟩ := repl1 r
    cases q : dSeq m x with
    | none =>
      rw [q] at h
      exact h.elim
    | some ds =>
      rw [q] at h
      obtain ⟨a, us, rfl, hs, rr⟩ := dSeq_rep I q r1
      refine ⟨a, us, rfl, by rw [← hK]; exact hs, fun p hp => ?_⟩
      obtain ⟨I2, X2⟩ := I.frozen hp (.lst us)
      exact h _ _ _ I2 X2 _ ⟨p, us, rfl, upd_same, RepL.mono X2.g X2.p _ _ rr⟩
  · exact h.elim
theorem call_listN (hK : C.K = X.K := by rfl) : CallD X C (.type "list") bListN := by
  refine ⟨_, call_list_of, ?_⟩
  intro m G ph H xs vs Q I r h
  unfold bListN at h
  split at h
  · rename_i x
    obtain ⟨v, rfl, r1⟩ := repl1 r
    cases q : dSeq m x with
    | none =>
      rw [q] at h
      exact h.elim
    | some ds =>
      rw [q] at h
      obtain ⟨a, us, rfl, hs, rr⟩ := dSeq_rep I q r1
      refine ⟨a, us, rfl, by rw [← hK]; exact hs, fun p hp => ?_⟩
      obtain ⟨I2, X2⟩ := I.cellNew hp (same_upd hp) (by rw [upd_same]; intro z; cases z) (mo := .lst ds) ⟨us, upd_same, RepL.mono (Same.refl _) (Pre.snoc _ _) _ _ rr⟩
      exact h _ _ _ I2 X2 _ ⟨p, rfl, ref_last ph p I.len⟩
  · exact h.elim
theorem sq_two {K : PySem.W.Frag} {a : Addr} {vs : List V} {H : Hp} (h : SqL K H a vs ∨ SqT K H a vs) : SqL K H a vs ∨ SqT K H a vs := h
theorem call_tuple (hK : C.K = X.K := by rfl) : CallD X C (.type "tuple") bTuple := by
  refine ⟨_, call_tuple_of, ?_⟩
  intro m G ph H xs vs Q I r h
  unfold bTuple at h
  split at h
  rotate_left
  · exact h.elim
  · rename_i x
    obtain ⟨v, rfl, r1⟩ := repl1 r
    cases q : dSeq m x with
    | none =>
      rw [q] at h
      exact h.elim
    | some ds =>
      rw [q] at h
      cases x with
      | tup es =>
        cases q
        obtain ⟨a, us, rfl, hs, rr⟩ := r1
        exact ⟨a, us, rfl, .inr ⟨by rw [← hK]; exact sqT_mono I.sub hs, h.here I _ ⟨a, us, rfl, hs, rr⟩⟩⟩
      | scr es =>
        cases q
        obtain ⟨a, rfl, hs⟩ := r1
        refine ⟨a, _, rfl, .inl ⟨by rw [← hK]; exact sqL_mono I.sub hs, fun p hp => ?_⟩⟩
        obtain ⟨I2, X2⟩ := I.frozen hp (.tup (es.map V.int))
        exact h _ _ _ I2 X2 _ ⟨p, _, rfl, SqT.of upd_same, RepL.ints⟩
      | lst es =>
        cases q
        obtain ⟨a, us, rfl, hs, rr⟩ := r1
        refine ⟨a, us, rfl, .inl ⟨by rw [← hK]; exact SqL.of (I.sub _ _ hs), fun p hp => ?_⟩⟩
        obtain ⟨I2, X2⟩ := I.frozen hp (.tup us)
        exact h _ _ _ I2 X2 _ ⟨p, us, rfl, SqT.of upd_same, RepL.mono X2.g X2.p _ _ rr⟩
      | ref n =>
        have q' : dList m (.ref n) = some ds := q
        obtain ⟨a, us, rfl, hs, rr⟩ := dList_rep I q' r1
        refine ⟨a, us, rfl, .inl ⟨by rw [← hK]; exact SqL.of hs, fun p hp => ?_⟩⟩
        obtain ⟨I2, X2⟩ := I.frozen hp (.tup us)
        exact h _ _ _ I2 X2 _ ⟨p, us, rfl, SqT.of upd_same, RepL.mono X2.g X2.p _ _ rr⟩
      | _ => cases q
/-- isinstance(x, T), T a built-in type -/
def tyD (m : Mem) : D → Option String
  | .non => some "NoneType"
  | .bl _ => some "bool"
  | .int _ => some "int"
  | .str _ => some "str"
  | .tup _ => some "tuple"
  | .lst _ => some "list"
  | .ref n => match m[n]? with
    | some (.lst _) => some "list"
    | _ => none
  | _ => none
def bIsi : Mem → List D → Res D := fun m xs => match xs with
  | [x, .val (.ty b)] => match tyD m x with
    | some a => match kitB a b with
      | some k => .ok (.bl k) m
      | none => .bad
    | none => .bad
  | _ => .bad
theorem tyT {K : PySem.W.Frag} {H : Hp} {a : Addr} {vs : List V} (h : SqT K H a vs) : TyX K H (.ref a) (.type "tuple") := by
  rcases h with (h | ⟨o, h⟩) | ⟨o, its, n, h, hc, _⟩
  · exact .base (.tup h)
  · exact .fTuple h
  · exact .kTuple h hc
theorem tyD_rep {m : Mem} {G : Hp} {ph : List Addr} {H : Hp} (I : Mok C m G ph H) : ∀ {x : D} {v : V} {t : String}, tyD m x = some t → RepV C.K G ph x v → TyX C.K H v (.type t)
  | .non, _, _, h, r => by
    cases h
    cases r
    exact .base .non
  | .bl b, _, _, h, r => by
    cases h
    cases r
    exact .base (.bl b)
  | .int b, _, _, h, r => by
    cases h
    cases r
    exact .base (.int b)
  | .str b, _, _, h, r => by
    cases h
    cases r
    exact .base (.str b)
  | .tup b, _, _, h, r => by
    cases h
    obtain ⟨a, vs, rfl, q, _⟩ := r
    exact tyT (sqT_mono I.sub q)
  | .lst b, _, _, h, r => by
    cases h
    obtain ⟨a, vs, rfl, q, _⟩ := r
    exact .base (.lst (I.sub _ _ q))
  | .ref n, v, t, h, r => by
    have h' : (match m[n]? with
      | some (.lst _) => some "list"
      | _ => none) = some t := h
    cases z : m[n]? with
    | none =>
      rw [z] at h'
      cases h'
    | some mo =>
      rw [z] at h'
      cases mo with
      | lst es =>
        cases h'
        obtain ⟨a, rfl, q⟩ := r
        obtain ⟨vs, w, _⟩ := cellList I q z
        exact .base (.lst w)
      | _ => cases h'
  | .scr _, _, _, h, _ => by cases h
  | .val _, _, _, h, _ => by cases h
theorem call_isinst (hK : C.K = X.K := by rfl) : CallD X C (.builtin "isinstance") bIsi := by
  refine ⟨_, call_isi, ?_⟩
  intro m G ph H xs vs Q I r h
  unfold bIsi at h
  split at h
  rotate_left
  · exact h.elim
  · rename_i x b
    obtain ⟨v, w, rfl, r1, r2⟩ := repl2 r
    have e2 : w = .ty b := r2
    subst e2
    cases q : tyD m x with
    | none =>
      rw [q] at h
      exact h.elim
    | some a =>
      rw [q] at h
      cases q2 : kitB a b with
      | none =>
        simp only [q2] at h
        exact h.elim
      | some k =>
        simp only [q2] at h
        rw [← hK]
        exact ⟨v, .ty b, .type a, .type b, k, rfl, .ty b, tyD_rep I q r1, kit_ty q2, h.here I _ rfl⟩
/-- a built-in type as a value -/
theorem de_ty {x : Str} {T : String} {pos : Pos} (hg : Gl X x) (hm : X.mg x = none) (hv : bootBuiltins x = some (.type T)) (hn : x ≠ "__name__" := by decide) (hd : (x == ("__debug__" : Str)) = false := by decide) : DE X C (.Name x pos) (eC (.val (.ty T))) :=
  de_const (pe_bltn (v := .ty T) hg hm hv rfl hn hd) fun _ _ => rfl
end

/-! ## a def's promise -/
def spD (C : Cn) (n : Nat) (f : List D → Mem → Res D) : Sp := fun vs H Q E => E = C.E ∧ ∃ ds m G ph, ds.length = n ∧ Mok C m G ph H ∧ RepL C.K G ph ds vs ∧ Post C G ph H (fun d _ G' ph' H' => ∀ v, RepV C.K G' ph' d v → Q v H') (f ds m)
theorem spD_len {C : Cn} {n : Nat} {f : List D → Mem → Res D} {vs : List V} {H : Hp} {Q : VK} {E : XK} (h : spD C n f vs H Q E) : vs.length = n := by
  obtain ⟨_, ds, m, G, ph, e, _, r, _⟩ := h
  rw [r.length, e]
def eDef (n : Nat) (f : List D → Mem → Res D) (a : ADen) : EDen := fun e m => (a e m).bind fun ds m1 => if ds.length = n then f ds m1 else .bad
theorem eDef_w {C : Cn} {n : Nat} {f : List D → Mem → Res D} {a : ADen} {σ : St} {H : Hp} {Q : VK} (h : tE C (eDef n f a) σ H Q) : tCall (spD C n f) [] C.E (tA C a) σ H Q := by
  obtain ⟨e, m, G, ph, Eo, I, h⟩ := h
  refine goA Eo I h fun ds m1 G1 ph1 H1 vs Eo1 I1 X1 r1 h1 => ?_
  by_cases hl : ds.length = n
  · rw [if_pos hl] at h1
    exact ⟨rfl, ds, m1, G1, ph1, hl, I1, by rw [List.append_nil]; exact r1, h1⟩
  · rw [if_neg hl] at h1
    exact h1.elim
section
variable {X : Cx} {C : Cn}
theorem de_call {CX : CXT} {k n : Nat} {f : Addr} {fd : FuncData} {ps : List Str} {den : List D → Mem → Res D} {x : Str} {p pos : Pos} {e : Expr} {es : List Expr} {a : ADen} (F : FnOk X.prog X.w X.K X.mg X.base CX k f fd ps (spD C n den)) (hr : Room k X.A) (hg : Gl X x) (hm : X.mg x = some (.ref f)) (hk : PySem.W.keepIn X.K (.ref f) = true)
    (hb : Binds X.K fd ps []) (hx : Passes CX X C.E) (ha : DA X C (e :: es) a) (hdb : (x == ("__debug__" : Str)) = false := by decide) (he : starEach (e :: es) X.env = (false, eval e X.env) :: starEach es X.env := by rfl) (hpl : (backTo pos (starEach es X.env)).any (·.1) = false := by rfl) :
    DE X C (.Call (.Name x p) (e :: es) [] pos) (eDef n den a) :=
  pe_weak (pe_call F hr hg hm hk hb .nil hx ha hdb he hpl) fun σ H Q h => eDef_w h
end

/-! ## the end of a def: cells that were made within are given up -/
mutual
def low (k : Nat) : D → Bool
  | .ref n => decide (n < k)
  | .tup xs => lowL k xs
  | .lst xs => lowL k xs
  | _ => true
def lowL (k : Nat) : List D → Bool
  | [] => true
  | d :: ds => low k d && lowL k ds
end
def lowM (k : Nat) : MO → Bool
  | .lst ds => lowL k ds
  | .dct kvs => lowL k (kvs.map (·.2))
  | .ins _ fs => lowL k (fs.map (·.2))
  | .dead => true
mutual
def unref (k : Nat) (m : Mem) : D → Option D
  | .ref n => if n < k then some (.ref n) else match m[n]? with
    | some (.lst ds) => if lowL k ds = true then some (.lst ds) else none
    | _ => none
  | .tup xs => (unrefL k m xs).map D.tup
  | .lst xs => (unrefL k m xs).map D.lst
  | d => some d
def unrefL (k : Nat) (m : Mem) : List D → Option (List D)
  | [] => some []
  | d :: ds => match unref k m d, unrefL k m ds with
    | some a, some b => some (a :: b)
    | _, _ => none
end
def fin (m0 : Mem) (d : D) (m : Mem) : Res D := if m.length ≤ m0.length then .ok d m else match unref m0.length m d with
  | some d' => if m.take m0.length = m0 then .ok d' m0 else if ((m.take m0.length).all (lowM m0.length)) = true then .ok d' (m.take m0.length) else .bad
  | none => .bad
section
variable {C : Cn} {m : Mem} {G : Hp} {ph : List Addr} {H : Hp} {k : Nat}
/-- the frozen part, the given up lists besides -/
noncomputable def given (m : Mem) (G : Hp) (ph : List Addr) (H : Hp) (k : Nat) : Hp := fun a => open Classical in if ∃ n ds, k ≤ n ∧ ph[n]? = some a ∧ m[n]? = some (.lst ds) then H a else G a
theorem given_of {n : Nat} {a : Addr} {ds : List D} (hk : k ≤ n) (h1 : ph[n]? = some a) (h2 : m[n]? = some (.lst ds)) : given m G ph H k a = H a := if_pos ⟨n, ds, hk, h1, h2⟩
theorem given_same (I : Mok C m G ph H) : Same G (given m G ph H k) := fun a o e => by
  unfold given
  split
  · exact I.sub a o e
  · exact e
theorem take_pre : ∀ {n : Nat} {a : Addr}, (ph.take k)[n]? = some a → ph[n]? = some a ∧ n < k := fun {n a} h => by
  have hn := (List.getElem?_eq_some_iff.mp h).1
  rw [List.length_take] at hn
  rw [List.getElem?_take_of_lt (by omega)] at h
  exact ⟨h, by omega⟩
mutual
theorem low_rep {K : PySem.W.Frag} {G G' : Hp} (s : Same G G') : ∀ (d : D) (v : V), low k d = true → RepV K G ph d v → RepV K G' (ph.take k) d v
  | .non, _, _, r => r
  | .bl _, _, _, r => r
  | .int _, _, _, r => r
  | .str _, _, _, r => r
  | .tup xs, _, h, r => by
    obtain ⟨a, vs, e, q, r⟩ := r
    exact ⟨a, vs, e, sqT_mono s q, low_repL s xs vs h r⟩
  | .lst xs, _, h, r => by
    obtain ⟨a, vs, e, q, r⟩ := r
    exact ⟨a, vs, e, s _ _ q, low_repL s xs vs h r⟩
  | .scr xs, _, h, r => by
    obtain ⟨a, e, q⟩ := r
    exact ⟨a, e, sqL_mono s q⟩
  | .ref n, _, h, r => by
    obtain ⟨a, e, q⟩ := r
    refine ⟨a, e, ?_⟩
    rw [List.getElem?_take_of_lt (of_decide_eq_true h)]
    exact q
  | .val _, _, _, r => r
theorem low_repL {K : PySem.W.Frag} {G G' : Hp} (s : Same G G') : ∀ (ds : List D) (vs : List V), lowL k ds = true → RepL K G ph ds vs → RepL K G' (ph.take k) ds vs
  | [], _, _, r => r
  | d :: ds, _, h, r => by
    obtain ⟨v, vs, e, r1, r2⟩ := r
    have h2 : (low k d && lowL k ds) = true := h
    rw [Bool.and_eq_true] at h2
    exact ⟨v, vs, e, low_rep s d v h2.1 r1, low_repL s ds vs h2.2 r2⟩
end
theorem low_cell {G G' : Hp} (s : Same G G') : ∀ {mo : MO} {a : Addr}, lowM k mo = true → CellRep C G ph H mo a → CellRep C G' (ph.take k) H mo a
  | .lst ds, _, h, r => by
    obtain ⟨vs, e, r⟩ := r
    exact ⟨vs, e, low_repL s _ _ h r⟩
  | .dct kvs, _, h, r => by
    obtain ⟨kv, e, q, r⟩ := r
    exact ⟨kv, e, q, low_repL s _ _ h r⟩
  | .ins c fs, _, h, r => by
    obtain ⟨dx, f, e, q, r⟩ := r
    exact ⟨dx, f, e, q, low_repL s _ _ h r⟩
  | .dead, _, _, _ => trivial
mutual
theorem unref_rep (I : Mok C m G ph H) : ∀ (d d' : D) (v : V), unref k m d = some d' → RepV C.K G ph d v → RepV C.K (given m G ph H k) (ph.take k) d' v
  | .non, d', v, h, r => by
    cases h
    exact r
  | .bl _, d', v, h, r => by
    cases h
    exact r
  | .int _, d', v, h, r => by
    cases h
    exact r
  | .str _, d', v, h, r => by
    cases h
    exact r
  | .val _, d', v, h, r => by
    cases h
    exact r
  | .scr xs, d', v, h, r => by
    cases h
    obtain ⟨a, e, q⟩ := r
    exact ⟨a, e, sqL_mono (given_same I) q⟩
  | .tup xs, d', v, h, r => by
    obtain ⟨a, vs, e, q, r⟩ := r
    have h' : (unrefL k m xs).map D.tup = some d' := h
    cases z : unrefL k m xs with
    | none =>
      rw [z] at h'
      cases h'
    | some ys =>
      rw [z] at h'
      cases h'
      exact ⟨a, vs, e, sqT_mono (given_same I) q, unrefL_rep I xs ys vs z r⟩
  | .lst xs, d', v, h, r => by
    obtain ⟨a, vs, e, q, r⟩ := r
    have h' : (unrefL k m xs).map D.lst = some d' := h
    cases z : unrefL k m xs with
    | none =>
      rw [z] at h'
      cases h'
    | some ys =>
      rw [z] at h'
      cases h'
      exact ⟨a, vs, e, given_same I _ _ q, unrefL_rep I xs ys vs z r⟩
  | .ref n, d', v, h, r => by
    obtain ⟨a, e, q⟩ := r
    have h' : (if n < k then some (D.ref n) else match m[n]? with
      | some (.lst ds) => if lowL k ds = true then some (D.lst ds) else none
      | _ => none) = some d' := h
    by_cases hn : n < k
    · rw [if_pos hn] at h'
      cases h'
      refine ⟨a, e, ?_⟩
      rw [List.getElem?_take_of_lt hn]
      exact q
    · rw [if_neg hn] at h'
      cases z : m[n]? with
      | none =>
        rw [z] at h'
        cases h'
      | some mo =>
        rw [z] at h'
        cases mo with
        | lst ds =>
          have h2 : (if lowL k ds = true then some (D.lst ds) else none) = some d' := h'
          by_cases c : lowL k ds = true
          · rw [if_pos c] at h2
            cases h2
            obtain ⟨vs, w, r⟩ := cellList I q z
            exact ⟨a, vs, e, by rw [given_of (by omega) q z]; exact w, low_repL (given_same I) _ _ c r⟩
          · rw [if_neg c] at h2
            cases h2
        | _ => cases h'
theorem unrefL_rep (I : Mok C m G ph H) : ∀ (ds ds' : List D) (vs : List V), unrefL k m ds = some ds' → RepL C.K G ph ds vs → RepL C.K (given m G ph H k) (ph.take k) ds' vs
  | [], ds', vs, h, r => by
    cases h
    exact r
  | d :: ds, ds', vs, h, r => by
    obtain ⟨v, ws, e, r1, r2⟩ := r
    have h' : (match unref k m d, unrefL k m ds with
      | some a, some b => some (a :: b)
      | _, _ => none) = some ds' := h
    cases z : unref k m d with
    | none =>
      rw [z] at h'
      cases h'
    | some a =>
      cases z2 : unrefL k m ds with
      | none =>
        rw [z, z2] at h'
        cases h'
      | some b =>
        rw [z, z2] at h'
        cases h'
        exact ⟨v, ws, e, unref_rep I d a v z r1, unrefL_rep I ds b ws z2 r2⟩
end
theorem Mok.giveUp (I : Mok C m G ph H) (hl : ((m.take k).all (lowM k)) = true) : Mok C (m.take k) (given m G ph H k) (ph.take k) H where
  sub := fun a o e => by
    unfold given at e
    split at e
    · exact e
    · exact I.sub a o e
  len := by rw [List.length_take, List.length_take, I.len]
  nd := I.nd.sublist (List.take_sublist _ _)
  trk := fun a ha => I.trk a (List.mem_of_mem_take ha)
  out := fun n a mo h1 h2 h3 => by
    obtain ⟨q1, hn⟩ := take_pre h1
    rw [List.getElem?_take_of_lt hn] at h2
    unfold given
    split
    · rename_i z
      obtain ⟨j, ds, hj, w1, w2⟩ := z
      have e := nodup_at I.nd q1 w1
      omega
    · exact I.out n a mo q1 h2 h3
  cell := fun n a mo h1 h2 => by
    obtain ⟨q1, hn⟩ := take_pre h1
    have h2' := h2
    rw [List.getElem?_take_of_lt hn] at h2
    exact low_cell (given_same I) (List.all_eq_true.mp hl mo (List.mem_of_getElem? h2')) (I.cell n a mo q1 h2)
theorem Ext.giveUp {G0 : Hp} {ph0 : List Addr} {H0 : Hp} (I : Mok C m G ph H) (X : Ext G0 ph0 H0 G ph H) (hk : ph0.length ≤ k) : Ext G0 ph0 H0 (given m G ph H k) (ph.take k) H where
  g := X.g.trans (given_same I)
  p := fun n a h => by
    have hn := (List.getElem?_eq_some_iff.mp h).1
    rw [List.getElem?_take_of_lt (by omega)]
    exact X.p n a h
  keep := X.keep
  gnew := fun a h q => by
    unfold given at q
    split at q
    · rename_i z
      obtain ⟨j, ds, hj, w1, w2⟩ := z
      rcases X.pnew a (List.mem_of_getElem? w1) with y | y
      · exact .inr y
      · exact .inl y
    · exact X.gnew a h q
  pnew := fun a h => X.pnew a (List.mem_of_mem_take h)
  there := X.there
end
section
variable {C : Cn} {G : Hp} {ph : List Addr} {H : Hp}
mutual
theorem rep_low {K : PySem.W.Frag} : ∀ (d : D) (v : V), RepV K G ph d v → low ph.length d = true
  | .non, _, _ => rfl
  | .bl _, _, _ => rfl
  | .int _, _, _ => rfl
  | .str _, _, _ => rfl
  | .val _, _, _ => rfl
  | .scr _, _, _ => rfl
  | .tup xs, _, r => by
    obtain ⟨a, vs, _, _, r⟩ := r
    exact rep_lowL xs vs r
  | .lst xs, _, r => by
    obtain ⟨a, vs, _, _, r⟩ := r
    exact rep_lowL xs vs r
  | .ref n, _, r => by
    obtain ⟨a, _, q⟩ := r
    exact decide_eq_true (List.getElem?_eq_some_iff.mp q).1
theorem rep_lowL {K : PySem.W.Frag} : ∀ (ds : List D) (vs : List V), RepL K G ph ds vs → lowL ph.length ds = true
  | [], _, _ => rfl
  | d :: ds, _, r => by
    obtain ⟨v, vs, _, r1, r2⟩ := r
    show (low ph.length d && lowL ph.length ds) = true
    rw [rep_low d v r1, rep_lowL ds vs r2]
    rfl
end
theorem cell_low : ∀ {mo : MO} {a : Addr}, CellRep C G ph H mo a → lowM ph.length mo = true
  | .lst ds, _, r => by
    obtain ⟨vs, _, r⟩ := r
    exact rep_lowL _ _ r
  | .dct kvs, _, r => by
    obtain ⟨kv, _, _, r⟩ := r
    exact rep_lowL _ _ r
  | .ins c fs, _, r => by
    obtain ⟨dx, f, _, _, r⟩ := r
    exact rep_lowL _ _ r
  | .dead, _, _ => rfl
theorem Mok.all_low {m : Mem} (I : Mok C m G ph H) : (m.all (lowM m.length)) = true := by
  rw [List.all_eq_true]
  intro mo hm
  obtain ⟨n, hn, e⟩ := List.mem_iff_getElem.mp hm
  have hp : n < ph.length := by rw [← I.len]; exact hn
  rw [I.len]
  exact cell_low (I.cell n ph[n] mo (List.getElem?_eq_getElem hp) (by rw [List.getElem?_eq_getElem hn, e]))
end
/-- the end of a def -/
theorem fin_ok {C : Cn} {G : Hp} {ph : List Addr} {H : Hp} {m0 m : Mem} {G' : Hp} {ph' : List Addr} {H' : Hp} {d : D} {v : V} {Q : VK} (I0 : Mok C m0 G ph H) (h : Post C G ph H (fun d _ G' ph' H' => ∀ v, RepV C.K G' ph' d v → Q v H') (fin m0 d m))
    (I : Mok C m G' ph' H') (X : Ext G ph H G' ph' H') (r : RepV C.K G' ph' d v) : Q v H' := by
  unfold fin at h
  by_cases c : m.length ≤ m0.length
  · rw [if_pos c] at h
    exact h G' ph' H' I X v r
  · rw [if_neg c] at h
    cases q : unref m0.length m d with
    | none =>
      rw [q] at h
      exact h.elim
    | some d' =>
      simp only [q] at h
      have go : ((m.take m0.length).all (lowM m0.length)) = true → Post C G ph H (fun d _ G' ph' H' => ∀ v, RepV C.K G' ph' d v → Q v H') (.ok d' (m.take m0.length)) → Q v H' := fun c2 h2 =>
        h2 _ _ _ (I.giveUp c2) (X.giveUp I (Nat.le_of_eq I0.len.symm)) v (unref_rep I d d' v q r)
      by_cases c3 : m.take m0.length = m0
      · rw [if_pos c3] at h
        refine go ?_ (by rw [c3]; exact h)
        rw [c3]
        exact I0.all_low
      · rw [if_neg c3] at h
        by_cases c2 : ((m.take m0.length).all (lowM m0.length)) = true
        · rw [if_pos c2] at h
          exact go c2 h
        · rw [if_neg c2] at h
          exact h.elim
/-- a def by its body; what it made besides is given up at its end -/
def bodyD (N : Nat) (f : SDen) : List D → Mem → Res D := fun ds m => (f (ds.map some ++ List.replicate (N - ds.length) none) m).bind fun fl m1 => match fl with
  | .rt d => fin m d m1
  | .nx _ => fin m .non m1
  | _ => .bad
/-- .. or kept -/
def bodyN (N : Nat) (f : SDen) : List D → Mem → Res D := fun ds m => (f (ds.map some ++ List.replicate (N - ds.length) none) m).bind fun fl m1 => match fl with
  | .rt d => .ok d m1
  | .nx _ => .ok .non m1
  | _ => .bad
theorem start_ok {C : Cn} {G : Hp} {ph : List Addr} {ds : List D} {vs : List V} (N : List Str) (r : RepL C.K G ph ds vs) : Eok C (ds.map some ++ List.replicate (N.length - ds.length) none) G ph (L2.start N vs) := by
  unfold L2.start
  refine ⟨by simp [r.length], fun i d h => ?_⟩
  by_cases hi : i < ds.length
  · rw [List.getElem?_append_left (by simpa using hi), List.getElem?_map] at h
    rw [List.getElem?_append_left (by simpa [r.length] using hi), List.getElem?_map]
    cases q : ds[i]? with
    | none =>
      rw [q] at h
      cases h
    | some d0 =>
      rw [q] at h
      have e : d0 = d := by simpa using h
      subst e
      obtain ⟨v, hv, rr⟩ := r.get q
      exact ⟨v, by rw [hv] <;> rfl, rr⟩
  · rw [List.getElem?_append_right (by simpa using hi), List.getElem?_replicate] at h
    split at h
    · simp at h
    · cases h
theorem body_w {C : Cn} {N : List Str} {f : SDen} {ds : List D} {m : Mem} {G : Hp} {ph : List Addr} {H : Hp} {vs : List V} {Q : VK} (I : Mok C m G ph H) (r : RepL C.K G ph ds vs)
    (h : Post C G ph H (fun d _ G' ph' H' => ∀ v, RepV C.K G' ph' d v → Q v H') (bodyD N.length f ds m)) : tS C f { nx := fun _ H' => Q .non H', rt := Q } (L2.start N vs) H := by
  refine ⟨_, m, G, ph, start_ok N r, I, ?_⟩
  unfold bodyD at h
  cases q : f (ds.map some ++ List.replicate (N.length - ds.length) none) m with
  | bad =>
    rw [q] at h
    exact h.elim
  | exc c p m1 =>
    rw [q] at h
    exact h
  | ok fl m1 =>
    rw [q] at h
    intro G1 ph1 H1 I1 X1
    cases fl with
    | nx e => exact fun σ' _ => fin_ok (m0 := m) (d := .non) (v := .non) I h I1 X1 rfl
    | rt d => exact fun v rd => fin_ok (m0 := m) I h I1 X1 rd
    | bk e => exact False.elim h
    | ct e => exact False.elim h
theorem bodyN_w {C : Cn} {N : List Str} {f : SDen} {ds : List D} {m : Mem} {G : Hp} {ph : List Addr} {H : Hp} {vs : List V} {Q : VK} (I : Mok C m G ph H) (r : RepL C.K G ph ds vs)
    (h : Post C G ph H (fun d _ G' ph' H' => ∀ v, RepV C.K G' ph' d v → Q v H') (bodyN N.length f ds m)) : tS C f { nx := fun _ H' => Q .non H', rt := Q } (L2.start N vs) H := by
  refine ⟨_, m, G, ph, start_ok N r, I, ?_⟩
  unfold bodyN at h
  cases q : f (ds.map some ++ List.replicate (N.length - ds.length) none) m with
  | bad =>
    rw [q] at h
    exact h.elim
  | exc c p m1 =>
    rw [q] at h
    exact h
  | ok fl m1 =>
    rw [q] at h
    intro G1 ph1 H1 I1 X1
    cases fl with
    | nx e => exact fun σ' _ => h _ _ _ I1 X1 .non rfl
    | rt d => exact fun v rd => h _ _ _ I1 X1 v rd
    | bk e => exact False.elim h
    | ct e => exact False.elim h
section
variable {P : Program} {w : World} {K : PySem.W.Frag} {mg : Str → Option Value} {base : Heap}
open PySem.Spec PyProof.Rows in
/-- THE RULE for a def that raises nothing: FunD of the head, the derivation of its body -/
theorem def_ok {x qual : Str} {params : Arguments} {body : List Stmt} {scope : Scope} {f : Addr} {fd : FuncData} {N ps : List Str} {k : Nat} {den : SDen} {C : Cn} (F : FunD K x qual params body scope [] [] f fd) (S : FnScope N ps scope)
    (hb : ∀ (cdv : Value) (A : Around) (outer : List PySem.Env) (s : Shared) (H : Hp), Room k (A.deeper (envOfC qual scope s.heap.objs.size f cdv)) →
      DSs (cxOf CX0 P w K mg base N qual scope f cdv A outer s H C.E).nox C body den) : FnOk P w K mg base CX0 (k + 1) f fd ps (spD C ps.length (bodyD N.length den)) := by
  refine F.ok S (fun vs H Q E h => spD_len h) fun cdv A outer s H vs Q E hr h => ?_
  obtain ⟨rfl, ds, m, G, ph, e, I, r, hp⟩ := h
  exact ⟨_, (hb cdv A outer s H hr).nox, body_w I r hp⟩
open PySem.Spec PyProof.Rows in
theorem def_okN {x qual : Str} {params : Arguments} {body : List Stmt} {scope : Scope} {f : Addr} {fd : FuncData} {N ps : List Str} {k : Nat} {den : SDen} {C : Cn} (F : FunD K x qual params body scope [] [] f fd) (S : FnScope N ps scope)
    (hb : ∀ (cdv : Value) (A : Around) (outer : List PySem.Env) (s : Shared) (H : Hp), Room k (A.deeper (envOfC qual scope s.heap.objs.size f cdv)) →
      DSs (cxOf CX0 P w K mg base N qual scope f cdv A outer s H C.E).nox C body den) : FnOk P w K mg base CX0 (k + 1) f fd ps (spD C ps.length (bodyN N.length den)) := by
  refine F.ok S (fun vs H Q E h => spD_len h) fun cdv A outer s H vs Q E hr h => ?_
  obtain ⟨rfl, ds, m, G, ph, e, I, r, hp⟩ := h
  exact ⟨_, (hb cdv A outer s H hr).nox, bodyN_w I r hp⟩
end
end DL

namespace DL
open PySem L2

/-! ## instances -/
def lookF (f : Str) : List (Str × D) → Option D
  | [] => none
  | (g, d) :: r => if f = g then some d else lookF f r
/-- o.f -/
def eFld (c f : Str) (o : EDen) : EDen := fun e m => (o e m).bind fun x m1 => match x with
  | .ref n => match m1[n]? with
    | some (.ins c' fs) => if c' = c then (match lookF f fs with
      | some d => .ok d m1
      | none => .bad) else .bad
    | _ => .bad
  | _ => .bad
section
variable {K : PySem.W.Frag} {G : Hp} {ph : List Addr}
theorem look_rep {f : Str} : ∀ {fs : List (Str × D)} {gs : List (Str × V)}, gs.map (·.1) = fs.map (·.1) → RepL K G ph (fs.map (·.2)) (gs.map (·.2)) →
    (∀ d, lookF f fs = some d → ∃ v, gs.lookup f = some v ∧ RepV K G ph d v) ∧ (lookF f fs = none → gs.lookup f = none)
  | [], [], _, _ => ⟨fun d h => (by cases h), fun _ => rfl⟩
  | [], _ :: _, e, _ => by cases e
  | _ :: _, [], e, _ => by cases e
  | (g, d) :: fs, (g', v) :: gs, e, r => by
    have e1 : g' = g := (List.cons.inj e).1
    have e2 : gs.map (·.1) = fs.map (·.1) := (List.cons.inj e).2
    obtain ⟨w, t, q, r1, r2⟩ := r
    have q1 : v = w := (List.cons.inj q).1
    have q2 : gs.map (·.2) = t := (List.cons.inj q).2
    subst e1 q1 q2
    obtain ⟨i1, i2⟩ := look_rep (f := f) e2 r2
    by_cases c : f = g'
    · subst c
      refine ⟨fun d' h => ?_, fun h => ?_⟩
      · have h' : (if f = f then some d else lookF f fs) = some d' := h
        rw [if_pos rfl] at h'
        cases h'
        exact ⟨v, by simp [List.lookup], r1⟩
      · have h' : (if f = f then some d else lookF f fs) = none := h
        rw [if_pos rfl] at h'
        cases h'
    · have cb : (f == g') = false := by simpa using c
      refine ⟨fun d' h => ?_, fun h => ?_⟩
      · have h' : (if f = g' then some d else lookF f fs) = some d' := h
        rw [if_neg c] at h'
        obtain ⟨w, a, b⟩ := i1 d' h'
        exact ⟨w, by simp [List.lookup, cb, a], b⟩
      · have h' : (if f = g' then some d else lookF f fs) = none := h
        rw [if_neg c] at h'
        simp [List.lookup, cb, i2 h']
end
section
variable {X : Cx} {C : Cn}
theorem cellIns {m : Mem} {G : Hp} {ph : List Addr} {H : Hp} (I : Mok C m G ph H) {n : Nat} {a : Addr} {c : Str} {fs : List (Str × D)} (h : ph[n]? = some a) (k : m[n]? = some (.ins c fs)) :
    ∃ (dx : Addr) (f : List (Str × V)), H a = some (.ins (C.cl c) dx f) ∧ f.map (·.1) = fs.map (·.1) ∧ RepL C.K G ph (fs.map (·.2)) (f.map (·.2)) := I.cell n a _ h k
theorem de_fld {o : Expr} {f : Str} {pos : Pos} {fo : EDen} (c : Str) (ho : DE X C o fo) (cl : Cls X.K (C.cl c)) (na : NoAttr X.K (C.cl c) f) (hb : attributeBase o f X.env (eval o X.env) = eval o X.env := by rfl) : DE X C (.Attribute o f pos) (eFld c f fo) :=
  pe_weak (pe_fld ho hb) fun σ H Q ⟨e, m, G, ph, Eo, I, h⟩ => goE Eo I h fun x m1 G1 ph1 H1 v Eo1 I1 X1 r1 h1 => by
    cases x with
    | ref n =>
      obtain ⟨a, rfl, q⟩ := r1
      cases z : m1[n]? with
      | none =>
        simp only [z] at h1
        exact h1.elim
      | some mo =>
        cases mo with
        | ins c' fs =>
          simp only [z] at h1
          obtain ⟨dx, gs, ha, e1, rr⟩ := cellIns I1 q z
          by_cases hc : c' = c
          · subst hc
            simp only [if_pos] at h1
            cases l : lookF f fs with
            | none =>
              simp only [l] at h1
              exact h1.elim
            | some d =>
              simp only [l] at h1
              obtain ⟨w, lw, rw'⟩ := (look_rep e1 rr).1 d l
              exact ⟨a, C.cl c', dx, gs, w, rfl, ha, cl, na, lw, h1.here I1 w rw'⟩
          · simp only [if_neg hc] at h1
            exact h1.elim
        | _ =>
          simp only [z] at h1
          exact h1.elim
    | _ => exact h1.elim
end

/-! ## dicts -/
def keyD : D → Option Key
  | .int i => some (.inl i)
  | .str x => some (.inr x)
  | _ => none
def valD : List (Key × D) → Key → Option D
  | [], _ => none
  | (k', d) :: r, k => if k' = k then some d else valD r k
def putD (kvs : List (Key × D)) (k : Key) (d : D) : List (Key × D) :=
  if (kvs.any fun kv => decide (kv.1 = k)) = true then kvs.map (fun kv => if kv.1 = k then (kv.1, d) else kv) else kvs ++ [(k, d)]
def dropD (kvs : List (Key × D)) (k : Key) : List (Key × D) := kvs.filter fun kv => decide (kv.1 ≠ k)
theorem keyD_rep {K : PySem.W.Frag} {G : Hp} {ph : List Addr} : ∀ {d : D} {v : V} {k : Key}, keyD d = some k → RepV K G ph d v → v = kV k
  | .int i, _, _, h, r => by
    cases h
    exact r
  | .str i, _, _, h, r => by
    cases h
    exact r
  | .non, _, _, h, _ => by cases h
  | .bl _, _, _, h, _ => by cases h
  | .tup _, _, _, h, _ => by cases h
  | .lst _, _, _, h, _ => by cases h
  | .scr _, _, _, h, _ => by cases h
  | .ref _, _, _, h, _ => by cases h
  | .val _, _, _, h, _ => by cases h
section
variable {K : PySem.W.Frag} {G : Hp} {ph : List Addr}
/-- a dict's data stand for its entries -/
def RepK (K : PySem.W.Frag) (G : Hp) (ph : List Addr) (ks : List (Key × D)) (vs : List (Key × V)) : Prop := vs.map (·.1) = ks.map (·.1) ∧ RepL K G ph (ks.map (·.2)) (vs.map (·.2))
theorem RepK.inv {k : Key} {d : D} {ks : List (Key × D)} {vs : List (Key × V)} (r : RepK K G ph ((k, d) :: ks) vs) : ∃ v r', vs = (k, v) :: r' ∧ RepV K G ph d v ∧ RepK K G ph ks r' := by
  obtain ⟨e, r⟩ := r
  match vs, e, r with
  | [], e, _ => cases e
  | (k', v) :: r', e, r =>
    have e1 : k' = k := (List.cons.inj e).1
    obtain ⟨w, t, q, r1, r2⟩ := r
    have q1 : v = w := (List.cons.inj q).1
    have q2 : r'.map (·.2) = t := (List.cons.inj q).2
    subst e1 q1 q2
    exact ⟨v, r', rfl, r1, (List.cons.inj e).2, r2⟩
theorem RepK.nil_inv {vs : List (Key × V)} (r : RepK K G ph [] vs) : vs = [] := by
  match vs, r.1 with
  | [], _ => rfl
  | _ :: _, e => cases e
theorem RepK.cons {k : Key} {d : D} {v : V} {ks : List (Key × D)} {vs : List (Key × V)} (r : RepV K G ph d v) (t : RepK K G ph ks vs) : RepK K G ph ((k, d) :: ks) ((k, v) :: vs) :=
  ⟨by rw [List.map_cons, List.map_cons, t.1], v, _, rfl, r, t.2⟩
theorem RepK.length {ks : List (Key × D)} {vs : List (Key × V)} (r : RepK K G ph ks vs) : vs.length = ks.length := by
  have := congrArg List.length r.1
  rwa [List.length_map, List.length_map] at this
theorem RepK.val {k : Key} : ∀ {ks : List (Key × D)} {vs : List (Key × V)}, RepK K G ph ks vs → (∀ d, valD ks k = some d → ∃ v, valV vs k = some v ∧ RepV K G ph d v) ∧ (valD ks k = none → valV vs k = none)
  | [], vs, r => by
    rw [r.nil_inv]
    exact ⟨fun d h => (by cases h), fun _ => rfl⟩
  | (k', d') :: ks, vs, r => by
    obtain ⟨v, r', rfl, r1, r2⟩ := r.inv
    obtain ⟨i1, i2⟩ := RepK.val (k := k) r2
    by_cases c : k' = k
    · subst c
      have e : valV ((k', v) :: r') k' = some v := by simp [valV]
      refine ⟨fun d h => ?_, fun h => ?_⟩
      · have h' : (if k' = k' then some d' else valD ks k') = some d := h
        rw [if_pos rfl] at h'
        cases h'
        exact ⟨v, e, r1⟩
      · have h' : (if k' = k' then some d' else valD ks k') = none := h
        rw [if_pos rfl] at h'
        cases h'
    · have e : valV ((k', v) :: r') k = valV r' k := by simp [valV, c]
      have e2 : valD ((k', d') :: ks) k = valD ks k := if_neg c
      rw [e, e2]
      exact ⟨i1, i2⟩
theorem RepK.any (k : Key) : ∀ {ks : List (Key × D)} {vs : List (Key × V)}, RepK K G ph ks vs → (vs.any fun kv => decide (kv.1 = k)) = ks.any fun kv => decide (kv.1 = k)
  | [], vs, r => by rw [r.nil_inv] <;> rfl
  | (k', d') :: ks, vs, r => by
    obtain ⟨w, r', rfl, r1, r2⟩ := r.inv
    rw [List.any_cons, List.any_cons, RepK.any k r2]
theorem RepK.upd {k : Key} {d : D} {v : V} (rv : RepV K G ph d v) : ∀ {ks : List (Key × D)} {vs : List (Key × V)}, RepK K G ph ks vs →
    RepK K G ph (ks.map fun kv => if kv.1 = k then (kv.1, d) else kv) (vs.map fun kv => if kv.1 = k then (kv.1, v) else kv)
  | [], vs, r => by
    rw [r.nil_inv]
    exact ⟨rfl, rfl⟩
  | (k', d') :: ks, vs, r => by
    obtain ⟨w, r', rfl, r1, r2⟩ := r.inv
    have ih := RepK.upd rv (k := k) r2
    rw [List.map_cons, List.map_cons]
    by_cases c : k' = k
    · rw [if_pos c, if_pos c]
      exact ih.cons rv
    · rw [if_neg c, if_neg c]
      exact ih.cons r1
theorem RepK.snoc {k : Key} {d : D} {v : V} (rv : RepV K G ph d v) : ∀ {ks : List (Key × D)} {vs : List (Key × V)}, RepK K G ph ks vs → RepK K G ph (ks ++ [(k, d)]) (vs ++ [(k, v)])
  | [], vs, r => by
    rw [r.nil_inv]
    exact RepK.cons rv ⟨rfl, rfl⟩
  | (k', d') :: ks, vs, r => by
    obtain ⟨w, r', rfl, r1, r2⟩ := r.inv
    exact (RepK.snoc rv (k := k) r2).cons r1
theorem RepK.put {k : Key} {d : D} {v : V} (rv : RepV K G ph d v) {ks : List (Key × D)} {vs : List (Key × V)} (r : RepK K G ph ks vs) : RepK K G ph (putD ks k d) (putK vs k v) := by
  unfold putD putK
  rw [r.any k]
  by_cases c : (ks.any fun kv => decide (kv.1 = k)) = true
  · rw [if_pos c, if_pos c]
    exact r.upd rv
  · rw [if_neg c, if_neg c]
    exact r.snoc rv
theorem RepK.drop {k : Key} : ∀ {ks : List (Key × D)} {vs : List (Key × V)}, RepK K G ph ks vs → RepK K G ph (dropD ks k) (dropK vs k)
  | [], vs, r => by
    rw [r.nil_inv]
    exact ⟨rfl, rfl⟩
  | (k', d') :: ks, vs, r => by
    obtain ⟨w, r', rfl, r1, r2⟩ := r.inv
    have ih := RepK.drop (k := k) r2
    by_cases c : k' = k
    · have e1 : dropD ((k', d') :: ks) k = dropD ks k := by simp [dropD, c]
      have e2 : dropK ((k', w) :: r') k = dropK r' k := by simp [dropK, c]
      rw [e1, e2]
      exact ih
    · have e1 : dropD ((k', d') :: ks) k = (k', d') :: dropD ks k := by simp [dropD, c]
      have e2 : dropK ((k', w) :: r') k = (k', w) :: dropK r' k := by simp [dropK, c]
      rw [e1, e2]
      exact ih.cons r1
end

/-- the dict that a datum names -/
def dDict (m : Mem) : D → Option (Nat × List (Key × D))
  | .ref n => match m[n]? with
    | some (.dct kvs) => some (n, kvs)
    | _ => none
  | _ => none
section
variable {X : Cx} {C : Cn}
theorem dDict_inv {m : Mem} {x : D} {n : Nat} {kvs : List (Key × D)} (h : dDict m x = some (n, kvs)) : x = .ref n ∧ m[n]? = some (.dct kvs) := by
  cases x with
  | ref k =>
    have h' : (match m[k]? with
      | some (.dct kvs) => some (k, kvs)
      | _ => none) = some (n, kvs) := h
    cases z : m[k]? with
    | none =>
      rw [z] at h'
      cases h'
    | some mo =>
      rw [z] at h'
      cases mo with
      | dct l =>
        cases h'
        exact ⟨rfl, z⟩
      | _ => cases h'
  | _ => cases h
theorem dDict_rep {m : Mem} {G : Hp} {ph : List Addr} {H : Hp} (I : Mok C m G ph H) {x : D} {v : V} {n : Nat} {kvs : List (Key × D)} (h : dDict m x = some (n, kvs)) (r : RepV C.K G ph x v) :
    ∃ a kv, v = .ref a ∧ ph[n]? = some a ∧ m[n]? = some (.dct kvs) ∧ H a = some (.dK kv) ∧ RepK C.K G ph kvs kv := by
  obtain ⟨rfl, z⟩ := dDict_inv h
  obtain ⟨a, e, q⟩ := r
  obtain ⟨kv, w, e1, rr⟩ := I.cell n a _ q z
  exact ⟨a, kv, e, q, z, w, e1, rr⟩
/-- d[k] -/
def eDGet (fd fk : EDen) : EDen := fun e m => (fd e m).bind fun x m1 => (fk e m1).bind fun y m2 => match dDict m2 x, keyD y with
  | some (_, kvs), some k => match valD kvs k with
    | some d => .ok d m2
    | none => .bad
  | _, _ => .bad
theorem de_dget {o i : Expr} {pos : Pos} {fd fk : EDen} (hu : X.A.units + 1 < cLine) (ho : DE X C o fd) (hi : DE X C i fk) (hs : NoSl i := by exact fun _ _ => rfl) : DE X C (.Subscript o i pos) (eDGet fd fk) :=
  pe_weak (pe_dget hu ho hi hs) fun σ H Q ⟨e, m, G, ph, Eo, I, h⟩ => goE Eo I h fun x m1 G1 ph1 H1 v Eo1 I1 X1 r1 h1 => goE Eo1 I1 h1 fun y m2 G2 ph2 H2 u Eo2 I2 X2 r2 h2 => by
    cases q : dDict m2 x with
    | none =>
      simp only [q] at h2
      exact h2.elim
    | some p =>
      obtain ⟨n, kvs⟩ := p
      cases qk : keyD y with
      | none =>
        simp only [q, qk] at h2
        exact h2.elim
      | some k =>
        simp only [q, qk] at h2
        obtain ⟨a, kv, rfl, hp, hm, ha, rr⟩ := dDict_rep I2 q (RepV.mono X2.g X2.p _ _ r1)
        have ek := keyD_rep qk r2
        subst ek
        cases l : valD kvs k with
        | none =>
          simp only [l] at h2
          exact h2.elim
        | some d =>
          simp only [l] at h2
          obtain ⟨w, lw, rw'⟩ := rr.val.1 d l
          exact ⟨a, w, rfl, by rw [← lw]; exact DGet.k ha, h2.here I2 w rw'⟩
/-- k in d, k not in d -/
def eDIn (neg : Bool) (fk fd : EDen) : EDen := fun e m => (fk e m).bind fun y m1 => (fd e m1).bind fun x m2 => match dDict m2 x, keyD y with
  | some (_, kvs), some k => .ok (.bl (if neg then !(valD kvs k).isSome else (valD kvs k).isSome)) m2
  | _, _ => .bad
theorem din_w {neg : Bool} {fk fd : EDen} {σ : St} {H : Hp} {Q : VK} (h : tE C (eDIn neg fk fd) σ H Q) : tE C fk σ H fun y H1 => tE C fd σ H1 fun x H2 => ∃ a o, x = .ref a ∧ DGet H2 a y o ∧ Q (.bl (if neg then !o.isSome else o.isSome)) H2 := by
  obtain ⟨e, m, G, ph, Eo, I, h⟩ := h
  refine goE Eo I h fun y m1 G1 ph1 H1 u Eo1 I1 X1 r1 h1 => goE Eo1 I1 h1 fun x m2 G2 ph2 H2 v Eo2 I2 X2 r2 h2 => ?_
  cases q : dDict m2 x with
  | none =>
    simp only [q] at h2
    exact h2.elim
  | some p =>
    obtain ⟨n, kvs⟩ := p
    cases qk : keyD y with
    | none =>
      simp only [q, qk] at h2
      exact h2.elim
    | some k =>
      simp only [q, qk] at h2
      obtain ⟨a, kv, rfl, hp, hm, ha, rr⟩ := dDict_rep I2 q r2
      have ek := keyD_rep qk r1
      subst ek
      refine ⟨a, _, rfl, DGet.k ha, ?_⟩
      have e : (valV kv k).isSome = (valD kvs k).isSome := by
        cases l : valD kvs k with
        | none => rw [rr.val.2 l] <;> rfl
        | some d =>
          obtain ⟨w, lw, _⟩ := rr.val.1 d l
          rw [lw] <;> rfl
      rw [e]
      exact h2.here I2 _ rfl
theorem dc_in {i o : Expr} {fk fd : EDen} (hu : X.A.units + 1 < cLine) (hi : DE X C i fk) (ho : DE X C o fd) : PC X .In i o (tE C (eDIn false fk fd)) := ⟨fun pins s σ H Q I h => (pc_din hu hi ho).run pins s σ H Q I (din_w h)⟩
theorem dc_notin {i o : Expr} {fk fd : EDen} (hu : X.A.units + 1 < cLine) (hi : DE X C i fk) (ho : DE X C o fd) : PC X .NotIn i o (tE C (eDIn true fk fd)) := ⟨fun pins s σ H Q I h => (pc_dnotin hu hi ho).run pins s σ H Q I (din_w h)⟩
theorem de_pc {op : CmpOp} {a b : Expr} {pos : Pos} {f : EDen} (h : PC X op a b (tE C f)) (h1 : behindInMarks op b = false := by rfl) : DE X C (.Compare a [op] [b] pos) f := pe_cmp h h1
theorem dt_pc {op : CmpOp} {a b : Expr} {pos : Pos} {f : EDen} (h : PC X op a b (tE C f)) (h1 : behindInMarks op b = false := by rfl) : DT X C (.Compare a [op] [b] pos) (tVal f) := pt_weak (pt_cmp h h1) fun σ H Q q => tval_of q
/-- d.get(k, x) -/
def eDGet2 (fd fk fx : EDen) : EDen := fun e m => (fd e m).bind fun x m1 => match dDict m1 x with
  | none => .bad
  | some _ => (fk e m1).bind fun y m2 => (fx e m2).bind fun z m3 => match dDict m3 x, keyD y with
    | some (_, kvs), some k => match valD kvs k with
      | some d => .ok d m3
      | none => .ok z m3
    | _, _ => .bad
theorem de_dget2 {o i f : Expr} {apos cpos : Pos} {fd fk fx : EDen} (hu : X.A.units + 1 < cLine) (ho : DE X C o fd) (hi : DE X C i fk) (hf : DE X C f fx) (m2 : M2 X o "get" apos i f cpos := by exact ⟨rfl, rfl, rfl, rfl⟩) : DE X C (.Call (.Attribute o "get" apos) [i, f] [] cpos) (eDGet2 fd fk fx) :=
  pe_weak (pe_dget2 hu ho hi hf m2) fun σ H Q ⟨e, m, G, ph, Eo, I, h⟩ => goE Eo I h fun x m1 G1 ph1 H1 v Eo1 I1 X1 r1 h1 => by
    cases q0 : dDict m1 x with
    | none =>
      simp only [q0] at h1
      exact h1.elim
    | some p0 =>
      simp only [q0] at h1
      obtain ⟨n0, kvs0⟩ := p0
      obtain ⟨a0, kv0, e0, _, _, ha0, _⟩ := dDict_rep I1 q0 r1
      refine ⟨a0, e0, .inl ⟨kv0, .inl ha0⟩, ?_⟩
      refine goE Eo1 I1 h1 fun y m2 G2 ph2 H2 u Eo2 I2 X2 r2 h2 => goE Eo2 I2 h2 fun z m3 G3 ph3 H3 w Eo3 I3 X3 r3 h3 => ?_
      cases q : dDict m3 x with
      | none =>
        simp only [q] at h3
        exact h3.elim
      | some p =>
        obtain ⟨n, kvs⟩ := p
        cases qk : keyD y with
        | none =>
          simp only [q, qk] at h3
          exact h3.elim
        | some k =>
          simp only [q, qk] at h3
          obtain ⟨a, kv, e1, hp, hm, ha, rr⟩ := dDict_rep I3 q (RepV.mono (X2.g.trans X3.g) (X2.p.trans X3.p) _ _ r1)
          have ea : a = a0 := by
            rw [e0] at e1
            exact (V.ref.inj e1).symm
          subst ea
          have ek := keyD_rep qk r2
          subst ek
          refine ⟨_, DGet.k ha, ?_⟩
          cases l : valD kvs k with
          | none =>
            simp only [l] at h3
            rw [rr.val.2 l]
            exact h3.here I3 w r3
          | some d =>
            simp only [l] at h3
            obtain ⟨w', lw, rw'⟩ := rr.val.1 d l
            rw [lw]
            exact h3.here I3 w' rw'
/-- d.pop(k, x) -/
def eDPop2 (fd fk fx : EDen) : EDen := fun e m => (fd e m).bind fun x m1 => match dDict m1 x with
  | none => .bad
  | some _ => (fk e m1).bind fun y m2 => (fx e m2).bind fun z m3 => match dDict m3 x, keyD y with
    | some (n, kvs), some k => match valD kvs k with
      | some d => .ok d (m3.set n (.dct (dropD kvs k)))
      | none => .ok z m3
    | _, _ => .bad
theorem de_dpop2 {o i f : Expr} {apos cpos : Pos} {fd fk fx : EDen} (ho : DE X C o fd) (hi : DE X C i fk) (hf : DE X C f fx) (m2 : M2 X o "pop" apos i f cpos := by exact ⟨rfl, rfl, rfl, rfl⟩) : DE X C (.Call (.Attribute o "pop" apos) [i, f] [] cpos) (eDPop2 fd fk fx) :=
  pe_weak (pe_dpop2 ho hi hf m2) fun σ H Q ⟨e, m, G, ph, Eo, I, h⟩ => goE Eo I h fun x m1 G1 ph1 H1 v Eo1 I1 X1 r1 h1 => by
    cases q0 : dDict m1 x with
    | none =>
      simp only [q0] at h1
      exact h1.elim
    | some p0 =>
      simp only [q0] at h1
      obtain ⟨n0, kvs0⟩ := p0
      obtain ⟨a0, kv0, e0, _, _, ha0, _⟩ := dDict_rep I1 q0 r1
      refine ⟨a0, e0, .inl ⟨kv0, .inl ha0⟩, ?_⟩
      refine goE Eo1 I1 h1 fun y m2 G2 ph2 H2 u Eo2 I2 X2 r2 h2 => goE Eo2 I2 h2 fun z m3 G3 ph3 H3 w Eo3 I3 X3 r3 h3 => ?_
      cases q : dDict m3 x with
      | none =>
        simp only [q] at h3
        exact h3.elim
      | some p =>
        obtain ⟨n, kvs⟩ := p
        cases qk : keyD y with
        | none =>
          simp only [q, qk] at h3
          exact h3.elim
        | some k =>
          simp only [q, qk] at h3
          obtain ⟨a, kv, e1, hp, hm, ha, rr⟩ := dDict_rep I3 q (RepV.mono (X2.g.trans X3.g) (X2.p.trans X3.p) _ _ r1)
          have ea : a = a0 := by
            rw [e0] at e1
            exact (V.ref.inj e1).symm
          subst ea
          have ek := keyD_rep qk r2
          subst ek
          refine ⟨kv, k, ha, rfl, fun v' lv => ?_, fun lv => ?_⟩
          · cases l : valD kvs k with
            | none =>
              rw [rr.val.2 l] at lv
              cases lv
            | some d =>
              simp only [l] at h3
              obtain ⟨w', lw, rw'⟩ := rr.val.1 d l
              rw [lw] at lv
              cases lv
              obtain ⟨I4, X4⟩ := I3.write hp hm (by intro z; cases z) (.dK (dropK kv k)) (mo' := .dct (dropD kvs k)) ⟨_, upd_same, rr.drop.1, rr.drop.2⟩
              exact h3 _ _ _ I4 X4 _ rw'
          · cases l : valD kvs k with
            | none =>
              simp only [l] at h3
              exact h3.here I3 w r3
            | some d =>
              obtain ⟨w', lw, rw'⟩ := rr.val.1 d l
              rw [lw] at lv
              cases lv
/-- {} -/
def eDNew : EDen := fun _ m => .ok (.ref m.length) (m ++ [.dct []])
theorem de_dnew {pos : Pos} : DE X C (.Dict [] [] pos) eDNew :=
  pe_weak pe_dnewK fun σ H Q ⟨e, m, G, ph, Eo, I, h⟩ p hp => by
    obtain ⟨I2, X2⟩ := I.cellNew hp (same_upd hp) (by rw [upd_same]; intro z; cases z) (mo := .dct []) ⟨[], upd_same, rfl, rfl⟩
    exact h _ _ _ I2 X2 _ ⟨p, rfl, ref_last ph p I.len⟩
/-- dict of a list of pairs -/
def pairsD : List D → Option (List (Key × D))
  | [] => some []
  | .tup [a, b] :: r => match keyD a, pairsD r with
    | some k, some ks => some ((k, b) :: ks)
    | _, _ => none
  | _ => none
def mergeD (kvs more : List (Key × D)) : List (Key × D) := more.foldl (fun acc kv => putD acc kv.1 kv.2) kvs
def bDict : Mem → List D → Res D := fun m xs => match xs with
  | [x] => match dSeq m x with
    | some ds => match pairsD ds with
      | some ks => .ok (.ref m.length) (m ++ [.dct (mergeD [] ks)])
      | none => .bad
    | none => .bad
  | _ => .bad
theorem merge_rep {K : PySem.W.Frag} {G : Hp} {ph : List Addr} : ∀ {more : List (Key × D)} {vm : List (Key × V)} {ks : List (Key × D)} {vs : List (Key × V)}, RepK K G ph more vm → RepK K G ph ks vs → RepK K G ph (mergeD ks more) (mergeK vs vm)
  | [], vm, ks, vs, r, t => by
    rw [r.nil_inv]
    exact t
  | (k, d) :: more, vm, ks, vs, r, t => by
    obtain ⟨w, r', rfl, r1, r2⟩ := r.inv
    exact merge_rep (more := more) (vm := r') (ks := putD ks k d) (vs := putK vs k w) r2 (t.put r1)
theorem pairs_rep {K : PySem.W.Frag} {G H : Hp} {ph : List Addr} (s : Same G H) : ∀ {ds : List D} {vs : List V} {ks : List (Key × D)}, pairsD ds = some ks → RepL K G ph ds vs →
    ∃ (ps : List Addr) (kv : List (Key × V)), vs = ps.map V.ref ∧ Paired (fun p q => SqT K H p [kV q.1, q.2]) ps kv ∧ RepK K G ph ks kv
  | [], vs, ks, h, r => by
    cases h
    have e : _ = [] := r
    rw [e]
    exact ⟨[], [], rfl, .nil, rfl, rfl⟩
  | d :: ds, vs, ks, h, r => by
    obtain ⟨v, t, rfl, r1, r2⟩ := r
    unfold pairsD at h
    split at h
    · rename_i heq
      cases heq
    · rename_i a b r0 heq
      cases heq
      cases qa : keyD a with
      | none =>
        simp only [qa] at h
        cases h
      | some k =>
        cases qr : pairsD ds with
        | none =>
          simp only [qa, qr] at h
          cases h
        | some ks' =>
          simp only [qa, qr] at h
          cases h
          obtain ⟨p, ws, rfl, hs, rr⟩ := r1
          obtain ⟨x, y, rfl, ra, rb⟩ := repl2 rr
          have ek := keyD_rep qa ra
          subst ek
          obtain ⟨ps, kv, rfl, hp, rk⟩ := pairs_rep s qr r2
          exact ⟨p :: ps, (k, y) :: kv, rfl, .cons (sqT_mono s hs) hp, rk.cons rb⟩
    · cases h
theorem seq_listlike {m : Mem} {x : D} {ds : List D} {G : Hp} {ph : List Addr} {H : Hp} {v : V} (I : Mok C m G ph H) (h : dList m x = some ds) (r : RepV C.K G ph x v) : ∃ a vs, v = .ref a ∧ SqL C.K H a vs ∧ RepL C.K G ph ds vs := by
  obtain ⟨a, vs, e, q, rr⟩ := dList_rep I h r
  exact ⟨a, vs, e, SqL.of q, rr⟩
def bDictL : Mem → List D → Res D := fun m xs => match xs with
  | [x] => match dList m x with
    | some ds => match pairsD ds with
      | some ks => .ok (.ref m.length) (m ++ [.dct (mergeD [] ks)])
      | none => .bad
    | none => .bad
  | _ => .bad
theorem call_dict (hc : X.calm = true) (hK : C.K = X.K := by rfl) : CallD X C (.type "dict") bDictL := by
  refine ⟨_, call_dictP hc, ?_⟩
  intro m G ph H xs vs Q I r h
  unfold bDictL at h
  split at h
  rotate_left
  · exact h.elim
  · rename_i x
    obtain ⟨v, rfl, r1⟩ := repl1 r
    cases q : dList m x with
    | none =>
      rw [q] at h
      exact h.elim
    | some ds =>
      rw [q] at h
      cases q2 : pairsD ds with
      | none =>
        simp only [q2] at h
        exact h.elim
      | some ks =>
        simp only [q2] at h
        obtain ⟨a, us, rfl, hs, rr⟩ := seq_listlike I q r1
        obtain ⟨ps, kv, rfl, hp, rk⟩ := pairs_rep I.sub q2 rr
        have mr : RepK C.K G ph (mergeD [] ks) (mergeK [] kv) := merge_rep rk ⟨rfl, rfl⟩
        rw [← hK]
        refine ⟨a, ps, kv, rfl, hs, hp, fun p hp' => ?_⟩
        obtain ⟨I2, X2⟩ := I.cellNew hp' (same_upd hp') (by rw [upd_same]; intro z; cases z) (mo := .dct (mergeD [] ks)) ⟨mergeK [] kv, upd_same, mr.1, RepL.mono (Same.refl _) (Pre.snoc _ _) _ _ mr.2⟩
        exact h _ _ _ I2 X2 _ ⟨p, rfl, ref_last ph p I.len⟩
end
end DL

namespace DL
open PySem L2

/-! ## methods of built-in types -/
def tyM (T : String) (m : Mem) (x : D) : Bool := match x with
  | .str _ => T == "str"
  | x => T == "list" && (dList m x).isSome
def SndM (C : Cn) (r : V → List V → Hp → VK → Prop) (g : Mem → D → List D → Res D) : Prop := ∀ m G ph H x v xs vs Q, Mok C m G ph H → RepV C.K G ph x v → RepL C.K G ph xs vs → Post C G ph H (fun d _ G' ph' H' => ∀ w, RepV C.K G' ph' d w → Q w H') (g m x xs) → r v vs H Q
def eMet (T : String) (g : Mem → D → List D → Res D) (fo : EDen) (fa : ADen) : EDen := fun e m => (fo e m).bind fun x m1 => if tyM T m1 x = true then (fa e m1).bind fun xs m2 => g m2 x xs else .bad
theorem tyM_rep {C : Cn} {m : Mem} {G : Hp} {ph : List Addr} {H : Hp} (I : Mok C m G ph H) {T : String} {x : D} {v : V} (h : tyM T m x = true) (r : RepV C.K G ph x v) : tyV C.K T v H := by
  have lists : ∀ {x : D}, (T == "list" && (dList m x).isSome) = true → RepV C.K G ph x v → tyV C.K T v H := fun {x} h r => by
    rw [Bool.and_eq_true] at h
    have e := eq_of_beq h.1
    subst e
    obtain ⟨ds, q⟩ := Option.isSome_iff_exists.mp h.2
    obtain ⟨a, vs, rfl, w, _⟩ := dList_rep I q r
    exact .inl ⟨rfl, _, SqL.of w⟩
  cases x with
  | str z =>
    have e : v = .str z := r
    subst e
    exact eq_of_beq h
  | _ => exact lists h r
section
variable {X : Cx} {C : Cn}
theorem de_bm {o e : Expr} {es : List Expr} {name : Str} {apos cpos : Pos} {T id : String} {r : V → List V → Hp → VK → Prop} {g : Mem → D → List D → Res D} {fo : EDen} {fa : ADen} (hs : SndM C r g) (pa : PySem.PlainAttrs T) (slot : PySem.Slot T name id) (hty : typeOf (.builtin id) = pure (.type "method_descriptor")) (hm : MtR X id r) (ho : DE X C o fo) (ha : DA X C (e :: es) fa)
    (hK : C.K = X.K := by rfl) (hbase : attributeBase o name X.env (eval o X.env) = eval o X.env := by rfl)
    (hfew : ((backTo cpos (starEach (e :: es) X.env)).all (fun x => !x.1) && (backToKw cpos (keywordEach [] X.env)).all (fun x => x.1.isSome)
      && decide ((e :: es).length + ([] : List Keyword).length + (if ([] : List Keyword).isEmpty then 0 else 1) < 30)) = true := by rfl)
    (hline : (apos.endLine == cpos.line) = true := by rfl) (hs1 : starEach (e :: es) X.env = (false, eval e X.env) :: starEach es X.env := by rfl) (hplain : (backTo cpos (starEach es X.env)).any (·.1) = false := by rfl) :
    DE X C (.Call (.Attribute o name apos) (e :: es) [] cpos) (eMet T g fo fa) :=
  pe_weak (pe_bm pa slot hty hm ho ha hbase hfew hline hs1 hplain) fun σ H Q ⟨e, m, G, ph, Eo, I, h⟩ => goE Eo I h fun x m1 G1 ph1 H1 v Eo1 I1 X1 r1 h1 => by
    by_cases c : tyM T m1 x = true
    · rw [if_pos c] at h1
      refine ⟨by rw [← hK]; exact tyM_rep I1 c r1, goA Eo1 I1 h1 fun xs m2 G2 ph2 H2 vs Eo2 I2 X2 r2 h2 => ?_⟩
      exact hs m2 G2 ph2 H2 x v xs vs Q I2 (RepV.mono X2.g X2.p _ _ r1) r2 h2
    · rw [if_neg c] at h1
      exact h1.elim
theorem de_bm0 {o : Expr} {name : Str} {apos cpos : Pos} {T id : String} {r : V → List V → Hp → VK → Prop} {g : Mem → D → List D → Res D} {fo : EDen} (hs : SndM C r g) (pa : PySem.PlainAttrs T) (slot : PySem.Slot T name id) (hty : typeOf (.builtin id) = pure (.type "method_descriptor")) (hm : MtR X id r) (ho : DE X C o fo)
    (hK : C.K = X.K := by rfl) (hbase : attributeBase o name X.env (eval o X.env) = eval o X.env := by rfl) (hline : (apos.endLine == cpos.line) = true := by rfl) : DE X C (.Call (.Attribute o name apos) [] [] cpos) (eMet T g fo aNil) :=
  pe_weak (pe_bm0 pa slot hty hm ho hbase hline) fun σ H Q ⟨e, m, G, ph, Eo, I, h⟩ => goE Eo I h fun x m1 G1 ph1 H1 v Eo1 I1 X1 r1 h1 => by
    by_cases c : tyM T m1 x = true
    · rw [if_pos c] at h1
      exact ⟨by rw [← hK]; exact tyM_rep I1 c r1, hs m1 G1 ph1 H1 x v [] [] Q I1 r1 rfl h1⟩
    · rw [if_neg c] at h1
      exact h1.elim
/-- a list that may be changed -/
def dOwn (m : Mem) : D → Option (Nat × List D)
  | .ref n => match m[n]? with
    | some (.lst ds) => some (n, ds)
    | _ => none
  | _ => none
theorem dOwn_rep {m : Mem} {G : Hp} {ph : List Addr} {H : Hp} (I : Mok C m G ph H) {x : D} {v : V} {n : Nat} {ds : List D} (h : dOwn m x = some (n, ds)) (r : RepV C.K G ph x v) :
    ∃ a vs, v = .ref a ∧ ph[n]? = some a ∧ m[n]? = some (.lst ds) ∧ H a = some (.lst vs) ∧ RepL C.K G ph ds vs := by
  cases x with
  | ref k =>
    have h' : (match m[k]? with
      | some (.lst ds) => some (k, ds)
      | _ => none) = some (n, ds) := h
    cases z : m[k]? with
    | none =>
      rw [z] at h'
      cases h'
    | some mo =>
      rw [z] at h'
      cases mo with
      | lst l =>
        cases h'
        obtain ⟨a, e, q⟩ := r
        obtain ⟨vs, w, rr⟩ := cellList I q z
        exact ⟨a, vs, e, q, z, w, rr⟩
      | _ => cases h'
  | _ => cases h
def mApp : Mem → D → List D → Res D := fun m x xs => match xs with
  | [y] => match dOwn m x with
    | some (n, ds) => if ds.length < 1000000 then .ok .non (m.set n (.lst (ds ++ [y]))) else .bad
    | none => .bad
  | _ => .bad
theorem app_snd : SndM C rAppend mApp := by
  intro m G ph H x v xs vs Q I rx rxs h
  unfold mApp at h
  split at h
  rotate_left
  · exact h.elim
  · rename_i y
    obtain ⟨w, rfl, r1⟩ := repl1 rxs
    cases q : dOwn m x with
    | none =>
      rw [q] at h
      exact h.elim
    | some p =>
      obtain ⟨n, ds⟩ := p
      rw [q] at h
      obtain ⟨a, us, rfl, hp, hm, ha, rr⟩ := dOwn_rep I q rx
      by_cases c : ds.length < 1000000
      · simp only [if_pos c] at h
        refine ⟨a, us, w, rfl, rfl, ha, by rw [rr.length]; exact Nat.lt_of_lt_of_le c (small_line (Nat.le_refl _)), ?_⟩
        obtain ⟨I4, X4⟩ := I.write hp hm (by intro z; cases z) (.lst (us ++ [w])) (mo' := .lst (ds ++ [y])) ⟨_, upd_same, rr.append (RepL.one r1)⟩
        exact h _ _ _ I4 X4 _ rfl
      · simp only [if_neg c] at h
        exact h.elim
def mExt : Mem → D → List D → Res D := fun m x xs => match xs with
  | [y] => match dOwn m x, dList m y with
    | some (n, ds), some es => if ds.length + es.length ≤ 1000000 then .ok .non (m.set n (.lst (ds ++ es))) else .bad
    | _, _ => .bad
  | _ => .bad
theorem ext_snd : SndM C rExtend mExt := by
  intro m G ph H x v xs vs Q I rx rxs h
  unfold mExt at h
  split at h
  rotate_left
  · exact h.elim
  · rename_i y
    obtain ⟨w, rfl, r1⟩ := repl1 rxs
    cases q : dOwn m x with
    | none =>
      rw [q] at h
      exact h.elim
    | some p =>
      obtain ⟨n, ds⟩ := p
      cases q2 : dList m y with
      | none =>
        simp only [q, q2] at h
        exact h.elim
      | some es =>
        simp only [q, q2] at h
        obtain ⟨a, us, rfl, hp, hm, ha, rr⟩ := dOwn_rep I q rx
        obtain ⟨b, ws, rfl, hb, rb⟩ := dList_rep I q2 r1
        by_cases c : ds.length + es.length ≤ 1000000
        · simp only [if_pos c] at h
          refine ⟨a, b, us, ws, rfl, rfl, ha, hb, by rw [rr.length, rb.length]; exact small_line c, ?_⟩
          obtain ⟨I4, X4⟩ := I.write hp hm (by intro z; cases z) (.lst (us ++ ws)) (mo' := .lst (ds ++ es)) ⟨_, upd_same, rr.append rb⟩
          exact h _ _ _ I4 X4 _ rfl
        · simp only [if_neg c] at h
          exact h.elim
theorem RepL.reverse {K : PySem.W.Frag} {G : Hp} {ph : List Addr} : ∀ {ds : List D} {vs : List V}, RepL K G ph ds vs → RepL K G ph ds.reverse vs.reverse
  | [], _, r => by
    have e : _ = [] := r
    rw [e]
    exact rfl
  | d :: ds, _, r => by
    obtain ⟨v, vs, rfl, r1, r2⟩ := r
    rw [List.reverse_cons, List.reverse_cons]
    exact (RepL.reverse r2).append (RepL.one r1)
def mRev : Mem → D → List D → Res D := fun m x xs => match xs with
  | [] => match dOwn m x with
    | some (n, ds) => .ok .non (m.set n (.lst ds.reverse))
    | none => .bad
  | _ => .bad
theorem rev_snd : SndM C rReverse mRev := by
  intro m G ph H x v xs vs Q I rx rxs h
  unfold mRev at h
  split at h
  rotate_left
  · exact h.elim
  · have e : vs = [] := rxs
    subst e
    cases q : dOwn m x with
    | none =>
      rw [q] at h
      exact h.elim
    | some p =>
      obtain ⟨n, ds⟩ := p
      rw [q] at h
      obtain ⟨a, us, rfl, hp, hm, ha, rr⟩ := dOwn_rep I q rx
      refine ⟨a, us, rfl, rfl, ha, ?_⟩
      obtain ⟨I4, X4⟩ := I.write hp hm (by intro z; cases z) (.lst us.reverse) (mo' := .lst ds.reverse) ⟨_, upd_same, rr.reverse⟩
      exact h _ _ _ I4 X4 _ rfl

/-! ## sorted -/
def insI (x : Int) : List Int → List Int
  | [] => [x]
  | y :: r => if x ≤ y then x :: y :: r else y :: insI x r
def srtI : List Int → List Int
  | [] => []
  | x :: r => insI x (srtI r)
theorem insI_perm (x : Int) : ∀ l : List Int, (insI x l).Perm (x :: l)
  | [] => List.Perm.refl _
  | y :: r => by
    unfold insI
    split
    · exact List.Perm.refl _
    · exact ((insI_perm x r).cons y).trans (List.Perm.swap x y r)
theorem srtI_perm : ∀ l : List Int, (srtI l).Perm l
  | [] => List.Perm.refl _
  | x :: r => (insI_perm x (srtI r)).trans ((srtI_perm r).cons x)
theorem insI_sorted (x : Int) : ∀ l : List Int, l.Pairwise (· ≤ ·) → (insI x l).Pairwise (· ≤ ·)
  | [], _ => by simp [insI]
  | y :: r, h => by
    obtain ⟨h1, h2⟩ := List.pairwise_cons.mp h
    unfold insI
    split
    · rename_i c
      refine List.pairwise_cons.mpr ⟨fun z hz => ?_, h⟩
      rcases List.mem_cons.mp hz with rfl | hz
      · exact c
      · exact Int.le_trans c (h1 z hz)
    · rename_i c
      refine List.pairwise_cons.mpr ⟨fun z hz => ?_, insI_sorted x r h2⟩
      rcases List.mem_cons.mp ((insI_perm x r).subset hz) with rfl | hz
      · omega
      · exact h1 z hz
theorem srtI_sorted : ∀ l : List Int, (srtI l).Pairwise (· ≤ ·)
  | [] => List.Pairwise.nil
  | x :: r => insI_sorted x _ (srtI_sorted r)
theorem sorted_one : ∀ {a b : List Int}, a.Perm b → a.Pairwise (· ≤ ·) → b.Pairwise (· ≤ ·) → a = b
  | [], b, p, _, _ => (List.Perm.nil_eq p)
  | x :: a, b, p, ha, hb => by
    match b, p, hb with
    | [], p, _ => exact absurd p.length_eq (by simp)
    | y :: b, p, hb =>
      obtain ⟨a1, a2⟩ := List.pairwise_cons.mp ha
      obtain ⟨b1, b2⟩ := List.pairwise_cons.mp hb
      have e : x = y := by
        have hx : x ∈ y :: b := p.subset List.mem_cons_self
        have hy : y ∈ x :: a := p.symm.subset List.mem_cons_self
        rcases List.mem_cons.mp hx with h | h
        · exact h
        · rcases List.mem_cons.mp hy with k | k
          · exact k.symm
          · have := b1 x h
            have := a1 y k
            omega
      subst e
      rw [sorted_one (p.cons_inv) a2 b2]
/-! texts -/
def leS (x y : Str) : Bool := !decide (y.cps.toList < x.cps.toList)
def insS (x : Str) : List Str → List Str
  | [] => [x]
  | y :: r => if leS x y = true then x :: y :: r else y :: insS x r
def srtS : List Str → List Str
  | [] => []
  | x :: r => insS x (srtS r)
end
end DL

namespace DL
open PySem L2

/-! ## sorted texts -/
theorem leS_iff {x y : Str} : leS x y = true ↔ x.cps.toList ≤ y.cps.toList := by
  unfold leS
  rw [Bool.not_eq_true', decide_eq_false_iff_not]
  exact List.not_lt
theorem leS_total (x y : Str) : leS x y = true ∨ leS y x = true := by
  rw [leS_iff, leS_iff]
  exact List.le_total _ _
theorem leS_trans {x y z : Str} (h : leS x y = true) (k : leS y z = true) : leS x z = true := by
  rw [leS_iff] at *
  exact List.le_trans h k
theorem leS_anti {x y : Str} (h : leS x y = true) (k : leS y x = true) : x = y := by
  rw [leS_iff] at *
  have e := List.le_antisymm h k
  obtain ⟨⟨a⟩⟩ := x
  obtain ⟨⟨b⟩⟩ := y
  have e' : a = b := e
  rw [e']
theorem insS_perm (x : Str) : ∀ l : List Str, (insS x l).Perm (x :: l)
  | [] => List.Perm.refl _
  | y :: r => by
    unfold insS
    split
    · exact List.Perm.refl _
    · exact ((insS_perm x r).cons y).trans (List.Perm.swap x y r)
theorem srtS_perm : ∀ l : List Str, (srtS l).Perm l
  | [] => List.Perm.refl _
  | x :: r => (insS_perm x (srtS r)).trans ((srtS_perm r).cons x)
abbrev UpS (l : List Str) : Prop := l.Pairwise fun a b => leS a b = true
theorem insS_sorted (x : Str) : ∀ l : List Str, UpS l → UpS (insS x l)
  | [], _ => by simp [insS, UpS]
  | y :: r, h => by
    obtain ⟨h1, h2⟩ := List.pairwise_cons.mp h
    unfold insS
    split
    · rename_i c
      refine List.pairwise_cons.mpr ⟨fun z hz => ?_, h⟩
      rcases List.mem_cons.mp hz with rfl | hz
      · exact c
      · exact leS_trans c (h1 z hz)
    · rename_i c
      refine List.pairwise_cons.mpr ⟨fun z hz => ?_, insS_sorted x r h2⟩
      rcases List.mem_cons.mp ((insS_perm x r).subset hz) with rfl | hz
      · exact (leS_total y z).resolve_right c
      · exact h1 z hz
theorem srtS_sorted : ∀ l : List Str, UpS (srtS l)
  | [] => List.Pairwise.nil
  | x :: r => insS_sorted x _ (srtS_sorted r)
theorem sortedS_one : ∀ {a b : List Str}, a.Perm b → UpS a → UpS b → a = b
  | [], b, p, _, _ => (List.Perm.nil_eq p)
  | x :: a, b, p, ha, hb => by
    match b, p, hb with
    | [], p, _ => exact absurd p.length_eq (by simp)
    | y :: b, p, hb =>
      obtain ⟨a1, a2⟩ := List.pairwise_cons.mp ha
      obtain ⟨b1, b2⟩ := List.pairwise_cons.mp hb
      have e : x = y := by
        have hx : x ∈ y :: b := p.subset List.mem_cons_self
        have hy : y ∈ x :: a := p.symm.subset List.mem_cons_self
        rcases List.mem_cons.mp hx with h | h
        · exact h
        · rcases List.mem_cons.mp hy with k | k
          · exact k.symm
          · exact leS_anti (a1 y k) (b1 x h)
      subst e
      rw [sortedS_one (p.cons_inv) a2 b2]
theorem upS_of : ∀ {l : List Str}, PyProof.Rows.sortedS l = true → UpS l
  | [], _ => List.Pairwise.nil
  | [x], _ => by simp [UpS]
  | x :: y :: r, h => by
    have h2 : (!PySem.Spec.ltCps y.cps.toList x.cps.toList && PyProof.Rows.risingS y r) = true := h
    rw [Bool.and_eq_true] at h2
    have ih : UpS (y :: r) := upS_of (l := y :: r) h2.2
    have hxy : leS x y = true := by
      unfold leS
      rw [PyProof.Rows.lt_meets]
      exact h2.1
    refine List.pairwise_cons.mpr ⟨fun z hz => ?_, ih⟩
    rcases List.mem_cons.mp hz with rfl | hz
    · exact hxy
    · exact leS_trans hxy ((List.pairwise_cons.mp ih).1 z hz)

/-! ## sorted -/
def intsD : List D → Option (List Int)
  | [] => some []
  | .int i :: r => (intsD r).map (i :: ·)
  | _ => none
def strsD : List D → Option (List Str)
  | [] => some []
  | .str i :: r => (strsD r).map (i :: ·)
  | _ => none
theorem intsD_eq : ∀ {ds : List D} {is : List Int}, intsD ds = some is → ds = is.map D.int
  | [], is, h => by
    cases h
    rfl
  | d :: ds, is, h => by
    cases d with
    | int i =>
      have h' : (intsD ds).map (i :: ·) = some is := h
      cases q : intsD ds with
      | none =>
        rw [q] at h'
        cases h'
      | some js =>
        rw [q] at h'
        cases h'
        rw [intsD_eq q]
        rfl
    | _ => cases h
theorem strsD_eq : ∀ {ds : List D} {is : List Str}, strsD ds = some is → ds = is.map D.str
  | [], is, h => by
    cases h
    rfl
  | d :: ds, is, h => by
    cases d with
    | str i =>
      have h' : (strsD ds).map (i :: ·) = some is := h
      cases q : strsD ds with
      | none =>
        rw [q] at h'
        cases h'
      | some js =>
        rw [q] at h'
        cases h'
        rw [strsD_eq q]
        rfl
    | _ => cases h
theorem RepL.ints_inv {K : PySem.W.Frag} {G : Hp} {ph : List Addr} : ∀ {is : List Int} {vs : List V}, RepL K G ph (is.map D.int) vs → vs = is.map V.int
  | [], _, r => r
  | i :: is, _, r => by
    obtain ⟨v, t, rfl, r1, r2⟩ := r
    have e : v = .int i := r1
    rw [e, RepL.ints_inv r2]
    rfl
theorem RepL.strs_inv {K : PySem.W.Frag} {G : Hp} {ph : List Addr} : ∀ {is : List Str} {vs : List V}, RepL K G ph (is.map D.str) vs → vs = is.map V.str
  | [], _, r => r
  | i :: is, _, r => by
    obtain ⟨v, t, rfl, r1, r2⟩ := r
    have e : v = .str i := r1
    rw [e, RepL.strs_inv r2]
    rfl
theorem RepL.strs {K : PySem.W.Frag} {G : Hp} {ph : List Addr} : ∀ {is : List Str}, RepL K G ph (is.map D.str) (is.map V.str)
  | [] => rfl
  | i :: is => ⟨.str i, _, rfl, rfl, RepL.strs⟩
def keysI : List (Key × D) → Option (List Int)
  | [] => some []
  | (.inl i, _) :: r => (keysI r).map (i :: ·)
  | _ => none
def keysS : List (Key × D) → Option (List Str)
  | [] => some []
  | (.inr i, _) :: r => (keysS r).map (i :: ·)
  | _ => none
theorem keysI_eq : ∀ {ks : List (Key × D)} {is : List Int}, keysI ks = some is → ks.map (·.1) = is.map Sum.inl
  | [], is, h => by
    cases h
    rfl
  | (k, d) :: ks, is, h => by
    cases k with
    | inl i =>
      have h' : (keysI ks).map (i :: ·) = some is := h
      cases q : keysI ks with
      | none =>
        rw [q] at h'
        cases h'
      | some js =>
        rw [q] at h'
        cases h'
        rw [List.map_cons, keysI_eq q]
        rfl
    | inr i => cases h
theorem keysS_eq : ∀ {ks : List (Key × D)} {is : List Str}, keysS ks = some is → ks.map (·.1) = is.map Sum.inr
  | [], is, h => by
    cases h
    rfl
  | (k, d) :: ks, is, h => by
    cases k with
    | inr i =>
      have h' : (keysS ks).map (i :: ·) = some is := h
      cases q : keysS ks with
      | none =>
        rw [q] at h'
        cases h'
      | some js =>
        rw [q] at h'
        cases h'
        rw [List.map_cons, keysS_eq q]
        rfl
    | inl i => cases h
section
variable {X : Cx} {C : Cn}
/-- sorted of a list of ints, of texts; of a dict with such keys -/
def bSortI : Mem → List D → Res D := fun m xs => match xs with
  | [x] => match dSeq m x with
    | some ds => match x, intsD ds with
      | .tup _, _ => .bad
      | _, some is => if is.length < 64 then .ok (.lst ((srtI is).map D.int)) m else .bad
      | _, none => .bad
    | none => .bad
  | _ => .bad
def bSortL : Mem → List D → Res D := fun m xs => match xs with
  | [x] => match dList m x with
    | some ds => match intsD ds with
      | some is => if is.length < 64 then .ok (.lst ((srtI is).map D.int)) m else .bad
      | none => match strsD ds with
        | some is => if is.length < 64 then .ok (.lst ((srtS is).map D.str)) m else .bad
        | none => .bad
    | none => .bad
  | _ => .bad
theorem call_sortL (hK : C.K = X.K := by rfl) : CallD X C (.builtin "sorted") bSortL := by
  refine ⟨_, CallR.or cr_sorted cr_sortedS, ?_⟩
  intro m G ph H xs vs Q I r h
  unfold bSortL at h
  split at h
  rotate_left
  · exact h.elim
  · rename_i x
    obtain ⟨v, rfl, r1⟩ := repl1 r
    cases q : dList m x with
    | none =>
      rw [q] at h
      exact h.elim
    | some ds =>
      rw [q] at h
      obtain ⟨a, us, rfl, ha, rr⟩ := dList_rep I q r1
      cases qi : intsD ds with
      | some is =>
        simp only [qi] at h
        have e := intsD_eq qi
        subst e
        have e2 := RepL.ints_inv rr
        subst e2
        by_cases c : is.length < 64
        · simp only [if_pos c] at h
          refine .inl ⟨a, is, rfl, SqL.of ha, c, fun ns' p hp1 hp2 hp => ?_⟩
          have e3 : ns' = srtI is := sorted_one (hp1.trans (srtI_perm is).symm) hp2 (srtI_sorted is)
          subst e3
          obtain ⟨I2, X2⟩ := I.frozen hp (.lst ((srtI is).map V.int))
          exact h _ _ _ I2 X2 _ ⟨p, _, rfl, upd_same, RepL.ints⟩
        · simp only [if_neg c] at h
          exact h.elim
      | none =>
        simp only [qi] at h
        cases qs : strsD ds with
        | none =>
          simp only [qs] at h
          exact h.elim
        | some is =>
          simp only [qs] at h
          have e := strsD_eq qs
          subst e
          have e2 := RepL.strs_inv rr
          subst e2
          by_cases c : is.length < 64
          · simp only [if_pos c] at h
            refine .inr ⟨a, is, rfl, SqL.of ha, c, fun ns' p hp1 hp2 hp => ?_⟩
            have e3 : ns' = srtS is := sortedS_one (hp1.trans (srtS_perm is).symm) (upS_of hp2) (srtS_sorted is)
            subst e3
            obtain ⟨I2, X2⟩ := I.frozen hp (.lst ((srtS is).map V.str))
            exact h _ _ _ I2 X2 _ ⟨p, _, rfl, upd_same, RepL.strs⟩
          · simp only [if_neg c] at h
            exact h.elim
/-- sorted of a dict: its keys -/
def bSortD : Mem → List D → Res D := fun m xs => match xs with
  | [x] => match dDict m x with
    | some (_, kvs) => match keysI kvs with
      | some is => if is.length < 64 then .ok (.lst ((srtI is).map D.int)) m else .bad
      | none => match keysS kvs with
        | some is => if is.length < 64 then .ok (.lst ((srtS is).map D.str)) m else .bad
        | none => .bad
    | none => .bad
  | _ => .bad
theorem call_sortD (hc : X.calm = true) (hK : C.K = X.K := by rfl) : CallD X C (.builtin "sorted") bSortD := by
  refine ⟨_, CallR.or (call_sortedDI hc) (call_sortedD hc), ?_⟩
  intro m G ph H xs vs Q I r h
  unfold bSortD at h
  split at h
  rotate_left
  · exact h.elim
  · rename_i x
    obtain ⟨v, rfl, r1⟩ := repl1 r
    cases q : dDict m x with
    | none =>
      rw [q] at h
      exact h.elim
    | some pq =>
      obtain ⟨n, kvs⟩ := pq
      rw [q] at h
      obtain ⟨a, kv, rfl, hp, hm, ha, rr⟩ := dDict_rep I q r1
      cases qi : keysI kvs with
      | some is =>
        simp only [qi] at h
        have e := keysI_eq qi
        by_cases c : is.length < 64
        · simp only [if_pos c] at h
          refine .inl ⟨a, kv, is, rfl, .inl ha, by rw [rr.1, e], c, fun ns' p hp1 hp2 hp => ?_⟩
          have e3 : ns' = srtI is := sorted_one (hp1.trans (srtI_perm is).symm) hp2 (srtI_sorted is)
          subst e3
          obtain ⟨I2, X2⟩ := I.frozen hp (.lst ((srtI is).map V.int))
          exact h _ _ _ I2 X2 _ ⟨p, _, rfl, upd_same, RepL.ints⟩
        · simp only [if_neg c] at h
          exact h.elim
      | none =>
        simp only [qi] at h
        cases qs : keysS kvs with
        | none =>
          simp only [qs] at h
          exact h.elim
        | some is =>
          simp only [qs] at h
          have e := keysS_eq qs
          by_cases c : is.length < 64
          · simp only [if_pos c] at h
            refine .inr ⟨a, kv, is, rfl, .inl ha, by rw [rr.1, e], c, fun ns' p hp1 hp2 hp => ?_⟩
            have e3 : ns' = srtS is := sortedS_one (hp1.trans (srtS_perm is).symm) (upS_of hp2) (srtS_sorted is)
            subst e3
            obtain ⟨I2, X2⟩ := I.frozen hp (.lst ((srtS is).map V.str))
            exact h _ _ _ I2 X2 _ ⟨p, _, rfl, upd_same, RepL.strs⟩
          · simp only [if_neg c] at h
            exact h.elim
end
end DL

namespace DL
open PySem L2

/-! ## what is walked -/
/-- the items, and what must stay so at each turn -/
structure Its where
  ds : List D
  gd : Mem → Bool
abbrev IDen := Sl → Mem → Res Its
structure ItOk (C : Cn) (J : It) (p : Its) (G0 : Hp) (ph0 : List Addr) : Prop where
  goes : ∀ i m G ph H, i < p.ds.length → Mok C m G ph H → Same G0 G → Pre ph0 ph → p.gd m = true → J.go i H
  stops : ∀ m G ph H, Mok C m G ph H → Same G0 G → Pre ph0 ph → p.gd m = true → J.stop p.ds.length H
  yields : ∀ i d m G ph H x H', p.ds[i]? = some d → Mok C m G ph H → Same G0 G → Pre ph0 ph → p.gd m = true → J.yld i H x H' → ∃ G', Mok C m G' ph H' ∧ Ext G ph H G' ph H' ∧ RepV C.K G' ph d x
def tI (C : Cn) (f : IDen) : TI := fun σ H R => ∃ e m G ph, Eok C e G ph σ ∧ Mok C m G ph H ∧ Post C G ph H (fun p _ G' ph' H' => ∀ J, ItOk C J p G' ph' → R J H') (f e m)
abbrev DI (X : Cx) (C : Cn) (tg iter : Expr) (f : IDen) : Prop := PI X tg iter (tI C f)
theorem pi_weak {X : Cx} {tg e : Expr} {t t' : TI} (h : PI X tg e t) (w : ∀ σ H R, t' σ H R → t σ H R) : PI X tg e t' := ⟨fun pins s σ H R I q => h.run pins s σ H R I (w σ H R q)⟩
section
variable {X : Cx} {C : Cn}
def free : Mem → Bool := fun _ => true
/-- a tuple -/
def iTupD (f : EDen) : IDen := fun e m => (f e m).bind fun x m1 => match x with
  | .tup ds => .ok ⟨ds, free⟩ m1
  | _ => .bad
theorem di_tup {tg l : Expr} {f : EDen} (h : DE X C l f) (hK : C.K = X.K := by rfl) : DI X C tg l (iTupD f) :=
  pi_weak (pi_tup h) fun σ H R ⟨e, m, G, ph, Eo, I, h⟩ => goE Eo I h fun x m1 G1 ph1 H1 v Eo1 I1 X1 r1 h1 => by
    cases x with
    | tup ds =>
      obtain ⟨a, vs, rfl, q, rr⟩ := r1
      refine ⟨a, rfl, ⟨vs, by rw [← hK]; exact sqT_mono I1.sub q⟩, h1.here I1 _ ?_⟩
      rw [← hK]
      refine ⟨fun i m G ph H hi I s p _ => ?_, fun m G ph H I s p _ => ?_, fun i d m G ph H x H' hd I s p _ y => ?_⟩
      · have hl : i < vs.length := by rw [rr.length]; exact hi
        exact ⟨vs, vs[i], sqT_mono (s.trans I.sub) q, List.getElem?_eq_getElem hl⟩
      · exact ⟨vs, sqT_mono (s.trans I.sub) q, Nat.le_of_eq rr.length⟩
      · obtain ⟨rfl, y⟩ := y
        obtain ⟨w, hw, rw'⟩ := rr.get hd
        have e := y vs (sqT_mono (s.trans I.sub) q)
        rw [hw] at e
        cases e
        exact ⟨G, I, Ext.refl _ _ _, RepV.mono s p _ _ rw'⟩
    | _ => exact h1.elim
/-- a list: what it holds stays as it is -/
def lGuard (x : D) (ds : List D) : Mem → Bool := fun m => match x with
  | .ref n => match m[n]? with
    | some (.lst es) => D.beqL es ds
    | _ => false
  | _ => true
def iLstD (f : EDen) : IDen := fun e m => (f e m).bind fun x m1 => match dList m1 x with
  | some ds => .ok ⟨ds, lGuard x ds⟩ m1
  | none => .bad
theorem lGuard_of {m : Mem} {n : Nat} {ds : List D} (h : lGuard (.ref n) ds m = true) : m[n]? = some (.lst ds) := by
  have h' : (match m[n]? with
    | some (.lst es) => D.beqL es ds
    | _ => false) = true := h
  cases q : m[n]? with
  | none =>
    rw [q] at h'
    cases h'
  | some mo =>
    rw [q] at h'
    cases mo with
    | lst es => rw [D.eq_ofL es ds h']
    | _ => cases h'
theorem list_stays {x : D} {v : V} {ds : List D} {m : Mem} {G : Hp} {ph : List Addr} {H : Hp} (I : Mok C m G ph H) (q : dList m x = some ds) (r : RepV C.K G ph x v) :
    ∃ a, v = .ref a ∧ ∀ m' G' ph' H', Mok C m' G' ph' H' → Same G G' → Pre ph ph' → lGuard x ds m' = true → ∃ vs, H' a = some (.lst vs) ∧ RepL C.K G' ph' ds vs := by
  cases x with
  | lst es =>
    cases q
    obtain ⟨a, vs, rfl, w, rr⟩ := r
    exact ⟨a, rfl, fun m' G' ph' H' I' s p _ => ⟨vs, I'.sub _ _ (s _ _ w), RepL.mono s p _ _ rr⟩⟩
  | ref n =>
    obtain ⟨a, rfl, w⟩ := r
    exact ⟨a, rfl, fun m' G' ph' H' I' s p g => cellList I' (p _ _ w) (lGuard_of g)⟩
  | _ => cases q
theorem lGuard_self {x : D} {ds : List D} {m : Mem} (q : dList m x = some ds) : lGuard x ds m = true := by
  cases x with
  | ref n =>
    have q' : (match m[n]? with
      | some (.lst ds) => some ds
      | _ => none) = some ds := q
    show (match m[n]? with
      | some (.lst es) => D.beqL es ds
      | _ => false) = true
    cases z : m[n]? with
    | none =>
      rw [z] at q'
      cases q'
    | some mo =>
      rw [z] at q'
      cases mo with
      | lst es =>
        cases q'
        exact D.beq_selfL ds
      | _ => cases q'
  | _ => rfl
theorem di_list {tg l : Expr} {f : EDen} (h : DE X C l f) (hK : C.K = X.K := by rfl) : DI X C tg l (iLstD f) :=
  pi_weak (pi_list h) fun σ H R ⟨e, m, G, ph, Eo, I, h⟩ => goE Eo I h fun x m1 G1 ph1 H1 v Eo1 I1 X1 r1 h1 => by
    cases q : dList m1 x with
    | none =>
      rw [q] at h1
      exact h1.elim
    | some ds =>
      rw [q] at h1
      obtain ⟨a, rfl, st⟩ := list_stays I1 q r1
      obtain ⟨vs0, w0, _⟩ := st m1 G1 ph1 H1 I1 (Same.refl _) (Pre.refl _) (lGuard_self q)
      refine ⟨a, rfl, ⟨vs0, by rw [← hK]; exact SqL.of w0⟩, h1.here I1 _ ?_⟩
      rw [← hK]
      refine ⟨fun i m G ph H hi I s p g => ?_, fun m G ph H I s p g => ?_, fun i d m G ph H x H' hd I s p g y => ?_⟩
      · obtain ⟨vs, w, rr⟩ := st m G ph H I s p g
        have hl : i < vs.length := by rw [rr.length]; exact hi
        exact ⟨vs, vs[i], SqL.of w, List.getElem?_eq_getElem hl⟩
      · obtain ⟨vs, w, rr⟩ := st m G ph H I s p g
        exact ⟨vs, SqL.of w, Nat.le_of_eq rr.length⟩
      · obtain ⟨rfl, y⟩ := y
        obtain ⟨vs, w, rr⟩ := st m G ph H' I s p g
        obtain ⟨u, hu, ru⟩ := rr.get hd
        have e := y vs (SqL.of w)
        rw [hu] at e
        cases e
        exact ⟨G, I, Ext.refl _ _ _, ru⟩
/-- the script -/
def iScr (f : EDen) : IDen := fun e m => (f e m).bind fun x m1 => match x with
  | .scr xs => .ok ⟨xs.map D.int, free⟩ m1
  | _ => .bad
theorem di_scr {tg l : Expr} {f : EDen} (h : DE X C l f) (hK : C.K = X.K := by rfl) : DI X C tg l (iScr f) :=
  pi_weak (pi_list h) fun σ H R ⟨e, m, G, ph, Eo, I, h⟩ => goE Eo I h fun x m1 G1 ph1 H1 v Eo1 I1 X1 r1 h1 => by
    cases x with
    | scr xs =>
      obtain ⟨a, rfl, q⟩ := r1
      have rr : RepL C.K G1 ph1 (xs.map D.int) (xs.map V.int) := RepL.ints
      refine ⟨a, rfl, ⟨_, by rw [← hK]; exact sqL_mono I1.sub q⟩, h1.here I1 _ ?_⟩
      rw [← hK]
      refine ⟨fun i m G ph H hi I s p _ => ?_, fun m G ph H I s p _ => ?_, fun i d m G ph H x H' hd I s p _ y => ?_⟩
      · have hl : i < (xs.map V.int).length := by rw [rr.length]; exact hi
        exact ⟨_, (xs.map V.int)[i], sqL_mono (s.trans I.sub) q, List.getElem?_eq_getElem hl⟩
      · exact ⟨_, sqL_mono (s.trans I.sub) q, Nat.le_of_eq rr.length⟩
      · obtain ⟨rfl, y⟩ := y
        obtain ⟨w, hw, rw'⟩ := rr.get hd
        have e := y _ (sqL_mono (s.trans I.sub) q)
        rw [hw] at e
        cases e
        exact ⟨G, I, Ext.refl _ _ _, RepV.mono s p _ _ rw'⟩
    | _ => exact h1.elim
/-- range(n), range(a, b) -/
def rngD (lo : Int) (n : Nat) : List D := (List.range n).map fun (i : Nat) => D.int (lo + (i : Int))
def iRangeD (a : ADen) : IDen := fun e m => (a e m).bind fun xs m1 => match xs with
  | [.int j] => if -1000000 ≤ j ∧ j ≤ 1000000 then .ok ⟨rngD 0 j.toNat, free⟩ m1 else .bad
  | _ => .bad
def iRangeD2 (a : ADen) : IDen := fun e m => (a e m).bind fun xs m1 => match xs with
  | [.int i, .int j] => if (-1000000 ≤ i ∧ i ≤ 1000000) ∧ (-1000000 ≤ j ∧ j ≤ 1000000) then .ok ⟨rngD i (j - i).toNat, free⟩ m1 else .bad
  | _ => .bad
theorem rng_ok {lo : Int} {n : Nat} {G0 : Hp} {ph0 : List Addr} : ItOk C (Itr lo n) ⟨rngD lo n, free⟩ G0 ph0 := by
  have hl : (rngD lo n).length = n := by unfold rngD; rw [List.length_map, List.length_range]
  refine ⟨fun i m G ph H hi I s p _ => ?_, fun m G ph H I s p _ => ?_, fun i d m G ph H x H' hd I s p _ y => ?_⟩
  · have hi' : i < (rngD lo n).length := hi
    rw [hl] at hi'
    exact hi'
  · exact Nat.le_of_eq hl.symm
  · obtain ⟨rfl, rfl⟩ := y
    have hd' : (rngD lo n)[i]? = some d := hd
    have hi : i < n := by
      rw [← hl]
      exact (List.getElem?_eq_some_iff.mp hd').1
    unfold rngD at hd'
    rw [List.getElem?_map, List.getElem?_range hi] at hd'
    have e : D.int (lo + (i : Int)) = d := Option.some.inj hd'
    subst e
    exact ⟨G, I, Ext.refl _ _ _, rfl⟩
theorem di_range {tg a : Expr} {f : ADen} {p pos : Pos} (hg : Gl X "range") (hm : X.mg "range" = none) (h : DA X C [a] f) (hs : starEach [a] X.env = [(false, eval a X.env)] := by rfl) : DI X C tg (.Call (.Name "range" p) [a] [] pos) (iRangeD f) :=
  pi_weak (pi_range1 hg hm h hs) fun σ H R ⟨e, m, G, ph, Eo, I, h⟩ => goA Eo I h fun xs m1 G1 ph1 H1 vs Eo1 I1 X1 r1 h1 => by
    split at h1
    · rename_i j
      obtain ⟨v, rfl, r2⟩ := repl1 r1
      have e : v = .int j := r2
      subst e
      by_cases c : -1000000 ≤ j ∧ j ≤ 1000000
      · rw [if_pos c] at h1
        exact ⟨j, rfl, by omega, by omega, h1.here I1 _ rng_ok⟩
      · rw [if_neg c] at h1
        exact h1.elim
    · exact h1.elim
theorem di_range2 {tg a b : Expr} {f : ADen} {p pos : Pos} (hg : Gl X "range") (hm : X.mg "range" = none) (h : DA X C [a, b] f) (hs : starEach [a, b] X.env = [(false, eval a X.env), (false, eval b X.env)] := by rfl) (hs2 : starEach [b] X.env = [(false, eval b X.env)] := by rfl) : DI X C tg (.Call (.Name "range" p) [a, b] [] pos) (iRangeD2 f) :=
  pi_weak (pi_range2 hg hm h hs hs2) fun σ H R ⟨e, m, G, ph, Eo, I, h⟩ => goA Eo I h fun xs m1 G1 ph1 H1 vs Eo1 I1 X1 r1 h1 => by
    split at h1
    · rename_i i j
      obtain ⟨v, w, rfl, r2, r3⟩ := repl2 r1
      have e : v = .int i := r2
      have e2 : w = .int j := r3
      subst e e2
      by_cases c : (-1000000 ≤ i ∧ i ≤ 1000000) ∧ (-1000000 ≤ j ∧ j ≤ 1000000)
      · rw [if_pos c] at h1
        exact ⟨i, j, rfl, ⟨by omega, by omega, by omega, by omega⟩, h1.here I1 _ rng_ok⟩
      · rw [if_neg c] at h1
        exact h1.elim
    · exact h1.elim
/-- a text, sign by sign -/
def signsD (z : Str) : List D := z.cps.toList.map fun c => D.str ⟨#[c]⟩
def iStrD (f : EDen) : IDen := fun e m => (f e m).bind fun x m1 => match x with
  | .str z => .ok ⟨signsD z, free⟩ m1
  | _ => .bad
theorem di_str {tg l : Expr} {f : EDen} (h : DE X C l f) : DI X C tg l (iStrD f) :=
  pi_weak (pi_str h) fun σ H R ⟨e, m, G, ph, Eo, I, h⟩ => goE Eo I h fun x m1 G1 ph1 H1 v Eo1 I1 X1 r1 h1 => by
    cases x with
    | str z =>
      refine ⟨z, r1, h1.here I1 _ ?_⟩
      have hl : (signsD z).length = z.cps.size := by unfold signsD; simp
      refine ⟨fun i m G ph H hi I s p _ => ?_, fun m G ph H I s p _ => ?_, fun i d m G ph H x H' hd I s p _ y => ?_⟩
      · have hi' : i < (signsD z).length := hi
        rw [hl] at hi'
        exact hi'
      · exact Nat.le_of_eq hl.symm
      · obtain ⟨rfl, c, hc, rfl⟩ := y
        have hd' : (signsD z)[i]? = some d := hd
        unfold signsD at hd'
        rw [List.getElem?_map] at hd'
        have hc' : z.cps.toList[i]? = some c := by simpa using hc
        rw [hc'] at hd'
        have e : D.str ⟨#[c]⟩ = d := Option.some.inj hd'
        subst e
        exact ⟨G, I, Ext.refl _ _ _, rfl⟩
    | _ => exact h1.elim
/-- enumerate of a list -/
def enumD (n : Nat) : List D → List D
  | [] => []
  | d :: ds => .tup [.int (n : Int), d] :: enumD (n + 1) ds
theorem enumD_length : ∀ (n : Nat) (ds : List D), (enumD n ds).length = ds.length
  | _, [] => rfl
  | n, d :: ds => by
    show (enumD (n + 1) ds).length + 1 = ds.length + 1
    rw [enumD_length]
theorem enumD_get : ∀ {ds : List D} {n i : Nat} {d : D}, (enumD n ds)[i]? = some d → ∃ x, ds[i]? = some x ∧ d = .tup [.int ((n + i : Nat) : Int), x]
  | [], n, i, d, h => by simp [enumD] at h
  | x :: ds, n, 0, d, h => by
    simp [enumD] at h
    exact ⟨x, rfl, by rw [← h]; rfl⟩
  | x :: ds, n, i + 1, d, h => by
    have h' : (enumD (n + 1) ds)[i]? = some d := by simpa [enumD] using h
    obtain ⟨y, e1, e2⟩ := enumD_get h'
    refine ⟨y, by simpa using e1, ?_⟩
    rw [e2]
    have e : n + 1 + i = n + (i + 1) := by omega
    rw [e]
def iEnumD (a : ADen) : IDen := fun e m => (a e m).bind fun xs m1 => match xs with
  | [x] => match dList m1 x with
    | some ds => .ok ⟨enumD 0 ds, lGuard x ds⟩ m1
    | none => .bad
  | _ => .bad
theorem pair_new {m : Mem} {G : Hp} {ph : List Addr} {H : Hp} (I : Mok C m G ph H) {T : Addr} (hT : H T = none) {i : Int} {d : D} {x : V} (r : RepV C.K G ph d x) :
    ∃ G', Mok C m G' ph (upd H T (.tup [.int i, x])) ∧ Ext G ph H G' ph (upd H T (.tup [.int i, x])) ∧ RepV C.K G' ph (.tup [.int i, d]) (.ref T) := by
  obtain ⟨I2, X2⟩ := I.frozen hT (.tup [.int i, x])
  exact ⟨_, I2, X2, T, _, rfl, SqT.of upd_same, .int i, _, rfl, rfl, x, [], rfl, RepV.mono X2.g X2.p _ _ r, rfl⟩
theorem di_enum {elts : List Expr} {kk : Nat} {tpos : Pos} {a : Expr} {f : ADen} {p pos : Pos} (hg : Gl X "enumerate") (hm : X.mg "enumerate" = none) (h : DA X C [a] f) (hK : C.K = X.K := by rfl) (hs : starEach [a] X.env = [(false, eval a X.env)] := by rfl) :
    DI X C (.Tuple elts kk tpos) (.Call (.Name "enumerate" p) [a] [] pos) (iEnumD f) :=
  pi_weak (pi_enum hg hm h hs) fun σ H R ⟨e, m, G, ph, Eo, I, h⟩ => goA Eo I h fun xs m1 G1 ph1 H1 vs Eo1 I1 X1 r1 h1 => by
    split at h1
    · rename_i x
      obtain ⟨v, rfl, r2⟩ := repl1 r1
      cases q : dList m1 x with
      | none =>
        rw [q] at h1
        exact h1.elim
      | some ds =>
        rw [q] at h1
        obtain ⟨a, rfl, st⟩ := list_stays I1 q r2
        obtain ⟨vs0, w0, _⟩ := st m1 G1 ph1 H1 I1 (Same.refl _) (Pre.refl _) (lGuard_self q)
        refine ⟨a, vs0, rfl, by rw [← hK]; exact SqL.of w0, h1.here I1 _ ?_⟩
        rw [← hK]
        refine ⟨fun i m G ph H hi I s p g => ?_, fun m G ph H I s p g => ?_, fun i d m G ph H x H' hd I s p g y => ?_⟩
        · obtain ⟨vs, w, rr⟩ := st m G ph H I s p g
          have hi' : i < (enumD 0 ds).length := hi
          rw [enumD_length] at hi'
          have hl : i < vs.length := by rw [rr.length]; exact hi'
          exact ⟨vs, vs[i], SqL.of w, List.getElem?_eq_getElem hl⟩
        · obtain ⟨vs, w, rr⟩ := st m G ph H I s p g
          refine ⟨vs, SqL.of w, ?_⟩
          show vs.length ≤ (enumD 0 ds).length
          rw [enumD_length, rr.length]
          exact Nat.le_refl _
        · obtain ⟨vs, w, rr⟩ := st m G ph H I s p g
          obtain ⟨T, z, rfl, hT, rfl, y⟩ := y
          obtain ⟨d0, hd0, rfl⟩ := enumD_get (show (enumD 0 ds)[i]? = some d from hd)
          obtain ⟨u, hu, ru⟩ := rr.get hd0
          have e := y vs (SqL.of w)
          rw [hu] at e
          cases e
          rw [Nat.zero_add]
          exact pair_new I hT ru
    · exact h1.elim
end

/-! ## targets -/
abbrev GDen := D → Sl → Option Sl
def gV (i : Nat) : GDen := fun d e => some (e.set i (some d))
def gVs : List Nat → List D → Sl → Option Sl
  | [], [], e => some e
  | i :: is, d :: ds, e => gVs is ds (e.set i (some d))
  | _, _, _ => none
def gT (is : List Nat) : GDen := fun d e => match d with
  | .tup ds => gVs is ds e
  | _ => none
/-- the slots at ix alone are set -/
def SetAt (ix : List Nat) (σ σ' : St) : Prop := ∀ vs : List Nat, (∀ i ∈ ix, i ∈ vs) → wipe σ' vs = wipe σ vs
theorem SetAt.refl (σ : St) : SetAt [] σ σ := fun _ _ => rfl
theorem wipe_set {σ : St} {i : Nat} {x : Option V} : ∀ {vs : List Nat}, i ∈ vs → wipe (σ.set i x) vs = wipe σ vs
  | [], h => by cases h
  | v :: vs, h => by
    show (wipe (σ.set i x) vs).set v none = (wipe σ vs).set v none
    by_cases hi : i ∈ vs
    · rw [wipe_set hi]
    · have e : i = v := by
        rcases List.mem_cons.mp h with q | q
        · exact q
        · exact absurd q hi
      subst e
      have key : ∀ ws : List Nat, i ∉ ws → wipe (σ.set i x) ws = (wipe σ ws).set i x := by
        intro ws
        induction ws with
        | nil => intro _; rfl
        | cons w ws ih =>
          intro hw
          have h1 : i ≠ w := fun z => hw (by simp [z])
          have h2 : i ∉ ws := fun z => hw (List.mem_cons_of_mem _ z)
          show (wipe (σ.set i x) ws).set w none = ((wipe σ ws).set w none).set i x
          rw [ih h2, List.set_comm _ _ h1]
      rw [key vs hi, List.set_set]
structure TgOk (X : Cx) (C : Cn) (tg : Expr) (g : TG) (gd : GDen) (ix : List Nat) : Prop where
  pg : PG X tg g
  run : ∀ d e e' m G ph (σ : St) (H : Hp) (v : V) (Q : St → Hp → Prop), gd d e = some e' → Eok C e G ph σ → Mok C m G ph H → RepV C.K G ph d v → (∀ σ', Eok C e' G ph σ' → SetAt ix σ σ' → Q σ' H) → g v σ H Q
section
variable {X : Cx} {C : Cn}
theorem tg_name {i : Nat} {x : Str} {pos : Pos} (hN : X.N.Nodup) (hi : X.N[i]? = some x) (hx : Loc X.env.scope x) (hf : X.fn x = true ∨ X.env.scope.names.lookup x = some .local := by first | exact .inl rfl | exact .inr rfl | assumption) : TgOk X C (.Name x pos) (gName i) (gV i) [i] :=
  ⟨pg_name hN hi hx hf, fun d e e' m G ph σ H v Q h Eo I r k => by
    cases h
    exact k _ (Eo.set r) fun vs hv => wipe_set (hv i (by simp))⟩
structure TgsOk (X : Cx) (C : Cn) (tgs : List Expr) (g : TGs) (is : List Nat) : Prop where
  pg : PGs X tgs g
  run : ∀ ds e e' m G ph (σ : St) (H : Hp) (vs : List V) (Q : St → Hp → Prop), gVs is ds e = some e' → Eok C e G ph σ → Mok C m G ph H → RepL C.K G ph ds vs → (∀ σ', Eok C e' G ph σ' → SetAt is σ σ' → Q σ' H) → g vs σ H Q
theorem tgs_nil : TgsOk X C [] gNil [] := ⟨pgs_nil, fun ds e e' m G ph σ H vs Q h Eo I r k => by
  cases ds with
  | nil =>
    cases h
    have e : vs = [] := r
    exact ⟨e, k σ Eo (SetAt.refl σ)⟩
  | cons d ds => cases h⟩
theorem tgs_cons {x : Str} {pos : Pos} {es : List Expr} {i : Nat} {u : TGs} {is : List Nat} (h1 : TgOk X C (.Name x pos) (gName i) (gV i) [i]) (h2 : TgsOk X C es u is)
    (hs : (assignEach (.Name x pos :: es) X.env).map (·.2) = assign (.Name x pos) X.env :: (assignEach es X.env).map (·.2) := by rfl) : TgsOk X C (.Name x pos :: es) (gCons (gName i) u) (i :: is) :=
  ⟨pgs_cons h1.pg h2.pg hs, fun ds e e' m G ph σ H vs Q h Eo I r k => by
    cases ds with
    | nil => cases h
    | cons d ds =>
      obtain ⟨v, t, rfl, r1, r2⟩ := r
      refine ⟨v, t, rfl, ?_⟩
      exact h2.run ds _ e' m G ph (σ.set i (some v)) H t Q h (Eo.set r1) I r2 fun σ' Eo' st => k σ' Eo' fun vs hv => by
        rw [st vs fun j hj => hv j (List.mem_cons_of_mem _ hj)]
        exact wipe_set (hv i (by simp))⟩
theorem tg_tup {es : List Expr} {k : Nat} {pos : Pos} {t : TGs} {is : List Nat} {n : Nat} (hc : X.calm = true) (h : TgsOk X C es t is) (hK : C.K = X.K := by rfl)
    (hn : (assignEach es X.env).length = n := by rfl) (hst : (assignEach es X.env).findIdx? (·.1) = none := by rfl) (hi : is.length = n := by rfl) : TgOk X C (.Tuple es k pos) (gTup X.K n t) (gT is) is :=
  ⟨pg_tup hc h.pg hn hst, fun d e e' m G ph σ H v Q hd Eo I r k => by
    cases d with
    | tup ds =>
      obtain ⟨a, vs, rfl, q, rr⟩ := r
      have hl : ds.length = is.length := by
        have key : ∀ (is : List Nat) (ds : List D) (e e' : Sl), gVs is ds e = some e' → ds.length = is.length := by
          intro is
          induction is with
          | nil =>
            intro ds e e' h
            cases ds with
            | nil => rfl
            | cons d ds => cases h
          | cons i is ih =>
            intro ds e e' h
            cases ds with
            | nil => cases h
            | cons d ds => rw [List.length_cons, List.length_cons, ih ds _ e' h]
        exact key is ds e e' hd
      exact ⟨a, vs, rfl, by rw [← hK]; exact sqT_mono I.sub q, by rw [rr.length, hl, hi], h.run ds e e' m G ph σ H vs Q hd Eo I rr k⟩
    | _ => cases hd⟩
end

/-! ## statements -/
def sSeq (f g : SDen) : SDen := fun e m => (f e m).bind fun fl m1 => match fl with
  | .nx e1 => g e1 m1
  | fl => .ok fl m1
def sNext : SDen := fun e m => .ok (.nx e) m
def sBad : SDen := fun _ _ => .bad
def sDrop (f : EDen) : SDen := fun e m => (f e m).bind fun _ m1 => .ok (.nx e) m1
def sRet (f : EDen) : SDen := fun e m => (f e m).bind fun d m1 => .ok (.rt d) m1
def sRetN : SDen := fun _ m => .ok (.rt .non) m
def sAsg (g : GDen) (f : EDen) : SDen := fun e m => (f e m).bind fun d m1 => match g d e with
  | some e1 => .ok (.nx e1) m1
  | none => .bad
def sIf (c : TDen) (f g : SDen) : SDen := fun e m => (c e m).bind fun b m1 => if b = true then f e m1 else g e m1
section
variable {X : Cx} {C : Cn}
theorem ts_in {f : SDen} {e : Sl} {m : Mem} {G : Hp} {ph : List Addr} {σ : St} {H : Hp} {D' : Ends} (Eo : Eok C e G ph σ) (I : Mok C m G ph H) (h : Post C G ph H (endS C D') (f e m)) : tS C f D' σ H := ⟨e, m, G, ph, Eo, I, h⟩
theorem dss_nil : DSs X C [] sNext := pss_weak pss_nil fun D' σ H ⟨e, m, G, ph, Eo, I, h⟩ => Post.here h I σ Eo
theorem seq_w {f g : SDen} {D' : Ends} {σ : St} {H : Hp} (h : tS C (sSeq f g) D' σ H) : tSeq (tS C f) (tS C g) D' σ H := by
  obtain ⟨e, m, G, ph, Eo, I, h⟩ := h
  refine ⟨e, m, G, ph, Eo, I, h.bind.mono fun fl m1 G1 ph1 H1 ⟨I1, X1, h1⟩ => ?_⟩
  cases fl with
  | nx e1 => exact fun σ' Eo' => ts_in Eo' I1 h1
  | rt d => exact fun v r => h1.here I1 v r
  | bk e1 => exact fun σ' Eo' => h1.here I1 σ' Eo'
  | ct e1 => exact fun σ' Eo' => h1.here I1 σ' Eo'
theorem dss_cons {st : Stmt} {rest : List Stmt} {f g : SDen} (h : DS X C st f) (k : DSs X C rest g) : DSs X C (st :: rest) (sSeq f g) := pss_weak (pss_cons h k) fun _ _ _ q => seq_w q
theorem dss_one {st : Stmt} {f : SDen} (h : DS X C st f) : DSs X C [st] f := pss_one h
theorem ds_never {st : Stmt} : DS X C st sBad := ps_weak ps_never fun D' σ H ⟨e, m, G, ph, Eo, I, h⟩ => h
theorem ds_pass {pos : Pos} : DS X C (.Pass pos) sNext := ps_weak ps_pass fun D' σ H ⟨e, m, G, ph, Eo, I, h⟩ => Post.here h I σ Eo
theorem ds_doc {x j pos pos'} : DS X C (.Expr (.Constant (.str x) j pos) pos') sNext := ps_weak ps_doc fun D' σ H ⟨e, m, G, ph, Eo, I, h⟩ => Post.here h I σ Eo
theorem ds_expr {e : Expr} {pos : Pos} {f : EDen} (h : DE X C e f) (hs : swapsWith e none pos.line X.env = pure false := by rfl) : DS X C (.Expr e pos) (sDrop f) :=
  ps_weak (ps_expr h hs) fun D' σ H ⟨e, m, G, ph, Eo, I, h⟩ => goE Eo I h fun x m1 G1 ph1 H1 v Eo1 I1 X1 r1 h1 => h1.here I1 σ Eo1
theorem ds_ret {e : Expr} {pos : Pos} {f : EDen} (h : DE X C e f) : DS X C (.Return (some e) pos) (sRet f) :=
  ps_weak (ps_ret h) fun D' σ H ⟨e, m, G, ph, Eo, I, h⟩ => goE Eo I h fun x m1 G1 ph1 H1 v Eo1 I1 X1 r1 h1 => h1.here I1 v r1
theorem ds_retN {pos : Pos} : DS X C (.Return none pos) sRetN := ps_weak ps_retN fun D' σ H ⟨e, m, G, ph, Eo, I, h⟩ => Post.here h I .non rfl
theorem ds_if {c : Expr} {a b : List Stmt} {pos : Pos} {fc : TDen} {fa fb : SDen} (hc : DT X C c fc) (ha : DSs X C a fa) (hb : DSs X C b fb) : DS X C (.If c a b pos) (sIf fc fa fb) :=
  ps_weak (ps_if hc ha hb) fun D' σ H ⟨e, m, G, ph, Eo, I, h⟩ => goT Eo I h fun b m1 G1 ph1 H1 Eo1 I1 X1 h1 => by
    cases b with
    | true => exact iteT (ts_in Eo1 I1 h1)
    | false => exact iteF (ts_in Eo1 I1 h1)
theorem asg_w {tg : Expr} {g : TG} {gd : GDen} {ix : List Nat} {f : EDen} (hg : TgOk X C tg g gd ix) {D' : Ends} {σ : St} {H : Hp} (h : tS C (sAsg gd f) D' σ H) : tAsg (tE C f) g D' σ H := by
  obtain ⟨e, m, G, ph, Eo, I, h⟩ := h
  refine goE Eo I h fun x m1 G1 ph1 H1 v Eo1 I1 X1 r1 h1 => ?_
  cases q : gd x e with
  | none =>
    rw [q] at h1
    exact h1.elim
  | some e1 =>
    rw [q] at h1
    exact hg.run x e e1 m1 G1 ph1 σ H1 v D'.nx q Eo1 I1 r1 fun σ' Eo' _ => h1.here I1 σ' Eo'
theorem ds_asg {tg e : Expr} {pos : Pos} {g : TG} {gd : GDen} {ix : List Nat} {f : EDen} (he : DE X C e f) (hg : TgOk X C tg g gd ix) (hs : swapsWithSole [tg] e pos.line X.env = pure false := by rfl) (hw : swappedStores [tg] e X.env = pure none := by rfl) (h1 : (assignEach [tg] X.env).map (·.2) = [assign tg X.env] := by rfl) : DS X C (.Assign [tg] e pos) (sAsg gd f) :=
  ps_weak (ps_asg he hg.pg hs hw h1) fun D' σ H q => asg_w hg q
theorem ds_set {i : Nat} {x : Str} {e : Expr} {f : EDen} {pos pos' : Pos} (hN : X.N.Nodup) (hi : X.N[i]? = some x) (hx : Loc X.env.scope x) (he : DE X C e f) (hs : swapsWith e (some (.Name x pos')) pos.line X.env = pure false := by rfl) (hf : X.fn x = true ∨ X.env.scope.names.lookup x = some .local := by first | exact .inl rfl | exact .inr rfl | assumption) :
    DS X C (.Assign [.Name x pos'] e pos) (sAsg (gV i) f) := ps_weak (ps_set hN hi hx he hs hf) fun D' σ H q => asg_w (tg_name (pos := pos') hN hi hx hf) q

/-! ## for -/
def loopD (gd : Mem → Bool) (tg : GDen) (body : SDen) : List D → Sl → Mem → Res Flw
  | [], e, m => if gd m = true then .ok (.nx e) m else .bad
  | d :: ds, e, m => if gd m = true then (match tg d e with
    | some e1 => (body e1 m).bind fun fl m2 => (match fl with
      | .nx e2 => loopD gd tg body ds e2 m2
      | .ct e2 => loopD gd tg body ds e2 m2
      | .bk e2 => .ok (.nx e2) m2
      | .rt d => .ok (.rt d) m2)
    | none => .bad) else .bad
def sFor (it : IDen) (tg : GDen) (body : SDen) : SDen := fun e m => (it e m).bind fun p m1 => loopD p.gd tg body p.ds e m1
theorem for_w {tg : Expr} {g : TG} {gd : GDen} {ix : List Nat} {fi : IDen} {fb : SDen} (hg : TgOk X C tg g gd ix) {D' : Ends} {σ : St} {H : Hp} (h : tS C (sFor fi gd fb) D' σ H) : tFor (tI C fi) g (tS C fb) D' σ H := by
  obtain ⟨e, m, G, ph, Eo, I, h⟩ := h
  refine ⟨e, m, G, ph, Eo, I, h.bind.mono fun p m1 G1 ph1 H1 ⟨I1, X1, h1⟩ J ok => ?_⟩
  refine ⟨fun i k σ' H' => k = p.ds.length - i ∧ i ≤ p.ds.length ∧ ∃ e' m' G' ph', Eok C e' G' ph' σ' ∧ Mok C m' G' ph' H' ∧ Ext G1 ph1 H1 G' ph' H' ∧ Post C G' ph' H' (endS C D') (loopD p.gd gd fb (p.ds.drop i) e' m'),
    ⟨p.ds.length, by simp, Nat.zero_le _, e, m1, G1, ph1, Eo.mono X1.g X1.p, I1, Ext.refl _ _ _, h1⟩, ?_⟩
  rintro i k σ' H' ⟨rfl, hi, e', m', G', ph', Eo', I', X', h'⟩
  by_cases hlt : i < p.ds.length
  · have hd : p.ds[i]? = some p.ds[i] := List.getElem?_eq_getElem hlt
    rw [List.drop_eq_getElem_cons hlt] at h'
    unfold loopD at h'
    by_cases hgd : p.gd m' = true
    · rw [if_pos hgd] at h'
      cases q : gd p.ds[i] e' with
      | none =>
        rw [q] at h'
        exact h'.elim
      | some e1 =>
        rw [q] at h'
        refine .inr ⟨ok.goes i m' G' ph' H' hlt I' X'.g X'.p hgd, fun σ2 H2 => ∃ e2 m2 G2 ph2, Eok C e2 G2 ph2 σ2 ∧ Mok C m2 G2 ph2 H2 ∧ Ext G1 ph1 H1 G2 ph2 H2 ∧ Post C G2 ph2 H2 (endS C D') (loopD p.gd gd fb (p.ds.drop (i + 1)) e2 m2),
          fun σ2 H2 ⟨e2, m2, G2, ph2, a1, a2, a3, a4⟩ => ⟨p.ds.length - (i + 1), by omega, rfl, hlt, e2, m2, G2, ph2, a1, a2, a3, a4⟩, fun x H2 y => ?_⟩
        obtain ⟨G2, I2, X2, r2⟩ := ok.yields i _ m' G' ph' H' x H2 hd I' X'.g X'.p hgd y
        refine hg.run _ e' e1 m' G2 ph' σ' H2 x _ q (Eo'.mono X2.g X2.p) I2 r2 fun σ3 Eo3 _ => ?_
        have h3 := Post.shift X2 h'
        refine ts_in Eo3 I2 (h3.bind.mono fun fl m4 G4 ph4 H4 ⟨I4, X4, h4⟩ => ?_)
        have X14 := X'.trans (X2.trans X4)
        cases fl with
        | nx e5 => exact fun σ5 Eo5 => ⟨e5, m4, G4, ph4, Eo5, I4, X14, h4⟩
        | ct e5 => exact fun σ5 Eo5 => ⟨e5, m4, G4, ph4, Eo5, I4, X14, h4⟩
        | bk e5 => exact fun σ5 Eo5 => h4.here I4 σ5 Eo5
        | rt d => exact fun v r => h4.here I4 v r
    · rw [if_neg hgd] at h'
      exact h'.elim
  · have e0 : i = p.ds.length := by omega
    subst e0
    rw [List.drop_length] at h'
    unfold loopD at h'
    by_cases hgd : p.gd m' = true
    · rw [if_pos hgd] at h'
      exact .inl ⟨ok.stops m' G' ph' H' I' X'.g X'.p hgd, h'.here I' σ' Eo'⟩
    · rw [if_neg hgd] at h'
      exact h'.elim
theorem ds_for {tg iter : Expr} {body : List Stmt} {pos : Pos} {g : TG} {gd : GDen} {ix : List Nat} {fi : IDen} {fb : SDen} (hp : PassesOwn (model X.prog X.w) X.A X.env X.xe) (hc : X.calm = true) (hi : DI X C tg iter fi) (hg : TgOk X C tg g gd ix) (hb : DSs X C body fb)
    (hs : ∀ x, foldedSetIterable iter X.env x = pure x := by intro _; rfl) : DS X C (.For tg iter body [] pos) (sFor fi gd fb) := ps_weak (ps_for hp hc hi hg.pg hb hs) fun D' σ H q => for_w hg q

/-! ## comprehensions -/
def wipeD (e : Sl) : List Nat → Sl
  | [] => e
  | v :: vs => (wipeD e vs).set v none
theorem Eok.forget {e : Sl} {G : Hp} {ph : List Addr} {σ : St} (h : Eok C e G ph σ) (i : Nat) : Eok C (e.set i none) G ph (σ.set i none) := by
  refine ⟨by rw [List.length_set, List.length_set]; exact h.len, fun j d q => ?_⟩
  by_cases hj : j = i
  · subst hj
    have hl := (List.getElem?_eq_some_iff.mp q).1
    rw [List.length_set] at hl
    rw [List.getElem?_set_self hl] at q
    cases q
  · rw [List.getElem?_set_ne (Ne.symm hj)] at q ⊢
    exact h.at_ j d q
theorem Eok.wipe {e : Sl} {G : Hp} {ph : List Addr} {σ : St} (h : Eok C e G ph σ) : ∀ vs : List Nat, Eok C (wipeD e vs) G ph (L2.wipe σ vs)
  | [] => h
  | v :: vs => (Eok.wipe h vs).forget v
def compD (gd : Mem → Bool) (tg : GDen) (t : TDen) (f : EDen) (e : Sl) : List D → Mem → List D → Res (List D)
  | [], m, acc => if gd m = true then .ok acc m else .bad
  | d :: ds, m, acc => if gd m = true then (match tg d e with
    | some e1 => (t e1 m).bind fun b m1 => if b = true then ((f e1 m1).bind fun y m2 => if acc.length < 1000000 then compD gd tg t f e ds m2 (acc ++ [y]) else .bad) else compD gd tg t f e ds m1 acc
    | none => .bad) else .bad
def tYesD : TDen := fun _ m => .ok true m
def eComp (it : IDen) (tg : GDen) (t : TDen) (f : EDen) (own : List Nat) : EDen := fun e m => (it e m).bind fun p m1 => (compD p.gd tg t f (wipeD e own) p.ds m1 []).bind fun ds m2 => .ok (.lst ds) m2
def eCompN (it : IDen) (tg : GDen) (t : TDen) (f : EDen) (own : List Nat) : EDen := fun e m => (it e m).bind fun p m1 => (compD p.gd tg t f (wipeD e own) p.ds m1 []).bind fun ds m2 => .ok (.ref m2.length) (m2 ++ [.lst ds])
theorem wipe_idem {σ : St} {vs : List Nat} : wipe (wipe σ vs) vs = wipe σ vs := by
  have key : ∀ ws : List Nat, (∀ i ∈ ws, i ∈ vs) → wipe (wipe σ ws) vs = wipe σ vs := by
    intro ws
    induction ws with
    | nil => intro _; rfl
    | cons w ws ih =>
      intro h
      show wipe ((wipe σ ws).set w none) vs = wipe σ vs
      rw [wipe_set (h w (by simp)), ih fun i hi => h i (List.mem_cons_of_mem _ hi)]
  exact key vs fun _ h => h
/-- an object beside the frozen part and the cells -/
theorem Mok.side {m : Mem} {G : Hp} {ph : List Addr} {H : Hp} (I : Mok C m G ph H) {p : Addr} (hG : G p = none) (hp : p ∉ ph) (o : HO) : Mok C m G ph (upd H p o) where
  sub := fun b u e => by
    rw [upd_ne (ne_of_none e hG)]
    exact I.sub b u e
  len := I.len
  nd := I.nd
  trk := fun a ha => upd_there (I.trk a ha)
  out := I.out
  cell := fun n a mo h1 h2 => (I.cell n a mo h1 h2).mono (Same.refl G) (Pre.refl ph) fun _ u e => by
    rw [upd_ne fun z => hp (by rw [← z]; exact List.mem_of_getElem? h1)]
    exact e
theorem Ext.side {G0 G : Hp} {ph0 ph : List Addr} {H0 H : Hp} (X : Ext G0 ph0 H0 G ph H) {p : Addr} (h : H0 p = none) (o : HO) : Ext G0 ph0 H0 G ph (upd H p o) where
  g := X.g
  p := X.p
  keep := fun a u ha e => by
    rw [upd_ne (ne_of_none e h)]
    exact X.keep a u ha e
  gnew := X.gnew
  pnew := X.pnew
  there := fun a ha => upd_there (X.there a ha)
theorem Ext.apart {G G' : Hp} {ph ph' : List Addr} {H H' : Hp} (X : Ext G ph H G' ph' H') {p : Addr} {o : HO} (h : H p = some o) (hG : G p = none) (hp : p ∉ ph) : H' p = some o ∧ G' p = none ∧ p ∉ ph' := by
  refine ⟨X.keep p o hp h, ?_, fun z => ?_⟩
  · by_cases q : G' p = none
    · exact q
    · rcases X.gnew p hG q with z | z
      · rw [h] at z
        cases z
      · exact absurd z hp
  · rcases X.pnew p z with y | y
    · exact hp y
    · rw [h] at y
      cases y
/-- .. taken into the frozen part -/
theorem Mok.adopt {m : Mem} {G : Hp} {ph : List Addr} {H : Hp} (I : Mok C m G ph H) {p : Addr} {o : HO} (h : H p = some o) (hG : G p = none) (hp : p ∉ ph) : Mok C m (upd G p o) ph H where
  sub := fun b u e => by
    by_cases q : b = p
    · subst q
      rw [upd_same] at e
      rw [h, e]
    · rw [upd_ne q] at e
      exact I.sub b u e
  len := I.len
  nd := I.nd
  trk := I.trk
  out := fun n a mo h1 h2 h3 => by
    rw [upd_ne fun z => hp (by rw [← z]; exact List.mem_of_getElem? h1)]
    exact I.out n a mo h1 h2 h3
  cell := fun n a mo h1 h2 => (I.cell n a mo h1 h2).mono (same_upd hG) (Pre.refl ph) fun _ u e => e
theorem Ext.adopt {G0 G : Hp} {ph0 ph : List Addr} {H0 H : Hp} (X : Ext G0 ph0 H0 G ph H) {p : Addr} (h : H0 p = none) (hG : G p = none) (o : HO) : Ext G0 ph0 H0 (upd G p o) ph H where
  g := X.g.trans (same_upd hG)
  p := X.p
  keep := X.keep
  gnew := fun a ha k => by
    by_cases q : a = p
    · subst q
      exact .inl h
    · rw [upd_ne q] at k
      exact X.gnew a ha k
  pnew := X.pnew
  there := X.there
/-- .. made a cell -/
theorem Mok.adoptCell {m : Mem} {G : Hp} {ph : List Addr} {H : Hp} (I : Mok C m G ph H) {p : Addr} {vs : List V} {ds : List D} (h : H p = some (.lst vs)) (hG : G p = none) (hp : p ∉ ph) (r : RepL C.K G ph ds vs) : Mok C (m ++ [.lst ds]) G (ph ++ [p]) H where
  sub := I.sub
  len := by rw [List.length_append, List.length_append, I.len] <;> rfl
  nd := by
    rw [List.nodup_append]
    refine ⟨I.nd, by simp, fun a ha b hb => ?_⟩
    simp at hb
    subst hb
    intro z
    subst z
    exact hp ha
  trk := fun a ha => by
    rcases List.mem_append.mp ha with q | q
    · exact I.trk a q
    · simp at q
      subst q
      rw [h]
      intro z
      cases z
  out := fun n a mo h1 h2 h3 => by
    by_cases hn : n < ph.length
    · rw [List.getElem?_append_left hn] at h1
      rw [List.getElem?_append_left (by rw [I.len]; exact hn)] at h2
      exact I.out n a mo h1 h2 h3
    · have hl := (List.getElem?_eq_some_iff.mp h1).1
      rw [List.length_append, List.length_singleton] at hl
      have e : n = ph.length := by omega
      subst e
      rw [List.getElem?_append_right (Nat.le_refl _), Nat.sub_self] at h1
      simp at h1
      subst h1
      exact hG
  cell := fun n a mo h1 h2 => by
    by_cases hn : n < ph.length
    · rw [List.getElem?_append_left hn] at h1
      rw [List.getElem?_append_left (by rw [I.len]; exact hn)] at h2
      exact (I.cell n a mo h1 h2).mono (Same.refl G) (Pre.snoc ph p) fun _ u e => e
    · have hl := (List.getElem?_eq_some_iff.mp h1).1
      rw [List.length_append, List.length_singleton] at hl
      have e : n = ph.length := by omega
      subst e
      rw [List.getElem?_append_right (Nat.le_refl _), Nat.sub_self] at h1
      rw [← I.len, List.getElem?_append_right (Nat.le_refl _), Nat.sub_self] at h2
      simp at h1 h2
      subst h1 h2
      exact ⟨vs, h, RepL.mono (Same.refl G) (Pre.snoc ph p) _ _ r⟩
theorem Ext.adoptCell {G0 G : Hp} {ph0 ph : List Addr} {H0 H : Hp} (X : Ext G0 ph0 H0 G ph H) {p : Addr} (h : H0 p = none) : Ext G0 ph0 H0 G (ph ++ [p]) H where
  g := X.g
  p := X.p.trans (Pre.snoc ph p)
  keep := X.keep
  gnew := X.gnew
  pnew := fun a ha => by
    rcases List.mem_append.mp ha with q | q
    · exact X.pnew a q
    · simp at q
      subst q
      exact .inr h
  there := X.there
theorem wipe_of {ix own : List Nat} {σ σ2 : St} (h : SetAt ix (L2.wipe σ own) σ2) (ho : ∀ i ∈ ix, i ∈ own) : L2.wipe σ2 own = L2.wipe σ own := by
  rw [h own ho, wipe_idem]
/-- the walk of a comprehension; fin: how its list is taken -/
theorem comp_w {tg : Expr} {X' : Cx} {g : TG} {gd : GDen} {ix own : List Nat} {fi : IDen} {ft : TDen} {fe : EDen} (hg : TgOk X' C tg g gd ix) (hown : ∀ i ∈ ix, i ∈ own) {σ : St} {H : Hp} {Q : VK} {β : Type} {k : List D → Mem → Res β} {R : β → Mem → Hp → List Addr → Hp → Prop}
    {e : Sl} {m : Mem} {G : Hp} {ph : List Addr} (Eo : Eok C e G ph σ) (I : Mok C m G ph H) (h : Post C G ph H R ((fi e m).bind fun p m1 => (compD p.gd gd ft fe (wipeD e own) p.ds m1 []).bind k))
    (fin : ∀ ds m1 G1 ph1 H1 vs Dl, Mok C m1 G1 ph1 H1 → Ext G ph H G1 ph1 H1 → H Dl = none → H1 Dl = some (.lst vs) → G1 Dl = none → Dl ∉ ph1 → RepL C.K G1 ph1 ds vs → Post C G ph H R (k ds m1) → Q (.ref Dl) H1) : tLc (tI C fi) g (tT C ft) (tE C fe) own σ H Q := by
  refine ⟨e, m, G, ph, Eo, I, ?_⟩
  cases qi : fi e m with
  | bad =>
    rw [qi] at h
    exact h.elim
  | exc c p m1 =>
    rw [qi] at h
    exact h
  | ok p m1 =>
    rw [qi] at h
    intro G1 ph1 H1 I1 X1 J ok Dl hD
    have h : Post C G ph H R ((compD p.gd gd ft fe (wipeD e own) p.ds m1 []).bind k) := h
    have hD0 : H Dl = none := by
      by_cases q : H Dl = none
      · exact q
      · exact absurd hD (X1.there Dl q)
    have hG1 : G1 Dl = none := same_none I1.sub hD
    have hp1 : Dl ∉ ph1 := fun z => I1.trk Dl z hD
    have Eow := Eo.wipe own
    refine ⟨fun i n H' => n = p.ds.length - i ∧ i ≤ p.ds.length ∧ ∃ m' G' ph' acc vs, Mok C m' G' ph' H' ∧ Ext G ph H G' ph' H' ∧ Same G1 G' ∧ Pre ph1 ph' ∧ H' Dl = some (.lst vs) ∧ G' Dl = none ∧ Dl ∉ ph' ∧ RepL C.K G' ph' acc vs ∧
      Post C G ph H R ((compD p.gd gd ft fe (wipeD e own) (p.ds.drop i) m' acc).bind k),
      ⟨p.ds.length, by simp, Nat.zero_le _, m1, G1, ph1, [], [], I1.side hG1 hp1 _, X1.side hD0 _, Same.refl _, Pre.refl _, upd_same, hG1, hp1, rfl, h⟩, ?_⟩
    rintro i n H' ⟨rfl, hi, m', G', ph', acc, vs, I', X', s1, p1, d1, d2, d3, rr, h'⟩
    by_cases hlt : i < p.ds.length
    · have hd : p.ds[i]? = some p.ds[i] := List.getElem?_eq_getElem hlt
      rw [List.drop_eq_getElem_cons hlt] at h'
      unfold compD at h'
      by_cases hgd : p.gd m' = true
      · rw [if_pos hgd] at h'
        cases q : gd p.ds[i] (wipeD e own) with
        | none =>
          rw [q] at h'
          exact h'.elim
        | some e1 =>
          simp only [q] at h'
          refine .inr ⟨ok.goes i m' G' ph' H' hlt I' s1 p1 hgd, fun H2 => ∃ m2 G2 ph2 acc vs, Mok C m2 G2 ph2 H2 ∧ Ext G ph H G2 ph2 H2 ∧ Same G1 G2 ∧ Pre ph1 ph2 ∧ H2 Dl = some (.lst vs) ∧ G2 Dl = none ∧ Dl ∉ ph2 ∧ RepL C.K G2 ph2 acc vs ∧
            Post C G ph H R ((compD p.gd gd ft fe (wipeD e own) (p.ds.drop (i + 1)) m2 acc).bind k),
            fun H2 ⟨m2, G2, ph2, acc, vs, r⟩ => ⟨p.ds.length - (i + 1), by omega, rfl, hlt, m2, G2, ph2, acc, vs, r⟩, fun x H2 y => ?_⟩
          obtain ⟨G2, I2, X2, r2⟩ := ok.yields i _ m' G' ph' H' x H2 hd I' s1 p1 hgd y
          obtain ⟨a1, a2, a3⟩ := X2.apart d1 d2 d3
          refine hg.run _ _ e1 m' G2 ph' _ H2 x _ q (Eow.mono (X'.g.trans X2.g) (X'.p.trans X2.p)) I2 r2 fun σ3 Eo3 st => ⟨wipe_of st hown, ?_⟩
          have X02 := X'.trans X2
          have rr2 := RepL.mono X2.g X2.p _ _ rr
          -- the test
          refine ⟨e1, m', G2, ph', Eo3, I2, ?_⟩
          cases qt : ft e1 m' with
          | bad =>
            rw [qt] at h'
            exact h'.elim
          | exc c pp mm =>
            rw [qt] at h'
            exact Post.shift X02 h'
          | ok b m3 =>
            rw [qt] at h'
            intro G3 ph3 H3 I3 X3
            obtain ⟨b1, b2, b3⟩ := X3.apart a1 a2 a3
            have X03 := X02.trans X3
            have rr3 := RepL.mono X3.g X3.p _ _ rr2
            cases b with
            | false =>
              refine iteF ⟨m3, G3, ph3, acc, vs, I3, X03, s1.trans (X2.g.trans X3.g), p1.trans (X2.p.trans X3.p), b1, b2, b3, rr3, h'⟩
            | true =>
              refine iteT ⟨e1, m3, G3, ph3, Eo3.mono X3.g X3.p, I3, ?_⟩
              cases qe : fe e1 m3 with
              | bad =>
                simp only [bind_ok, if_true, qe] at h'
                exact h'.elim
              | exc c pp mm =>
                simp only [bind_ok, if_true, qe] at h'
                exact Post.shift X03 h'
              | ok yd m4 =>
                simp only [bind_ok, if_true, qe] at h'
                intro G4 ph4 H4 I4 X4 w rw'
                obtain ⟨c1, c2, c3⟩ := X4.apart b1 b2 b3
                have X04 := X03.trans X4
                by_cases hl : acc.length < 1000000
                · rw [if_pos hl] at h'
                  refine ⟨vs, c1, by rw [rr3.length]; exact Nat.lt_of_lt_of_le hl (small_line (Nat.le_refl _)), ?_⟩
                  exact ⟨m4, G4, ph4, acc ++ [yd], vs ++ [w], I4.side c2 c3 _, X04.side hD0 _, s1.trans (X2.g.trans (X3.g.trans X4.g)), p1.trans (X2.p.trans (X3.p.trans X4.p)), upd_same, c2, c3, (RepL.mono X4.g X4.p _ _ rr3).append (RepL.one rw'), h'⟩
                · rw [if_neg hl] at h'
                  exact h'.elim
      · rw [if_neg hgd] at h'
        exact h'.elim
    · have e0 : i = p.ds.length := by omega
      subst e0
      rw [List.drop_length] at h'
      unfold compD at h'
      by_cases hgd : p.gd m' = true
      · rw [if_pos hgd] at h'
        exact .inl ⟨ok.stops m' G' ph' H' I' s1 p1 hgd, fin acc m' G' ph' H' vs Dl I' X' hD0 d1 d2 d3 rr h'⟩
      · rw [if_neg hgd] at h'
        exact h'.elim
theorem compF_w {tg : Expr} {X' : Cx} {g : TG} {gd : GDen} {ix own : List Nat} {fi : IDen} {ft : TDen} {fe : EDen} (hg : TgOk X' C tg g gd ix) (hown : ∀ i ∈ ix, i ∈ own) {σ : St} {H : Hp} {Q : VK} (h : tE C (eComp fi gd ft fe own) σ H Q) : tLc (tI C fi) g (tT C ft) (tE C fe) own σ H Q := by
  obtain ⟨e, m, G, ph, Eo, I, h⟩ := h
  have h : Post C G ph H (fun d _ G' ph' H' => ∀ v, RepV C.K G' ph' d v → Q v H') ((fi e m).bind fun p m1 => (compD p.gd gd ft fe (wipeD e own) p.ds m1 []).bind fun ds m2 => (Res.ok (D.lst ds) m2 : Res D)) := h
  exact comp_w (β := D) (k := fun ds m2 => Res.ok (D.lst ds) m2) hg hown Eo I h fun ds m1 G1 ph1 H1 vs Dl I1 X1 h0 d1 d2 d3 rr h1 =>
    h1 _ _ _ (I1.adopt d1 d2 d3) (X1.adopt h0 d2 _) _ ⟨Dl, vs, rfl, upd_same, RepL.mono (same_upd d2) (Pre.refl _) _ _ rr⟩
theorem compN_w {tg : Expr} {X' : Cx} {g : TG} {gd : GDen} {ix own : List Nat} {fi : IDen} {ft : TDen} {fe : EDen} (hg : TgOk X' C tg g gd ix) (hown : ∀ i ∈ ix, i ∈ own) {σ : St} {H : Hp} {Q : VK} (h : tE C (eCompN fi gd ft fe own) σ H Q) : tLc (tI C fi) g (tT C ft) (tE C fe) own σ H Q := by
  obtain ⟨e, m, G, ph, Eo, I, h⟩ := h
  have h : Post C G ph H (fun d _ G' ph' H' => ∀ v, RepV C.K G' ph' d v → Q v H') ((fi e m).bind fun p m1 => (compD p.gd gd ft fe (wipeD e own) p.ds m1 []).bind fun ds m2 => (Res.ok (D.ref m2.length) (m2 ++ [MO.lst ds]) : Res D)) := h
  exact comp_w (β := D) (k := fun ds m2 => Res.ok (D.ref m2.length) (m2 ++ [MO.lst ds])) hg hown Eo I h fun ds m1 G1 ph1 H1 vs Dl I1 X1 h0 d1 d2 d3 rr h1 =>
    h1 _ _ _ (I1.adoptCell d1 d2 d3 rr) (X1.adoptCell h0) _ ⟨Dl, rfl, ref_last ph1 Dl I1.len⟩
abbrev PTD (X : Cx) (C : Cn) (ifs : List Expr) (f : TDen) : Prop := PTs X ifs (tT C f)
theorem dts_nil : PTD X C [] tYesD := ⟨fun pins s σ H Q I h => pts_nil.run pins s σ H Q I (by
  obtain ⟨e, m, G, ph, Eo, I, h⟩ := h
  exact h.here I)⟩
theorem dts_one {c : Expr} {f : TDen} (h : DT X C c f) : PTD X C [c] f := pts_one h
theorem de_comp {elt tg iter : Expr} {ifs : List Expr} {scope : Scope} {own : List (Str × Nat)} {pos : Pos} {g : TG} {gd : GDen} {ix : List Nat} {fi : IDen} {ft : TDen} {fe : EDen} (hc : X.calm = true) (hN : X.N.Nodup) (hi : DI X C tg iter fi) (ok : BlkOk X.N X.env.scope scope own)
    (hg : ∀ (s : Shared) (H : Hp) (A : Addr) (cl : List (Str × Addr)) (fp : List Addr), TgOk (X.blk s H scope (compEnvC scope cl A X.env) fp) C tg g gd ix) (ht : ∀ (s : Shared) (H : Hp) (A : Addr) (cl : List (Str × Addr)) (fp : List Addr), PTD (X.blk s H scope (compEnvC scope cl A X.env) fp) C ifs ft)
    (he : ∀ (s : Shared) (H : Hp) (A : Addr) (cl : List (Str × Addr)) (fp : List Addr), DE (X.blk s H scope (compEnvC scope cl A X.env) fp) C elt fe) (ho : ∀ i ∈ ix, i ∈ own.map (·.2) := by decide) (s0 : Shared) (H0 : Hp) (hs : ∀ x, foldedSetIterable iter X.env x = pure x := by intro _; rfl) :
    DE X C (.ListComp elt [⟨tg, iter, ifs, 0⟩] scope pos) (eComp fi gd ft fe (own.map (·.2))) :=
  pe_weak (pe_lc hc hN hi ok (fun s H A cl fp => (hg s H A cl fp).pg) ht he hs) fun σ H Q q => compF_w (hg s0 H0 0 [] []) ho q
theorem de_compN {elt tg iter : Expr} {ifs : List Expr} {scope : Scope} {own : List (Str × Nat)} {pos : Pos} {g : TG} {gd : GDen} {ix : List Nat} {fi : IDen} {ft : TDen} {fe : EDen} (hc : X.calm = true) (hN : X.N.Nodup) (hi : DI X C tg iter fi) (ok : BlkOk X.N X.env.scope scope own)
    (hg : ∀ (s : Shared) (H : Hp) (A : Addr) (cl : List (Str × Addr)) (fp : List Addr), TgOk (X.blk s H scope (compEnvC scope cl A X.env) fp) C tg g gd ix) (ht : ∀ (s : Shared) (H : Hp) (A : Addr) (cl : List (Str × Addr)) (fp : List Addr), PTD (X.blk s H scope (compEnvC scope cl A X.env) fp) C ifs ft)
    (he : ∀ (s : Shared) (H : Hp) (A : Addr) (cl : List (Str × Addr)) (fp : List Addr), DE (X.blk s H scope (compEnvC scope cl A X.env) fp) C elt fe) (ho : ∀ i ∈ ix, i ∈ own.map (·.2) := by decide) (s0 : Shared) (H0 : Hp) (hs : ∀ x, foldedSetIterable iter X.env x = pure x := by intro _; rfl) :
    DE X C (.ListComp elt [⟨tg, iter, ifs, 0⟩] scope pos) (eCompN fi gd ft fe (own.map (·.2))) :=
  pe_weak (pe_lc hc hN hi ok (fun s H A cl fp => (hg s H A cl fp).pg) ht he hs) fun σ H Q q => compN_w (hg s0 H0 0 [] []) ho q
/-- x = [..] -/
theorem ds_setComp {i : Nat} {y : Str} {py : Pos} {elt tg iter : Expr} {ifs : List Expr} {scope : Scope} {own : List (Str × Nat)} {pos spos : Pos} {g : TG} {gd : GDen} {ix : List Nat} {fi : IDen} {ft : TDen} {fe : EDen} (hc : X.calm = true) (hN : X.N.Nodup) (hy : X.N[i]? = some y) (hyl : X.env.scope.names.lookup y = some .local)
    (hsw : swapsWith (.ListComp elt [⟨tg, iter, ifs, 0⟩] scope pos) (some (.Name y py)) spos.line X.env = pure true) (hi : DI X C tg iter fi) (ok : BlkOk X.N X.env.scope scope own)
    (hg : ∀ (s : Shared) (H : Hp) (A : Addr) (cl : List (Str × Addr)) (fp : List Addr), TgOk (X.blk s H scope (compEnvC scope cl A X.env) fp) C tg g gd ix) (ht : ∀ (s : Shared) (H : Hp) (A : Addr) (cl : List (Str × Addr)) (fp : List Addr), PTD (X.blk s H scope (compEnvC scope cl A X.env) fp) C ifs ft)
    (he : ∀ (s : Shared) (H : Hp) (A : Addr) (cl : List (Str × Addr)) (fp : List Addr), DE (X.blk s H scope (compEnvC scope cl A X.env) fp) C elt fe) (ho : ∀ i ∈ ix, i ∈ own.map (·.2) := by decide) (s0 : Shared) (H0 : Hp) (hs : ∀ x, foldedSetIterable iter X.env x = pure x := by intro _; rfl) :
    DS X C (.Assign [.Name y py] (.ListComp elt [⟨tg, iter, ifs, 0⟩] scope pos) spos) (sAsg (gV i) (eComp fi gd ft fe (own.map (·.2)))) :=
  ps_weak (ps_setLc hc hN hy hyl hsw hi ok (fun s H A cl fp => (hg s H A cl fp).pg) ht he hs) fun D' σ H q => by
    have q2 := asg_w (tg_name (X := X) (pos := py) hN hy (.inl hyl) (.inr hyl)) q
    exact compF_w (hg s0 H0 0 [] []) ho q2
theorem ds_setCompN {i : Nat} {y : Str} {py : Pos} {elt tg iter : Expr} {ifs : List Expr} {scope : Scope} {own : List (Str × Nat)} {pos spos : Pos} {g : TG} {gd : GDen} {ix : List Nat} {fi : IDen} {ft : TDen} {fe : EDen} (hc : X.calm = true) (hN : X.N.Nodup) (hy : X.N[i]? = some y) (hyl : X.env.scope.names.lookup y = some .local)
    (hsw : swapsWith (.ListComp elt [⟨tg, iter, ifs, 0⟩] scope pos) (some (.Name y py)) spos.line X.env = pure true) (hi : DI X C tg iter fi) (ok : BlkOk X.N X.env.scope scope own)
    (hg : ∀ (s : Shared) (H : Hp) (A : Addr) (cl : List (Str × Addr)) (fp : List Addr), TgOk (X.blk s H scope (compEnvC scope cl A X.env) fp) C tg g gd ix) (ht : ∀ (s : Shared) (H : Hp) (A : Addr) (cl : List (Str × Addr)) (fp : List Addr), PTD (X.blk s H scope (compEnvC scope cl A X.env) fp) C ifs ft)
    (he : ∀ (s : Shared) (H : Hp) (A : Addr) (cl : List (Str × Addr)) (fp : List Addr), DE (X.blk s H scope (compEnvC scope cl A X.env) fp) C elt fe) (ho : ∀ i ∈ ix, i ∈ own.map (·.2) := by decide) (s0 : Shared) (H0 : Hp) (hs : ∀ x, foldedSetIterable iter X.env x = pure x := by intro _; rfl) :
    DS X C (.Assign [.Name y py] (.ListComp elt [⟨tg, iter, ifs, 0⟩] scope pos) spos) (sAsg (gV i) (eCompN fi gd ft fe (own.map (·.2)))) :=
  ps_weak (ps_setLc hc hN hy hyl hsw hi ok (fun s H A cl fp => (hg s H A cl fp).pg) ht he hs) fun D' σ H q => by
    have q2 := asg_w (tg_name (X := X) (pos := py) hN hy (.inl hyl) (.inr hyl)) q
    exact compN_w (hg s0 H0 0 [] []) ho q2

/-! ## stores to attributes, items, dicts -/
def putFD (f : Str) (d : D) : List (Str × D) → List (Str × D)
  | [] => [(f, d)]
  | (g, x) :: r => if g = f then (g, d) :: r else (g, x) :: putFD f d r
theorem putF_rep {K : PySem.W.Frag} {G : Hp} {ph : List Addr} {f : Str} {d : D} {v : V} (rv : RepV K G ph d v) : ∀ {fs : List (Str × D)} {gs : List (Str × V)}, gs.map (·.1) = fs.map (·.1) → RepL K G ph (fs.map (·.2)) (gs.map (·.2)) →
    (putF f v gs).map (·.1) = (putFD f d fs).map (·.1) ∧ RepL K G ph ((putFD f d fs).map (·.2)) ((putF f v gs).map (·.2))
  | [], [], _, _ => ⟨rfl, v, [], rfl, rv, rfl⟩
  | [], _ :: _, e, _ => by cases e
  | _ :: _, [], e, _ => by cases e
  | (g, x) :: fs, (g', y) :: gs, e, r => by
    have e1 : g' = g := (List.cons.inj e).1
    have e2 : gs.map (·.1) = fs.map (·.1) := (List.cons.inj e).2
    obtain ⟨w, t, q, r1, r2⟩ := r
    have q1 : y = w := (List.cons.inj q).1
    have q2 : gs.map (·.2) = t := (List.cons.inj q).2
    subst e1 q1 q2
    obtain ⟨i1, i2⟩ := putF_rep rv (f := f) e2 r2
    by_cases c : g' = f
    · have h1 : putF f v ((g', y) :: gs) = (g', v) :: gs := if_pos c
      have h2 : putFD f d ((g', x) :: fs) = (g', d) :: fs := if_pos c
      rw [h1, h2]
      exact ⟨by rw [List.map_cons, List.map_cons, e2], v, _, rfl, rv, r2⟩
    · have h1 : putF f v ((g', y) :: gs) = (g', y) :: putF f v gs := if_neg c
      have h2 : putFD f d ((g', x) :: fs) = (g', x) :: putFD f d fs := if_neg c
      rw [h1, h2]
      exact ⟨by rw [List.map_cons, List.map_cons, i1], y, _, rfl, r1, i2⟩
/-- o.f = e -/
def sFldD (c f : Str) (fo fe : EDen) : SDen := fun e m => (fe e m).bind fun d m1 => (fo e m1).bind fun x m2 => match x with
  | .ref n => match m2[n]? with
    | some (.ins c' fs) => if c' = c ∧ fs.length < 1000 then .ok (.nx e) (m2.set n (.ins c' (putFD f d fs))) else .bad
    | _ => .bad
  | _ => .bad
theorem ds_fld {o value : Expr} {f : Str} {pos pos' : Pos} {fo fe : EDen} (c : Str) (ho : DE X C o fo) (hv : DE X C value fe) (cl : Cls X.K (C.cl c)) (na : NoAttr X.K (C.cl c) f) (hs : swapsWith value (some (.Attribute o f pos')) pos.line X.env = pure false := by rfl) : DS X C (.Assign [.Attribute o f pos'] value pos) (sFldD c f fo fe) :=
  ps_weak (ps_fld ho hv hs) fun D' σ H ⟨e, m, G, ph, Eo, I, h⟩ => goE Eo I h fun d m1 G1 ph1 H1 v Eo1 I1 X1 r1 h1 => goE Eo1 I1 h1 fun x m2 G2 ph2 H2 u Eo2 I2 X2 r2 h2 => by
    cases x with
    | ref n =>
      obtain ⟨a, rfl, q⟩ := r2
      cases z : m2[n]? with
      | none =>
        simp only [z] at h2
        exact h2.elim
      | some mo =>
        cases mo with
        | ins c' fs =>
          simp only [z] at h2
          by_cases hc : c' = c ∧ fs.length < 1000
          · rw [if_pos hc] at h2
            obtain ⟨hc1, hc2⟩ := hc
            subst hc1
            obtain ⟨dx, gs, ha, e1, rr⟩ := cellIns I2 q z
            have hl : gs.length = fs.length := by
              have := congrArg List.length e1
              rwa [List.length_map, List.length_map] at this
            refine ⟨a, C.cl c', dx, gs, rfl, ha, cl, na, by rw [hl]; exact hc2, ?_⟩
            obtain ⟨p1, p2⟩ := putF_rep (f := f) (RepV.mono X2.g X2.p _ _ r1) e1 rr
            obtain ⟨I4, X4⟩ := I2.write q z (by intro z; cases z) (.ins (C.cl c') dx (putF f v gs)) (mo' := .ins c' (putFD f d fs)) ⟨dx, _, upd_same, p1, p2⟩
            exact h2 _ _ _ I4 X4 σ (Eo2.mono X4.g X4.p)
          · rw [if_neg hc] at h2
            exact h2.elim
        | _ =>
          simp only [z] at h2
          exact h2.elim
    | _ => exact h2.elim
/-- o[i] = e, a list -/
def sSetL (fo fi fe : EDen) : SDen := fun e m => (fe e m).bind fun d m1 => (fo e m1).bind fun x m2 => (fi e m2).bind fun y m3 => match dOwn m3 x, y with
  | some (n, ds), .int k => match ixN ds.length k with
    | some j => .ok (.nx e) (m3.set n (.lst (ds.set j d)))
    | none => .bad
  | _, _ => .bad
theorem ds_setL {o i value : Expr} {pos pos' : Pos} {fo fi fe : EDen} (hv : DE X C value fe) (ho : DE X C o fo) (hi : DE X C i fi)
    (ha : ∀ v, assign (.Subscript o i pos') X.env v = (do
      let ov ← holding [v] (eval o X.env)
      let iv ← holding [v, ov] (eval i X.env)
      standAt pos'
      holding [v, ov, iv] (setItem ov iv v)
      release [v, ov, iv] []) := by intro _; rfl)
    (hs : swapsWithSole [.Subscript o i pos'] value pos.line X.env = pure false := by rfl) (hw : swappedStores [.Subscript o i pos'] value X.env = pure none := by rfl) (h1 : (assignEach [.Subscript o i pos'] X.env).map (·.2) = [assign (.Subscript o i pos') X.env] := by rfl) :
    DS X C (.Assign [.Subscript o i pos'] value pos) (sSetL fo fi fe) :=
  ps_weak (ps_asg hv (pg_sub ho hi set_list ha) hs hw h1) fun D' σ H ⟨e, m, G, ph, Eo, I, h⟩ => goE Eo I h fun d m1 G1 ph1 H1 v Eo1 I1 X1 r1 h1 => goE Eo1 I1 h1 fun x m2 G2 ph2 H2 u Eo2 I2 X2 r2 h2 => goE Eo2 I2 h2 fun y m3 G3 ph3 H3 w Eo3 I3 X3 r3 h3 => by
    cases q : dOwn m3 x with
    | none =>
      simp only [q] at h3
      exact h3.elim
    | some p =>
      obtain ⟨n, ds⟩ := p
      cases y with
      | int k =>
        simp only [q] at h3
        cases qj : ixN ds.length k with
        | none =>
          rw [qj] at h3
          exact h3.elim
        | some j =>
          rw [qj] at h3
          obtain ⟨a, us, rfl, hp, hm, ha, rr⟩ := dOwn_rep I3 q (RepV.mono X3.g X3.p _ _ r2)
          refine ⟨a, us, k, j, rfl, r3, ha, by rw [rr.length]; exact qj, ?_⟩
          obtain ⟨I4, X4⟩ := I3.write hp hm (by intro z; cases z) (.lst (us.set j v)) (mo' := .lst (ds.set j d)) ⟨_, upd_same, rr.set (RepV.mono (X2.g.trans X3.g) (X2.p.trans X3.p) _ _ r1)⟩
          exact h3 _ _ _ I4 X4 σ (Eo3.mono X4.g X4.p)
      | _ =>
        simp only [q] at h3
        exact h3.elim
/-- d[k] = e -/
def sPutD (fd fk fe : EDen) : SDen := fun e m => (fe e m).bind fun d m1 => (fd e m1).bind fun x m2 => (fk e m2).bind fun y m3 => match dDict m3 x, keyD y with
  | some (n, kvs), some k => if kvs.length < 1000000 then .ok (.nx e) (m3.set n (.dct (putD kvs k d))) else .bad
  | _, _ => .bad
theorem ds_putD {o i value : Expr} {pos pos' : Pos} {fd fk fe : EDen} (hu : X.A.units + 1 < cLine) (hv : DE X C value fe) (ho : DE X C o fd) (hi : DE X C i fk) (hs : swapsWith value (some (.Subscript o i pos')) pos.line X.env = pure false := by rfl) :
    DS X C (.Assign [.Subscript o i pos'] value pos) (sPutD fd fk fe) :=
  ps_weak (ps_dput hu ho hi hv hs) fun D' σ H ⟨e, m, G, ph, Eo, I, h⟩ => goE Eo I h fun d m1 G1 ph1 H1 v Eo1 I1 X1 r1 h1 => goE Eo1 I1 h1 fun x m2 G2 ph2 H2 u Eo2 I2 X2 r2 h2 => goE Eo2 I2 h2 fun y m3 G3 ph3 H3 w Eo3 I3 X3 r3 h3 => by
    cases q : dDict m3 x with
    | none =>
      simp only [q] at h3
      exact h3.elim
    | some p =>
      obtain ⟨n, kvs⟩ := p
      cases qk : keyD y with
      | none =>
        simp only [q, qk] at h3
        exact h3.elim
      | some k =>
        simp only [q, qk] at h3
        obtain ⟨a, kv, rfl, hp, hm, ha, rr⟩ := dDict_rep I3 q (RepV.mono X3.g X3.p _ _ r2)
        have ek := keyD_rep qk r3
        subst ek
        by_cases c : kvs.length < 1000000
        · rw [if_pos c] at h3
          have rp := rr.put (k := k) (RepV.mono (X2.g.trans X3.g) (X2.p.trans X3.p) _ _ r1)
          obtain ⟨I4, X4⟩ := I3.write hp hm (by intro z; cases z) (.dK (putK kv k v)) (mo' := .dct (putD kvs k d)) ⟨_, upd_same, rp.1, rp.2⟩
          exact ⟨a, _, rfl, DPut.k ha (by rw [rr.length]; exact Nat.lt_of_lt_of_le c (small_line (Nat.le_refl _))), h3 _ _ _ I4 X4 σ (Eo3.mono X4.g X4.p)⟩
        · rw [if_neg c] at h3
          exact h3.elim

/-! ## own methods, new instances -/
def eOwn (c name : Str) (n : Nat) (den : List D → Mem → Res D) (fo : EDen) (fa : ADen) : EDen := fun e m => (fo e m).bind fun x m1 => match x with
  | .ref k => match m1[k]? with
    | some (.ins c' fs) => if c' = c ∧ lookF name fs = none then (fa e m1).bind fun ds m2 => (if ds.length + 1 = n then den (.ref k :: ds) m2 else .bad) else .bad
    | _ => .bad
  | _ => .bad
theorem own_w {c name : Str} {n : Nat} {den : List D → Mem → Res D} {fo : EDen} {fa : ADen} {σ : St} {H : Hp} {Q : VK} (h : tE C (eOwn c name n den fo fa) σ H Q) : tMeth (C.cl c) name (spD C n den) [] C.E (tE C fo) (tA C fa) σ H Q := by
  obtain ⟨e, m, G, ph, Eo, I, h⟩ := h
  refine goE Eo I h fun x m1 G1 ph1 H1 v Eo1 I1 X1 r1 h1 => ?_
  cases x with
  | ref k =>
    obtain ⟨a, rfl, q⟩ := r1
    cases z : m1[k]? with
    | none =>
      simp only [z] at h1
      exact h1.elim
    | some mo =>
      cases mo with
      | ins c' fs =>
        simp only [z] at h1
        by_cases hc : c' = c ∧ lookF name fs = none
        · rw [if_pos hc] at h1
          obtain ⟨hc1, hc2⟩ := hc
          subst hc1
          obtain ⟨dx, gs, ha, e1, rr⟩ := cellIns I1 q z
          refine ⟨a, dx, gs, rfl, ha, (look_rep e1 rr).2 hc2, goA Eo1 I1 h1 fun ds m2 G2 ph2 H2 vs Eo2 I2 X2 r2 h2 => ?_⟩
          by_cases hl : ds.length + 1 = n
          · rw [if_pos hl] at h2
            refine ⟨rfl, .ref k :: ds, m2, G2, ph2, hl, I2, ?_, h2⟩
            rw [List.append_nil]
            exact RepL.cons ⟨a, rfl, X2.p _ _ q⟩ r2
          · rw [if_neg hl] at h2
            exact h2.elim
        · rw [if_neg hc] at h1
          exact h1.elim
      | _ =>
        simp only [z] at h1
        exact h1.elim
  | _ => exact h1.elim
theorem aNil_w {σ : St} {H : Hp} {Q : List V → Hp → Prop} (h : tA C aNil σ H Q) : tNil σ H Q := by
  obtain ⟨e, m, G, ph, Eo, I, h⟩ := h
  exact Post.here h I [] rfl
/-- C(..) -/
def eMake (c : Str) (n : Nat) (den : List D → Mem → Res D) (fa : ADen) : EDen := fun e m => (fa e m).bind fun ds m1 => if ds.length + 1 = n then (den (.ref m1.length :: ds) (m1 ++ [.ins c []])).bind fun d m2 => (match d with
  | .non => .ok (.ref m1.length) m2
  | _ => .bad) else .bad
theorem make_w {c : Str} {n : Nat} {den : List D → Mem → Res D} {fa : ADen} {σ : St} {H : Hp} {Q : VK} (h : tE C (eMake c n den fa) σ H Q) : tMake (C.cl c) (spD C n den) [] C.E (tA C fa) σ H Q := by
  obtain ⟨e, m, G, ph, Eo, I, h⟩ := h
  refine goA Eo I h fun ds m1 G1 ph1 H1 vs Eo1 I1 X1 r1 h1 => ?_
  intro x dx hx hdx ne
  by_cases hl : ds.length + 1 = n
  · rw [if_pos hl] at h1
    have hs : Same H1 (upd (upd H1 dx (.own x)) x (.ins (C.cl c) dx [])) := fun b o e => by
      rw [upd_ne (ne_of_none e hx), upd_ne (ne_of_none e hdx)]
      exact e
    obtain ⟨I2, X2⟩ := I1.cellNew hx hs (by rw [upd_same]; intro z; cases z) (mo := .ins c []) ⟨dx, [], upd_same, rfl, rfl⟩
    refine ⟨rfl, .ref m1.length :: ds, m1 ++ [.ins c []], G1, ph1 ++ [x], hl, I2, ?_, ?_⟩
    · rw [List.append_nil]
      exact RepL.cons ⟨x, rfl, ref_last ph1 x I1.len⟩ (RepL.mono X2.g X2.p _ _ r1)
    · refine (Post.shift X2 h1).bind.mono fun d m3 G3 ph3 H3 ⟨I3, X3, h3⟩ v r => ?_
      cases d with
      | non =>
        have e0 : v = .non := r
        exact ⟨e0, h3.here I3 _ ⟨x, rfl, X3.p _ _ (ref_last ph1 x I1.len)⟩⟩
      | _ => exact h3.elim
  · rw [if_neg hl] at h1
    exact h1.elim
end
end DL

/-! enumerate of a tuple: the same machine as for a list, over the tuple's own iterator -/
namespace DLE
open PySem
open AutoSeq1 (wpAny_loadPart')
def itO (t : Addr) : Obj := { cls := .type "tuple_iterator", data := .fields #[.ref t, .int 0 0] }
def enO (i : Addr) : Obj := { cls := .type "enumerate", data := .fields #[.none, .bool false, .ref i, rawInt 0, .none, .none] }
def twoO (h : Heap) (t : Addr) : Heap := (h.push (itO t)).push (enO h.objs.size)
theorem make_meets (t : Addr) (its : Array Value) (k : Nat) (dd : Option Addr) (sl : Array (Option Value)) :
    Meets (Builtin.«enumerate.__new__» ⟨[.type "enumerate", .ref t], []⟩) (fun _ R s => s.heap.get? t = some ⟨.type "tuple", dd, .seq its k, sl⟩ ∧
      R (.ok (.ret (.ref (s.heap.push (itO t)).objs.size))) { s with heap := twoO s.heap t }) := .of_wp fun pr wd A R s hh => by
  obtain ⟨hp, g, d, tk, os⟩ := s
  obtain ⟨ht, hr⟩ := hh
  have sb := sub_enumerate
  have hT : Heap.IsTuple (Shared.heap ⟨hp, g, d, tk, os⟩) t its := ⟨_, ht, rfl, k, rfl⟩
  wp_walk using wpAny_loadPart' ht
  refine wpAny_stack_any (fun st => wpAny_pure ?_)
  split
  · rename_i c _ _ _ _ _
    cases (c == Value.type "enumerate")
    all_goals (wp_walk using wpAny_loadPart' ht, wpAny_pyIter_tuple hT; exact ⟨_, rfl, hr⟩)
  · wp_walk using wpAny_loadPart' ht, wpAny_pyIter_tuple hT
    exact ⟨_, rfl, hr⟩
theorem made {pr : Program} {wd : World} {A : Around} {E : Value → Shared → Prop} {s : Shared} {t : Addr} {its : Array Value} {Q : Value → Shared → Prop} (hT : s.heap.IsTuple t its)
    (k : ∀ h2, IsEnum h2 (s.heap.objs.size + 1) s.heap.objs.size 0 .none ∧ h2.IsTupleIter s.heap.objs.size t 0 ∧ (∀ b o, s.heap.get? b = some o → h2.get? b = some o) → Q (.ref (s.heap.objs.size + 1)) { s with heap := h2 }) :
    wpAny (model pr wd) A (call (.type "enumerate") [.ref t]) Q E s := by
  obtain ⟨⟨c, dd, dt, sl⟩, ht, hc, n, hd⟩ := hT
  obtain rfl : c = .type "tuple" := hc
  obtain rfl : dt = .seq its n := hd
  refine callType_new F.called_enumerate (by decide) (F.typeCall_enumerate_1 _) (F.newCall_enumerate_1 _) (fun ob => F.args_object_init_2 ob _) F.entry_enumerate_new (make_meets t its n dd sl) ⟨ht, ?_⟩
  have sz : (s.heap.push (itO t)).objs.size = s.heap.objs.size + 1 := Heap.size_push _ _
  show _ ∧ _
  rw [sz]
  have e1 : (twoO s.heap t).get? (s.heap.objs.size + 1) = some (enO s.heap.objs.size) := by
    have q := Heap.get?_push_size (s.heap.push (itO t)) (o := enO s.heap.objs.size) rfl
    rwa [sz] at q
  refine ⟨⟨_, e1, rfl⟩, k _ ⟨e1, ⟨itO t, Heap.get?_push_of_some _ (Heap.get?_push_size _ rfl), rfl, rfl⟩, fun b o x => Heap.get?_push_of_some _ (Heap.get?_push_of_some _ x)⟩⟩
end DLE
namespace DL
open PySem L2
/-- the tuple at a, each item in a new pair -/
def ItT (K : PySem.W.Frag) (a : Addr) : It where
  go := fun i H => ∃ xs x, SqT K H a xs ∧ xs[i]? = some x
  yld := fun i H v H' => ∃ T x, v = .ref T ∧ H T = none ∧ H' = upd H T (.tup [.int (i : Nat), x]) ∧ ∀ xs, SqT K H a xs → xs[i]? = some x
  stop := fun i H => ∃ xs, SqT K H a xs ∧ xs.length = i
theorem one_of2 {b e i : Addr} (h : b ∈ [e, i]) : b = e ∨ b = i := by simpa using h
theorem turnT {P : Program} {w : World} {K : PySem.W.Frag} {elts : List Expr} {kk : Nat} {tpos : Pos} (a e it : Addr) :
    Turn P w K (.Tuple elts kk tpos) (ItT K a) [e, it] e (fun i h => (∃ old, IsEnum h e it ((i : Nat) : Int) old) ∧ h.IsTupleIter it a i ∧ e ≠ it ∧ a ≠ it ∧ e ≠ a) where
  mem := List.mem_cons_self
  obj := fun i h ⟨⟨old, he⟩, ⟨o, ho, hc, hd⟩, _⟩ b hb => by
    rcases one_of2 hb with rfl | rfl
    · exact ⟨_, he, fun v q => nomatch q⟩
    · refine ⟨o, ho, fun v q => ?_⟩
      rw [hd] at q
      cases q
  keep := fun i h h' ⟨⟨old, he⟩, hi, n1, n2, n3⟩ k => ⟨⟨old, k e List.mem_cons_self _ he⟩, hi.at fun o q => k it (by simp) o q, n1, n2, n3⟩
  item := fun X hP hw hK hc i pins s σ H E I hf ⟨⟨old, he⟩, hit, n1, n2, n3⟩ ⟨xs, x, hq, hx⟩ => by
    subst hP hw hK
    obtain ⟨its, rv, tp, hz⟩ := I.tuple hq
    obtain ⟨u, hu, ru⟩ := rv.get hx
    have se : e < s.heap.objs.size := Heap.lt_size he
    have si : it < s.heap.objs.size := let ⟨_, q, _⟩ := hit; Heap.lt_size q
    have hi : i < its.toArray.size := by
      have := (List.getElem?_eq_some_iff.mp hu).1
      simpa using this
    have hd : X.A.in1.handled = none := I.ok.hd hc
    refine wpAny_pyNext_enum_itemD (Draws.tuple hd it a n2 its.toArray) he ⟨hit, tp⟩ hi n1 (fun z => (one_of2 z).elim n1 n3) fun u' h1 tk pu out st1 hT sz k1 => ?_
    have hu' : its.toArray[i]? = some u' := pu
    have eu : u' = u := by
      have hu2 : its.toArray[i]? = some u := by simpa using hu
      rw [hu2] at hu'
      exact (Option.some.inj hu').symm
    subst eu
    refine ⟨_, rfl, wpAny_letOwnedTupleGo_enum (s := ⟨h1, s.gens, s.drawn, tk + 1, s.os⟩) out fun h2 he2 sb => ?_⟩
    have hT2 : h2.get? s.heap.objs.size = some ⟨.type "tuple", none, .seq #[.int i tk, u'] 0, #[]⟩ := (sb.2 _ (Nat.ne_of_gt se)).trans hT
    have nw : ObjOk X.prog X.w (upd H s.heap.objs.size (.tup [.int (i : Nat), x])) h2 s.heap.objs.size (.tup [.int (i : Nat), x]) := by
      refine ⟨small_line (by rw [List.length_cons, List.length_singleton]; omega), [.int i tk, u'], .cons ⟨_, rfl⟩ (.cons ru .nil), _, hT2, rfl, _, rfl⟩
    have kk : ∀ b o, b ∉ [e, it] → s.heap.get? b = some o → h2.get? b = some o := fun b o hb q => by
      have b1 : b ≠ e := fun z => hb (by rw [z]; exact List.mem_cons_self)
      have b2 : b ≠ it := fun z => hb (by rw [z]; simp)
      exact (sb.2 b b1).trans (k1 b o b1 b2 q)
    have I2 := I.turnedNew (t' := tk + 1) kk hf (Nat.le_refl _) nw
    refine ⟨.ref s.heap.objs.size, _, I2, rfl, ⟨_, x, rfl, I.hok.fresh (Nat.le_refl _), rfl, fun ys hy => ?_⟩, ⟨⟨u', ?_⟩, st1.1.at fun o q => (sb.2 it (Ne.symm n1)).trans q, n1, n2, n3⟩, fun b hb => ?_⟩
    · rw [I.tuple_inj hy hq]
      exact hx
    · have z : ((i + 1 : Nat) : Int) = (i : Int) + 1 := by omega
      rw [z]
      exact he2
    · have lt : b < s.heap.objs.size := (one_of2 hb).elim (fun z => by rw [z]; exact se) fun z => by rw [z]; exact si
      rw [upd_ne (Nat.ne_of_lt lt)]
      exact (hf b hb).1
  done := fun X hP hw hK hc i pins s σ H E I hf ⟨⟨old, he⟩, hit, n1, n2, n3⟩ ⟨xs, hq, hx⟩ => by
    subst hP hw hK
    obtain ⟨its, rv, tp, hz⟩ := I.tuple hq
    obtain ⟨f0, f1, f2, f3, f4, f5⟩ := hf it (by simp)
    have hd : X.A.in1.handled = none := I.ok.hd hc
    have hl := rv.length
    have sz : its.toArray.size = i := by
      rw [List.size_toArray, ← hl]
      exact hx
    subst sz
    exact wpAny_pyNext_enum_endD (Draws.tuple hd it a n2 its.toArray) he ⟨hit, tp⟩ fun h' eb => ⟨rfl, I.turned (t' := s.toks) (fun b o hb q => eb b o hb q) f0 f1 f3 f4 f5⟩
  self := fun A i s Q E ⟨⟨_, he⟩, _⟩ h => wpAny_pyIter_enum he h
def iEnumT (K : PySem.W.Frag) (ta : TA) : TI := fun σ H R => ta σ H fun vs H1 => ∃ a xs, vs = [V.ref a] ∧ SqT K H1 a xs ∧ R (ItT K a) H1
open PyProof.Rows in
theorem pi_enumT {X : Cx} {e : Expr} {ta : TA} {p pos tpos : Pos} {elts : List Expr} {kk : Nat} (hg : Gl X "enumerate") (hm : X.mg "enumerate" = none) (ha : PA X [e] ta) (hs : starEach [e] X.env = [(false, eval e X.env)] := by rfl) :
    PI X (.Tuple elts kk tpos) (.Call (.Name "enumerate" p) [e] [] pos) (iEnumT X.K ta) := ⟨fun pins s σ H R I h => by
  refine Call_ (ld_blt I hg hm PyProof.Rows.boot_enumerate (PyProof.Rows.callWith_type1 (thn (ha.run pos pins s σ H _ I h) fun us s1 q0 => ?_) hs rfl))
  obtain ⟨vs, H1, I1, r1, a, xs, rfl, hq, q⟩ := q0
  obtain ⟨u, rfl, r⟩ := vals1 r1
  obtain rfl : u = Value.ref a := r
  obtain ⟨its, rv, tp, hz⟩ := I1.tuple hq
  have la : a < s1.heap.objs.size := let ⟨_, w, _⟩ := tp; Heap.lt_size w
  refine DLE.made tp fun h2 ⟨he, hit, hk⟩ => wpAny_pyIter_enum he ?_
  have I2 : Inv X pins σ H1 { s1 with heap := h2 } := I1.kept (t' := s1.toks) hk
  refine ⟨s1.heap.objs.size + 1, [s1.heap.objs.size + 1, s1.heap.objs.size], _, _, H1, rfl, I2, turnT a (s1.heap.objs.size + 1) s1.heap.objs.size, ⟨⟨.none, he⟩, hit, Nat.succ_ne_self _, Nat.ne_of_lt la, Nat.ne_of_gt (Nat.lt_succ_of_lt la)⟩, fun b hb => ?_, q⟩
  have ge : s1.heap.objs.size ≤ b := (one_of2 hb).elim (fun z => by rw [z]; exact Nat.le_succ _) fun z => by rw [z]; exact Nat.le_refl _
  exact I1.fpOk ge (I1.hok.fresh ge)⟩
section
variable {X : Cx} {C : Cn}
def iEnumTD (a : ADen) : IDen := fun e m => (a e m).bind fun xs m1 => match xs with
  | [.tup ds] => .ok ⟨enumD 0 ds, free⟩ m1
  | _ => .bad
theorem di_enumT {elts : List Expr} {kk : Nat} {tpos : Pos} {a : Expr} {f : ADen} {p pos : Pos} (hg : Gl X "enumerate") (hm : X.mg "enumerate" = none) (h : DA X C [a] f) (hK : C.K = X.K := by rfl) (hs : starEach [a] X.env = [(false, eval a X.env)] := by rfl) :
    DI X C (.Tuple elts kk tpos) (.Call (.Name "enumerate" p) [a] [] pos) (iEnumTD f) :=
  pi_weak (pi_enumT hg hm h hs) fun σ H R ⟨e, m, G, ph, Eo, I, h⟩ => goA Eo I h fun xs m1 G1 ph1 H1 vs Eo1 I1 X1 r1 h1 => by
    split at h1
    · rename_i ds
      obtain ⟨v, rfl, r2⟩ := repl1 r1
      obtain ⟨a, us, rfl, q, rr⟩ := r2
      refine ⟨a, us, rfl, by rw [← hK]; exact sqT_mono I1.sub q, h1.here I1 _ ?_⟩
      rw [← hK]
      refine ⟨fun i m G ph H hi I s p g => ?_, fun m G ph H I s p g => ?_, fun i d m G ph H x H' hd I s p g y => ?_⟩
      · have hi' : i < (enumD 0 ds).length := hi
        rw [enumD_length] at hi'
        have hl : i < us.length := by rw [rr.length]; exact hi'
        exact ⟨us, us[i], sqT_mono (s.trans I.sub) q, List.getElem?_eq_getElem hl⟩
      · refine ⟨us, sqT_mono (s.trans I.sub) q, ?_⟩
        show us.length = (enumD 0 ds).length
        rw [enumD_length, rr.length]
      · obtain ⟨T, z, rfl, hT, rfl, y⟩ := y
        obtain ⟨d0, hd0, rfl⟩ := enumD_get (show (enumD 0 ds)[i]? = some d from hd)
        obtain ⟨u, hu, ru⟩ := rr.get hd0
        have e := y us (sqT_mono (s.trans I.sub) q)
        rw [hu] at e
        cases e
        rw [Nat.zero_add]
        exact pair_new I hT (RepV.mono s p _ _ ru)
    · exact h1.elim
/-! own methods, new instances: the rules -/
theorem de_meth {n : Nat} {den : List D → Mem → Res D} {o : Expr} {es : List Expr} {name c : Str} {apos pos : Pos} {fo : EDen} {fa : ADen} (t : PE X (.Call (.Attribute o name apos) es [] pos) (tMeth (C.cl c) name (spD C n den) [] C.E (tE C fo) (tA C fa))) : DE X C (.Call (.Attribute o name apos) es [] pos) (eOwn c name n den fo fa) :=
  pe_weak t fun σ H Q q => own_w q
theorem own_w0 {c name : Str} {n : Nat} {den : List D → Mem → Res D} {fo : EDen} {σ : St} {H : Hp} {Q : VK} (h : tE C (eOwn c name n den fo aNil) σ H Q) : tMeth (C.cl c) name (spD C n den) [] C.E (tE C fo) tNil σ H Q := by
  obtain ⟨e, m, G, ph, Eo, I, h⟩ := h
  refine goE Eo I h fun x m1 G1 ph1 H1 v Eo1 I1 X1 r1 h1 => ?_
  have q : tE C (fun _ _ => (Res.ok x m1)) σ H1 (fun v H1 => True) → True := fun _ => trivial
  cases x with
  | ref k =>
    obtain ⟨a, rfl, q⟩ := r1
    cases z : m1[k]? with
    | none =>
      simp only [z] at h1
      exact h1.elim
    | some mo =>
      cases mo with
      | ins c' fs =>
        simp only [z] at h1
        by_cases hc : c' = c ∧ lookF name fs = none
        · rw [if_pos hc] at h1
          obtain ⟨hc1, hc2⟩ := hc
          subst hc1
          obtain ⟨dx, gs, ha, e1, rr⟩ := cellIns I1 q z
          refine ⟨a, dx, gs, rfl, ha, (look_rep e1 rr).2 hc2, ?_⟩
          have h2 : Post C G1 ph1 H1 (fun d _ G' ph' H' => ∀ v, RepV C.K G' ph' d v → Q v H') (if ([] : List D).length + 1 = n then den [.ref k] m1 else .bad) := h1
          by_cases hl : ([] : List D).length + 1 = n
          · rw [if_pos hl] at h2
            exact ⟨rfl, [.ref k], m1, G1, ph1, hl, I1, RepL.one ⟨a, rfl, q⟩, h2⟩
          · rw [if_neg hl] at h2
            exact h2.elim
        · rw [if_neg hc] at h1
          exact h1.elim
      | _ =>
        simp only [z] at h1
        exact h1.elim
  | _ => exact h1.elim
theorem de_meth0 {n : Nat} {den : List D → Mem → Res D} {o : Expr} {name c : Str} {apos pos : Pos} {fo : EDen} (t : PE X (.Call (.Attribute o name apos) [] [] pos) (tMeth (C.cl c) name (spD C n den) [] C.E (tE C fo) tNil)) : DE X C (.Call (.Attribute o name apos) [] [] pos) (eOwn c name n den fo aNil) :=
  pe_weak t fun σ H Q q => own_w0 q
theorem de_make {c : Str} {n : Nat} {den : List D → Mem → Res D} {e : Expr} {fa : ADen} (t : PE X e (tMake (C.cl c) (spD C n den) [] C.E (tA C fa))) : DE X C e (eMake c n den fa) := pe_weak t fun σ H Q q => make_w q
theorem passD {E : XK} : Passes CX0 X E := fun _ _ _ _ _ _ _ h => h.elim
end
end DL

namespace DL
open PySem L2
/-! ## walks of either kind -/
theorem pi_or {X : Cx} {tg e : Expr} {t t' : TI} (h : PI X tg e t) (h' : PI X tg e t') : PI X tg e (fun σ H R => t σ H R ∨ t' σ H R) := ⟨fun pins s σ H R I q => q.elim (h.run pins s σ H R I) (h'.run pins s σ H R I)⟩
section
variable {X : Cx} {C : Cn}
/-- a tuple, a list, the script -/
def iSeqD (f : EDen) : IDen := fun e m => (f e m).bind fun x m1 => match x with
  | .tup ds => .ok ⟨ds, free⟩ m1
  | .scr xs => .ok ⟨xs.map D.int, free⟩ m1
  | x => match dList m1 x with
    | some ds => .ok ⟨ds, lGuard x ds⟩ m1
    | none => .bad
theorem seq_split {f : EDen} {σ : St} {H : Hp} {R : It → Hp → Prop} (h : tI C (iSeqD f) σ H R) : (tI C (iTupD f) σ H R ∨ tI C (iScr f) σ H R) ∨ tI C (iLstD f) σ H R := by
  obtain ⟨e, m, G, ph, Eo, I, h⟩ := h
  cases q : f e m with
  | bad =>
    unfold iSeqD at h
    rw [q] at h
    exact h.elim
  | exc c p m1 =>
    unfold iSeqD at h
    rw [q] at h
    refine .inr ⟨e, m, G, ph, Eo, I, ?_⟩
    unfold iLstD
    rw [q]
    exact h
  | ok x m1 =>
    unfold iSeqD at h
    rw [q] at h
    cases x with
    | tup ds =>
      refine .inl (.inl ⟨e, m, G, ph, Eo, I, ?_⟩)
      unfold iTupD
      rw [q]
      exact h
    | scr xs =>
      refine .inl (.inr ⟨e, m, G, ph, Eo, I, ?_⟩)
      unfold iScr
      rw [q]
      exact h
    | _ =>
      refine .inr ⟨e, m, G, ph, Eo, I, ?_⟩
      unfold iLstD
      rw [q]
      exact h
theorem di_seq {tg l : Expr} {f : EDen} (h : DE X C l f) (hK : C.K = X.K := by rfl) : DI X C tg l (iSeqD f) := pi_weak (pi_or (pi_or (di_tup h hK) (di_scr h hK)) (di_list h hK)) fun σ H R q => seq_split q
def iEnumS (a : ADen) : IDen := fun e m => (a e m).bind fun xs m1 => match xs with
  | [.tup ds] => .ok ⟨enumD 0 ds, free⟩ m1
  | [x] => match dList m1 x with
    | some ds => .ok ⟨enumD 0 ds, lGuard x ds⟩ m1
    | none => .bad
  | _ => .bad
theorem enum_split {f : ADen} {σ : St} {H : Hp} {R : It → Hp → Prop} (h : tI C (iEnumS f) σ H R) : tI C (iEnumTD f) σ H R ∨ tI C (iEnumD f) σ H R := by
  obtain ⟨e, m, G, ph, Eo, I, h⟩ := h
  cases q : f e m with
  | bad =>
    unfold iEnumS at h
    rw [q] at h
    exact h.elim
  | exc c p m1 =>
    unfold iEnumS at h
    rw [q] at h
    refine .inr ⟨e, m, G, ph, Eo, I, ?_⟩
    unfold iEnumD
    rw [q]
    exact h
  | ok xs m1 =>
    unfold iEnumS at h
    rw [q] at h
    simp only [bind_ok] at h
    split at h
    · refine .inl ⟨e, m, G, ph, Eo, I, ?_⟩
      unfold iEnumTD
      rw [q]
      exact h
    · refine .inr ⟨e, m, G, ph, Eo, I, ?_⟩
      unfold iEnumD
      rw [q]
      exact h
    · exact h.elim
theorem di_enumS {elts : List Expr} {kk : Nat} {tpos : Pos} {a : Expr} {f : ADen} {p pos : Pos} (hg : Gl X "enumerate") (hm : X.mg "enumerate" = none) (h : DA X C [a] f) (hK : C.K = X.K := by rfl) (hs : starEach [a] X.env = [(false, eval a X.env)] := by rfl) :
    DI X C (.Tuple elts kk tpos) (.Call (.Name "enumerate" p) [a] [] pos) (iEnumS f) := pi_weak (pi_or (di_enumT hg hm h hK hs) (di_enum hg hm h hK hs)) fun σ H R q => enum_split q

/-! ## the module's constants -/
theorem de_gint {x : Str} {i : Int} {pos : Pos} (hg : Gl X x) (h : ∃ t, X.mg x = some (.int i t)) (hd : (x == ("__debug__" : Str)) = false := by decide) : DE X C (.Name x pos) (eC (.int i)) := by
  obtain ⟨t, e⟩ := h
  exact de_const (pe_glob (v := .int i) hg e ⟨t, rfl⟩ hd) fun _ _ => rfl
theorem de_gstr {x : Str} {i : Str} {pos : Pos} (hg : Gl X x) (h : ∃ t, X.mg x = some (.str i t)) (hd : (x == ("__debug__" : Str)) = false := by decide) : DE X C (.Name x pos) (eC (.str i)) := by
  obtain ⟨t, e⟩ := h
  exact de_const (pe_glob (v := .str i) hg e ⟨t, rfl⟩ hd) fun _ _ => rfl
theorem de_gtup {x : Str} {a : Addr} {ss : List Str} {pos : Pos} (hg : Gl X x) (h : X.mg x = some (.ref a)) (hs : ∀ G, SqT C.K G a (ss.map V.str)) (hd : (x == ("__debug__" : Str)) = false := by decide) : DE X C (.Name x pos) (eC (.tup (ss.map D.str))) :=
  de_const (pe_glob (v := .ref a) hg h rfl hd) fun G ph => ⟨a, _, rfl, hs G, RepL.strs⟩
/-- True, False of a name that a module gives: none. A class as a value -/
theorem de_gref {x : Str} {a : Addr} {pos : Pos} (hg : Gl X x) (h : X.mg x = some (.ref a)) (hd : (x == ("__debug__" : Str)) = false := by decide) : DE X C (.Name x pos) (eC (.val (.ref a))) :=
  de_const (pe_glob (v := .ref a) hg h rfl hd) fun _ _ => rfl

/-! ## a displayed dict -/
abbrev PDen := Sl → Mem → Res (List (Key × D))
def kNil : PDen := fun _ m => .ok [] m
def kCons (k v : EDen) (r : PDen) : PDen := fun e m => (k e m).bind fun x m1 => (v e m1).bind fun y m2 => (r e m2).bind fun ps m3 => match keyD x with
  | some k => .ok ((k, y) :: ps) m3
  | none => .bad
def eDisp (f : PDen) : EDen := fun e m => (f e m).bind fun ps m1 => if ps.length ≤ 15 then .ok (.ref m1.length) (m1 ++ [.dct (mergeD [] ps)]) else .bad
/-- the pairs' readings -/
inductive PPD (X : Cx) (C : Cn) (pos : Pos) : List (Option Expr) → List Expr → List (TE × TE) → PDen → Prop
  | nil : PPD X C pos [] [] [] kNil
  | cons {k v : Expr} {ks : List (Option Expr)} {vs : List Expr} {ts : List (TE × TE)} {fk fv : EDen} {r : PDen} (hk : DE X C k fk) (hv : DE X C v fv) (t : PPD X C pos ks vs ts r) : PPD X C pos (some k :: ks) (v :: vs) ((tE C fk, tE C fv) :: ts) (kCons fk fv r)
/-- into the first expression, the wish kept from further ahead -/
theorem goB {e : Sl} {m : Mem} {G0 G : Hp} {ph0 ph : List Addr} {σ : St} {H0 H : Hp} {β : Type} {f : EDen} {k : D → Mem → Res β} {R : β → Mem → Hp → List Addr → Hp → Prop} {Q : VK}
    (X0 : Ext G0 ph0 H0 G ph H) (Eo : Eok C e G ph σ) (I : Mok C m G ph H) (h : Post C G0 ph0 H0 R ((f e m).bind k))
    (w : ∀ d m1 G1 ph1 H1 v, Eok C e G1 ph1 σ → Mok C m1 G1 ph1 H1 → Ext G ph H G1 ph1 H1 → RepV C.K G1 ph1 d v → Post C G0 ph0 H0 R (k d m1) → Q v H1) : tE C f σ H Q := by
  refine ⟨e, m, G, ph, Eo, I, ?_⟩
  cases q : f e m with
  | bad =>
    rw [q] at h
    exact h.elim
  | exc c p m1 =>
    rw [q] at h
    exact Post.shift X0 h
  | ok d m1 =>
    rw [q] at h
    exact fun G1 ph1 H1 I1 X1 v r => w d m1 G1 ph1 H1 v (Eo.mono X1.g X1.p) I1 X1 r h
theorem ppd_w {pos : Pos} : ∀ {ks : List (Option Expr)} {vs : List Expr} {ts : List (TE × TE)} {r : PDen}, PPD X C pos ks vs ts r → ∀ {β : Type} {e : Sl} {m : Mem} {G0 G : Hp} {ph0 ph : List Addr} {σ : St} {H0 H : Hp} {k : List (Key × D) → Mem → Res β} {R : β → Mem → Hp → List Addr → Hp → Prop} {Q : List (V × V) → Hp → Prop},
    Ext G0 ph0 H0 G ph H → Eok C e G ph σ → Mok C m G ph H → Post C G0 ph0 H0 R ((r e m).bind k) →
    (∀ ps m1 G1 ph1 H1 kv, Eok C e G1 ph1 σ → Mok C m1 G1 ph1 H1 → Ext G ph H G1 ph1 H1 → RepK C.K G1 ph1 ps kv → Post C G0 ph0 H0 R (k ps m1) → Q (kv.map fun q => (kV q.1, q.2)) H1) → tPairs ts σ H Q
  | _, _, _, _, .nil, β, e, m, G0, G, ph0, ph, σ, H0, H, k, R, Q, X0, Eo, I, h, w => w [] m G ph H [] Eo I (Ext.refl _ _ _) ⟨rfl, rfl⟩ h
  | _, _, _, _, .cons (fk := fk) (fv := fv) (r := r) hk hv t, β, e, m, G0, G, ph0, ph, σ, H0, H, k, R, Q, X0, Eo, I, h, w => by
    have h : Post C G0 ph0 H0 R ((fk e m).bind fun x m1 => (fv e m1).bind fun y m2 => (r e m2).bind fun ps m3 => (match keyD x with
      | some k => (Res.ok ((k, y) :: ps) m3 : Res (List (Key × D)))
      | none => .bad).bind k) := by
      have e0 : (kCons fk fv r e m).bind k = ((fk e m).bind fun x m1 => (fv e m1).bind fun y m2 => (r e m2).bind fun ps m3 => (match keyD x with
        | some k => (Res.ok ((k, y) :: ps) m3 : Res (List (Key × D)))
        | none => .bad).bind k) := by
        unfold kCons
        cases fk e m with
        | ok x m1 =>
          simp only [bind_ok]
          cases fv e m1 with
          | ok y m2 =>
            simp only [bind_ok]
            cases r e m2 <;> rfl
          | exc c p m2 => rfl
          | bad => rfl
        | exc c p m2 => rfl
        | bad => rfl
      rw [← e0]
      exact h
    show tE C fk σ H fun x H1 => tE C fv σ H1 fun y H2 => tPairs _ σ H2 fun ps H3 => Q ((x, y) :: ps) H3
    refine goB X0 Eo I h fun x m1 G1 ph1 H1 v Eo1 I1 X1 r1 h1 => ?_
    refine goB (X0.trans X1) Eo1 I1 h1 fun y m2 G2 ph2 H2 u Eo2 I2 X2 r2 h2 => ?_
    refine ppd_w t (X0.trans (X1.trans X2)) Eo2 I2 h2 fun ps m3 G3 ph3 H3 kv Eo3 I3 X3 rk h3 => ?_
    cases qk : keyD x with
    | none =>
      rw [qk] at h3
      exact h3.elim
    | some kk =>
      rw [qk] at h3
      have ek := keyD_rep qk r1
      subst ek
      exact w ((kk, y) :: ps) m3 G3 ph3 H3 ((kk, u) :: kv) Eo3 I3 (X1.trans (X2.trans X3)) (rk.cons (RepV.mono X3.g X3.p _ _ r2)) h3
theorem disp_w {pos : Pos} {ks : List (Option Expr)} {vs : List Expr} {ts : List (TE × TE)} {r : PDen} (t : PPD X C pos ks vs ts r) {σ : St} {H : Hp} {Q : VK} (h : tE C (eDisp r) σ H Q) : tDisp ts σ H Q := by
  obtain ⟨e, m, G, ph, Eo, I, h⟩ := h
  intro p hp
  have gp : G p = none := same_none I.sub hp
  have np : p ∉ ph := fun z => I.trk p z hp
  have I1 := I.side gp np (.dK [])
  have X1 : Ext G ph H G ph (upd H p (.dK [])) := (Ext.refl G ph H).side hp _
  refine ppd_w t X1 Eo I1 h fun ps m2 G2 ph2 H2 kv Eo2 I2 X2 rk h2 => ?_
  obtain ⟨d1, d2, d3⟩ := X2.apart upd_same gp np
  by_cases c : ps.length ≤ 15
  · rw [if_pos c] at h2
    refine ⟨d1, kv, rfl, by rw [rk.length]; exact c, ?_⟩
    have mr : RepK C.K G2 ph2 (mergeD [] ps) (mergeK [] kv) := merge_rep rk ⟨rfl, rfl⟩
    have I3 : Mok C (m2 ++ [.dct (mergeD [] ps)]) G2 (ph2 ++ [p]) (upd H2 p (.dK (mergeK [] kv))) := by
      have I4 := I2.side d2 d3 (.dK (mergeK [] kv))
      refine ⟨I4.sub, by simp [I4.len], ?_, fun a ha => ?_, fun n a mo q1 q2 q3 => ?_, fun n a mo q1 q2 => ?_⟩
      · rw [List.nodup_append]
        refine ⟨I4.nd, by simp, fun a ha b hb => ?_⟩
        simp at hb
        subst hb
        intro z
        subst z
        exact d3 ha
      · rcases List.mem_append.mp ha with q | q
        · exact I4.trk a q
        · simp at q
          subst q
          rw [upd_same]
          intro z
          cases z
      · by_cases hn : n < ph2.length
        · rw [List.getElem?_append_left hn] at q1
          rw [List.getElem?_append_left (by rw [I4.len]; exact hn)] at q2
          exact I4.out n a mo q1 q2 q3
        · have hl := (List.getElem?_eq_some_iff.mp q1).1
          rw [List.length_append, List.length_singleton] at hl
          have e0 : n = ph2.length := by omega
          subst e0
          rw [List.getElem?_append_right (Nat.le_refl _), Nat.sub_self] at q1
          simp at q1
          subst q1
          exact d2
      · by_cases hn : n < ph2.length
        · rw [List.getElem?_append_left hn] at q1
          rw [List.getElem?_append_left (by rw [I4.len]; exact hn)] at q2
          exact (I4.cell n a mo q1 q2).mono (Same.refl _) (Pre.snoc ph2 p) fun _ u e => e
        · have hl := (List.getElem?_eq_some_iff.mp q1).1
          rw [List.length_append, List.length_singleton] at hl
          have e0 : n = ph2.length := by omega
          subst e0
          rw [List.getElem?_append_right (Nat.le_refl _), Nat.sub_self] at q1
          rw [← I4.len, List.getElem?_append_right (Nat.le_refl _), Nat.sub_self] at q2
          simp at q1 q2
          subst q1 q2
          exact ⟨_, upd_same, mr.1, RepL.mono (Same.refl _) (Pre.snoc ph2 p) _ _ mr.2⟩
    have X3 : Ext G ph H G2 (ph2 ++ [p]) (upd H2 p (.dK (mergeK [] kv))) := ((X1.trans X2).side hp _).adoptCell hp
    exact h2 _ _ _ I3 X3 _ ⟨p, rfl, ref_last ph2 p I2.len⟩
  · rw [if_neg c] at h2
    exact h2.elim
theorem ppd_pps {pos : Pos} : ∀ {ks : List (Option Expr)} {vs : List Expr} {ts : List (TE × TE)} {r : PDen}, PPD X C pos ks vs ts r → PPs X pos ks vs ts
  | _, _, _, _, .nil => pps_nil
  | _, _, _, _, .cons hk hv t => pps_cons hk hv (ppd_pps t)
theorem de_disp {pos : Pos} {ks : List (Option Expr)} {vs : List Expr} {ts : List (TE × TE)} {r : PDen} (t : PPD X C pos ks vs ts r) (hall : ks.all (·.isSome) = true := by rfl) (hl : ks.length = vs.length := by rfl) (h0 : ks ≠ [] := by intro z; cases z) (h15 : ks.length ≤ 15 := by decide) : DE X C (.Dict ks vs pos) (eDisp r) :=
  pe_weak (pe_disp (ppd_pps t) hall hl h0 h15) fun σ H Q q => disp_w t q
/-! ## a, b = x, y -/
def sPar (i j : Nat) (f : ADen) : SDen := fun e m => (f e m).bind fun ds m1 => match ds with
  | [a, b] => .ok (.nx ((e.set i (some a)).set j (some b))) m1
  | _ => .bad
theorem ds_par {i j : Nat} {x y : Str} {a b : Expr} {f : ADen} {px py pt spos : Pos} {kt k2 pt2} (hc : X.calm = true) (hN : X.N.Nodup) (hi : X.N[i]? = some x) (hj : X.N[j]? = some y) (hij : i ≠ j) (t : PS X (.Assign [.Tuple [.Name x px, .Name y py] kt pt] (.Tuple [a, b] k2 pt2) spos) (tPar i j (tA C f))) :
    DS X C (.Assign [.Tuple [.Name x px, .Name y py] kt pt] (.Tuple [a, b] k2 pt2) spos) (sPar i j f) :=
  ps_weak t fun D' σ H ⟨e, m, G, ph, Eo, I, h⟩ => goA Eo I h fun ds m1 G1 ph1 H1 vs Eo1 I1 X1 r1 h1 => by
    split at h1
    · rename_i a b
      obtain ⟨v, w, rfl, ra, rb⟩ := repl2 r1
      exact ⟨v, w, rfl, h1.here I1 _ ((Eo1.set ra).set rb)⟩
    · exact h1.elim
end
/-! ## what the head tells -/
def CC (K : PySem.W.Frag) : Cn := { K := K, cl := fun c => He.ga K c, xf := fun _ => none, E := fun _ _ _ => False }
structure Has (P : Program) (w : World) (K : PySem.W.Frag) (mg : Str → Option Value) (base : Heap) (at_ : Str × Option Str) (k : Nat) (ps : List Str) (den : List D → Mem → Res D) (fd : FuncData) : Prop where
  ok : FnOk P w K mg base CX0 k (He.fAd K at_) fd ps (spD (CC K) ps.length den)
  bd : Binds K fd ps []
  kp : PySem.W.keepIn K (.ref (He.fAd K at_)) = true
theorem bt_len : bootBuiltins "len" = some (.builtin "len") := by decide +kernel
theorem bt_isinstance : bootBuiltins "isinstance" = some (.builtin "isinstance") := by decide +kernel
theorem bt_max : bootBuiltins "max" = some (.builtin "max") := by decide +kernel
theorem bt_sorted : bootBuiltins "sorted" = some (.builtin "sorted") := by decide +kernel
theorem bt_int : bootBuiltins "int" = some (.type "int") := by decide +kernel
theorem bt_str : bootBuiltins "str" = some (.type "str") := by decide +kernel
theorem bt_bool : bootBuiltins "bool" = some (.type "bool") := by decide +kernel
theorem bt_list : bootBuiltins "list" = some (.type "list") := by decide +kernel
theorem bt_tuple : bootBuiltins "tuple" = some (.type "tuple") := by decide +kernel
theorem bt_dict : bootBuiltins "dict" = some (.type "dict") := by decide +kernel
theorem bt_set : bootBuiltins "set" = some (.type "set") := by decide +kernel
end DL

namespace DL
open PySem L2
/-! isinstance of several types; dict.pop(k) -/
def kitAnyB (a : String) : List String → Option Bool
  | [] => some false
  | b :: bs => match kitB a b with
    | some true => some true
    | some false => kitAnyB a bs
    | none => none
theorem kitAnyB_ok {K : PySem.W.Frag} {a : String} : ∀ {bs : List String} {r : Bool}, kitAnyB a bs = some r → PySem.W.kitAny K (.type a) (bs.map Value.type) = some r
  | [], r, h => by
    cases h
    rfl
  | b :: bs, r, h => by
    unfold kitAnyB at h
    cases q : kitB a b with
    | none =>
      rw [q] at h
      cases h
    | some k =>
      rw [q] at h
      cases k with
      | true =>
        cases h
        exact kitAny_cons (kit_ty q) (fun z => by cases z) (fun _ => rfl)
      | false => exact kitAny_cons (kit_ty q) (fun _ => kitAnyB_ok h) (fun z => by cases z)
def eIsiT (fx : EDen) (ts : List String) : EDen := fun e m => (fx e m).bind fun x m1 => match tyD m1 x with
  | some a => match kitAnyB a ts with
    | some k => .ok (.bl k) m1
    | none => .bad
  | none => .bad
section
variable {X : Cx} {C : Cn}
theorem tys_paired : ∀ ts : List String, Paired ClsV (ts.map V.ty) (ts.map Value.type)
  | [] => .nil
  | t :: ts => .cons (.ty t) (tys_paired ts)
def tTys (ts : List String) : TA := fun _ H Q => Q (ts.map V.ty) H
theorem pa_tyc {e : Expr} {es : List Expr} {t : String} {ts : List String} (h : PE X e (tC (.ty t))) (k : PA X es (tTys ts)) (hs : starEach (e :: es) X.env = (false, eval e X.env) :: starEach es X.env := by rfl) : PA X (e :: es) (tTys (t :: ts)) :=
  pa_weak (pa_cons h k hs) fun σ H Q q => q
theorem pa_ty0 : PA X [] (tTys []) := pa_nil
theorem pe_ty {x : Str} {T : String} {pos : Pos} (hg : Gl X x) (hm : X.mg x = none) (hv : bootBuiltins x = some (.type T)) (hn : x ≠ "__name__" := by decide) (hd : (x == ("__debug__" : Str)) = false := by decide) : PE X (.Name x pos) (tC (.ty T)) := pe_bltn (v := .ty T) hg hm hv rfl hn hd
theorem de_isiT {a : Expr} {es : List Expr} {p pos tp : Pos} {x1} {fx : EDen} {ts : List String} (hg : Gl X "isinstance") (hm : X.mg "isinstance" = none) (hx : DE X C a fx) (ht : PA X es (tTys ts)) (hK : C.K = X.K := by rfl) (hl : ts.length ≤ 1000 := by decide)
    (hn : starEach [a, .Tuple es x1 tp] X.env = (false, eval a X.env) :: starEach [.Tuple es x1 tp] X.env := by rfl) (hn1 : starEach [.Tuple es x1 tp] X.env = (false, eval (.Tuple es x1 tp) X.env) :: starEach [] X.env := by rfl)
    (hpl : (backTo pos (starEach [.Tuple es x1 tp] X.env)).any (·.1) = false := by rfl) : DE X C (.Call (.Name "isinstance" p) [a, .Tuple es x1 tp] [] pos) (eIsiT fx ts) := by
  refine pe_weak (pe_callB call_isiT hg hm bt_isinstance (pa_cons hx (pa_cons (pe_tup ht) pa_nil hn1) hn) (by decide) (by decide) hn hpl) fun σ H Q ⟨e, m, G, ph, Eo, I, h⟩ => goE Eo I h fun x m1 G1 ph1 H1 v Eo1 I1 X1 r1 h1 => ?_
  cases q : tyD m1 x with
  | none =>
    simp only [q] at h1
    exact h1.elim
  | some s =>
    simp only [q] at h1
    cases q2 : kitAnyB s ts with
    | none =>
      simp only [q2] at h1
      exact h1.elim
    | some k =>
      simp only [q2] at h1
      refine ⟨by rw [List.length_map]; exact thousand hl, fun tp htp => ?_⟩
      obtain ⟨I2, X2⟩ := I1.frozen htp (.tup (ts.map V.ty))
      refine ⟨v, tp, ts.map V.ty, .type s, ts.map Value.type, k, rfl, upd_same, tys_paired ts, ?_, kitAnyB_ok q2, h1 _ _ _ I2 X2 _ rfl⟩
      rw [← hK]
      exact tyD_rep I2 q (RepV.mono X2.g X2.p _ _ r1)
def eDPop1 (fd fk : EDen) : EDen := fun e m => (fd e m).bind fun x m1 => match dDict m1 x with
  | none => .bad
  | some _ => (fk e m1).bind fun y m2 => match dDict m2 x, keyD y with
    | some (n, kvs), some k => match valD kvs k with
      | some d => .ok d (m2.set n (.dct (dropD kvs k)))
      | none => .bad
    | _, _ => .bad
theorem de_dpop1 {o i : Expr} {apos cpos : Pos} {fd fk : EDen} (ho : DE X C o fd) (hi : DE X C i fk) (m1 : M1 X o "pop" apos i cpos := by exact ⟨rfl, rfl, rfl, rfl⟩) : DE X C (.Call (.Attribute o "pop" apos) [i] [] cpos) (eDPop1 fd fk) :=
  pe_weak (pe_dpop1 ho hi m1) fun σ H Q ⟨e, m, G, ph, Eo, I, h⟩ => goE Eo I h fun x m1 G1 ph1 H1 v Eo1 I1 X1 r1 h1 => by
    cases q0 : dDict m1 x with
    | none =>
      simp only [q0] at h1
      exact h1.elim
    | some p0 =>
      simp only [q0] at h1
      obtain ⟨n0, kvs0⟩ := p0
      obtain ⟨a0, kv0, e0, _, _, ha0, _⟩ := dDict_rep I1 q0 r1
      refine ⟨a0, e0, .inl ⟨kv0, .inl ha0⟩, ?_⟩
      refine goE Eo1 I1 h1 fun y m2 G2 ph2 H2 u Eo2 I2 X2 r2 h2 => ?_
      cases q : dDict m2 x with
      | none =>
        simp only [q] at h2
        exact h2.elim
      | some p =>
        obtain ⟨n, kvs⟩ := p
        cases qk : keyD y with
        | none =>
          simp only [q, qk] at h2
          exact h2.elim
        | some k =>
          simp only [q, qk] at h2
          obtain ⟨a, kv, e1, hp, hm, ha, rr⟩ := dDict_rep I2 q (RepV.mono X2.g X2.p _ _ r1)
          have ea : a = a0 := by
            rw [e0] at e1
            exact (V.ref.inj e1).symm
          subst ea
          have ek := keyD_rep qk r2
          subst ek
          cases l : valD kvs k with
          | none =>
            simp only [l] at h2
            exact h2.elim
          | some d =>
            simp only [l] at h2
            obtain ⟨w', lw, rw'⟩ := rr.val.1 d l
            obtain ⟨I4, X4⟩ := I2.write hp hm (by intro z; cases z) (.dK (dropK kv k)) (mo' := .dct (dropD kvs k)) ⟨_, upd_same, rr.drop.1, rr.drop.2⟩
            exact ⟨kv, k, w', ha, rfl, lw, h2 _ _ _ I4 X4 _ rw'⟩
end
end DL
namespace DL
open PySem L2
theorem has_zero {P : Program} {w : World} {K : PySem.W.Frag} {mg : Str → Option Value} {base : Heap} {k : Nat} {f : Addr} {fd : FuncData} {ps : List Str} {C : Cn} : FnOk P w K mg base CX0 k f fd ps (spD C ps.length (fun _ _ => .bad)) :=
  ⟨fun _ _ _ _ h => spD_len h, fun _ _ _ _ _ _ _ _ _ _ _ _ _ hs => by
    obtain ⟨_, ds, m, G, ph, _, _, _, h⟩ := hs
    exact h.elim⟩
end DL
namespace DL
open PySem L2
/-! a, b, .. = a list -/
def gL (is : List Nat) : GDen := fun d e => match d with
  | .lst ds => gVs is ds e
  | _ => none
section
variable {X : Cx} {C : Cn}
theorem tg_lst {es : List Expr} {k : Nat} {pos : Pos} {t : TGs} {is : List Nat} {n : Nat} (hc : X.calm = true) (h : TgsOk X C es t is) (hK : C.K = X.K := by rfl)
    (hn : (assignEach es X.env).length = n := by rfl) (hst : (assignEach es X.env).findIdx? (·.1) = none := by rfl) (hi : is.length = n := by rfl) : TgOk X C (.Tuple es k pos) (gLst X.K n t) (gL is) is :=
  ⟨pg_lst hc h.pg hn hst, fun d e e' m G ph σ H v Q hd Eo I r k => by
    cases d with
    | lst ds =>
      obtain ⟨a, vs, rfl, q, rr⟩ := r
      have hl : ds.length = is.length := by
        have key : ∀ (is : List Nat) (ds : List D) (e e' : Sl), gVs is ds e = some e' → ds.length = is.length := by
          intro is
          induction is with
          | nil =>
            intro ds e e' h
            cases ds with
            | nil => rfl
            | cons d ds => cases h
          | cons i is ih =>
            intro ds e e' h
            cases ds with
            | nil => cases h
            | cons d ds => rw [List.length_cons, List.length_cons, ih ds _ e' h]
        exact key is ds e e' hd
      exact ⟨a, vs, rfl, SqL.of (I.sub _ _ q), by rw [rr.length, hl, hi], h.run ds e e' m G ph σ H vs Q hd Eo I rr k⟩
    | _ => cases hd⟩
end
end DL

namespace DL
open PySem L2 PySem.Spec PyProof.Rows
/-! a tuple times 0 or 1 -/
theorem times_one (l : Addr) (items : Array Value) (n : Nat) (dd : Option Addr) (sl : Array (Option Value)) (u : Tok) :
    Meets (Builtin.«tuple.__mul__» ⟨[.ref l, .int 1 u], []⟩) (fun _ R s => s.heap.get? l = some { cls := .type "tuple", dict := dd, data := .seq items n, slots := sl } ∧ R (.ok (.ret (Value.ref l))) s) :=
  .of_wp fun prog w A R s h => by
    obtain ⟨hp, g, d, tk, os⟩ := s
    obtain ⟨hl, h⟩ := h
    have f1 := AutoSeq1.idx_int
    have c0 : (decide ((1 : Int) < -(2 ^ 63)) || decide ((1 : Int) ≥ 2 ^ 63)) = false := by decide
    have c1 : (items.isEmpty || (1 : Int) == 1) = true := by simp
    wp_walk using wpAny_loadPart' hl
    repeat (first
      | (refine wpAny_ite_false (decide_eq_false (by rw [c0]; exact Bool.false_ne_true)) ?_; wp_walk using wpAny_loadPart' hl)
      | (refine wpAny_ite_true (decide_eq_true (by rw [c1])) ?_; wp_walk using wpAny_loadPart' hl))
    exact ⟨_, rfl, h⟩
theorem times_nil (l : Addr) (items : Array Value) (n : Nat) (dd : Option Addr) (sl : Array (Option Value)) (u : Tok) (hne : items.isEmpty = false) :
    Meets (Builtin.«tuple.__mul__» ⟨[.ref l, .int 0 u], []⟩) (fun _ R s => s.heap.get? l = some { cls := .type "tuple", dict := dd, data := .seq items n, slots := sl } ∧
      R (.ok (.ret (Value.ref s.heap.objs.size))) { s with heap := s.heap.push { cls := Value.type "tuple", data := Data.seq #[] }, toks := s.toks }) :=
  .of_wp fun prog w A R s h => by
    obtain ⟨hp, g, d, tk, os⟩ := s
    obtain ⟨hl, h⟩ := h
    have f1 := AutoSeq1.idx_int
    have c0 : (decide ((0 : Int) < -(2 ^ 63)) || decide ((0 : Int) ≥ 2 ^ 63)) = false := by decide
    have c1 : (items.isEmpty || (0 : Int) == 1) = false := by rw [hne]; decide
    have c2 : (decide ((0 : Int) ≤ 0) || items.isEmpty) = true := by simp
    wp_walk using wpAny_loadPart' hl
    repeat (first
      | (refine wpAny_ite_false (decide_eq_false (by rw [c0]; exact Bool.false_ne_true)) ?_; wp_walk using wpAny_loadPart' hl)
      | (refine wpAny_ite_false (decide_eq_false (by rw [c1]; exact Bool.false_ne_true)) ?_; wp_walk using wpAny_loadPart' hl)
      | (refine wpAny_ite_true (decide_eq_true (by rw [c2])) ?_; wp_walk using wpAny_loadPart' hl))
    exact ⟨_, rfl, h⟩
def rFew (K : PySem.W.Frag) : R2 := fun x y H Q => ∃ l k xs, x = .ref l ∧ y = .int k ∧ SqT K H l xs ∧ xs ≠ [] ∧ ((k = 1 ∧ Q (.ref l) H) ∨ (k = 0 ∧ ∀ p, H p = none → Q (.ref p) (upd H p (.tup []))))
theorem op_few {X : Cx} : OpR X (binaryOp .Mult) (rFew X.K) := by
  intro pins s σ H x y v u Q I rx ry h
  obtain ⟨l, k, xs, rfl, rfl, hT, hne, hq⟩ := h
  cases rx
  obtain ⟨t, rfl⟩ := ry
  obtain ⟨its, r, ⟨⟨cls, dd, data, sl⟩, ho, hc, n, hd⟩, hs⟩ := I.tuple hT
  simp only at hc hd
  subst hc hd
  have hn : its ≠ [] := fun e => hne (by
    have hle : its.length = xs.length := r.length.symm
    rw [e] at hle
    exact List.eq_nil_of_length_eq_zero hle.symm)
  have hi : its.toArray.isEmpty = false := by
    cases its with
    | nil => exact absurd rfl hn
    | cons a b => rfl
  rcases hq with ⟨rfl, q⟩ | ⟨rfl, q⟩
  · exact wpAny_binaryOp_repeat_ref (T := "tuple") (U := "int") (by decide) ⟨_, ho, rfl⟩ (fun s' => typeIs_int s' 1 t) noFill_tuple_mul F.fills_int_mul F.slot_int_rmul repeat_tuple F.slot_int_index.lookup
      (call_meets F.slot_int_rmul (typeIs_int s 1 t) F.entry_int_rmul (F.args_int_rmul_2 _ _) (int_rmul_tuple 1 t l its.toArray n dd sl)
        ⟨ho, rfl, ⟨_, ho, rfl⟩, call_meets F.slot_tuple_mul ⟨_, ho, rfl⟩ F.entry_tuple_mul (F.args_tuple_mul_2 _ _) (times_one l its.toArray n dd sl t) ⟨ho, .ref l, H, I, rfl, q⟩⟩)
  · refine wpAny_binaryOp_repeat_ref (T := "tuple") (U := "int") (by decide) ⟨_, ho, rfl⟩ (fun s' => typeIs_int s' 0 t) noFill_tuple_mul F.fills_int_mul F.slot_int_rmul repeat_tuple F.slot_int_index.lookup
      (call_meets F.slot_int_rmul (typeIs_int s 0 t) F.entry_int_rmul (F.args_int_rmul_2 _ _) (int_rmul_tuple 0 t l its.toArray n dd sl)
        ⟨ho, rfl, ⟨_, ho, rfl⟩, call_meets F.slot_tuple_mul ⟨_, ho, rfl⟩ F.entry_tuple_mul (F.args_tuple_mul_2 _ _) (times_nil l its.toArray n dd sl t hi) ⟨ho, ?_⟩⟩)
    refine ⟨.ref s.heap.objs.size, _, I.laid (t' := s.toks) (o := .tup []) (fun b ob q => Heap.get?_push_of_some _ q) (Nat.le_refl _) ?_, rfl, q _ (I.hok.fresh (Nat.le_refl _))⟩
    exact ⟨by decide, _, .nil, IsTup.new _ _⟩
end DL
namespace DL
open PySem L2 PySem.Spec PyProof.Rows
section
variable {X : Cx} {C : Cn}
/-- int * int; a tuple, a list times 0 or 1 -/
def oMulS : Op2 := fun m x y => match x, y with
  | .int i, .int j => oMul m (.int i) (.int j)
  | .tup xs, .int k => if xs = [] then .bad else if k = 1 then .ok (.tup xs) m else if k = 0 then .ok (.tup []) m else .bad
  | x, .int k => match dList m x with
    | some xs => if xs.length ≤ 1000 then (if k = 1 then .ok (.lst xs) m else if k = 0 then .ok (.lst []) m else .bad) else .bad
    | none => .bad
  | _, _ => .bad
theorem opd_mulS (hK : C.K = X.K := by rfl) : OpD X C (binaryOp .Mult) oMulS := by
  obtain ⟨r, o1, s1⟩ := (opd_mul : OpD X C (binaryOp .Mult) oMul)
  refine ⟨_, o1.or (op_few.or op_rep), ?_⟩
  intro m G ph H x y v u Q I rx ry h
  cases y with
  | int k =>
    have e2 : u = .int k := ry
    subst e2
    have lists : ∀ {x : D}, RepV C.K G ph x v → Post C G ph H (fun d _ G' ph' H' => ∀ w, RepV C.K G' ph' d w → Q w H') (match dList m x with
      | some xs => if xs.length ≤ 1000 then (if k = 1 then (.ok (.lst xs) m : Res D) else if k = 0 then .ok (.lst []) m else .bad) else .bad
      | none => .bad) → rRep v (.int k) H Q := fun {x} rx h => by
      cases hx : dList m x with
      | none =>
        rw [hx] at h
        exact h.elim
      | some xs =>
        rw [hx] at h
        simp only [] at h
        obtain ⟨a, vs, rfl, ha, r1⟩ := dList_rep I hx rx
        by_cases hl : xs.length ≤ 1000
        · rw [if_pos hl] at h
          have hs : vs.length ≤ 1000 := by rw [r1.length]; exact hl
          by_cases k1 : k = 1
          · subst k1
            rw [if_pos rfl] at h
            refine ⟨a, 1, vs, rfl, rfl, ha, by decide, by decide, thousand (by simpa using hs), fun p hp => ?_⟩
            have e : (List.replicate (1 : Int).toNat vs).flatten = vs := by
              show (List.replicate 1 vs).flatten = vs
              simp
            rw [e]
            obtain ⟨I2, X2⟩ := I.frozen hp (.lst vs)
            exact h _ _ _ I2 X2 _ ⟨p, _, rfl, upd_same, RepL.mono X2.g X2.p _ _ r1⟩
          · rw [if_neg k1] at h
            by_cases k0 : k = 0
            · subst k0
              rw [if_pos rfl] at h
              refine ⟨a, 0, vs, rfl, rfl, ha, by decide, by decide, thousand (by simp), fun p hp => ?_⟩
              have e : (List.replicate (0 : Int).toNat vs).flatten = [] := by
                show (List.replicate 0 vs).flatten = []
                simp
              rw [e]
              obtain ⟨I2, X2⟩ := I.frozen hp (.lst [])
              exact h _ _ _ I2 X2 _ ⟨p, _, rfl, upd_same, rfl⟩
            · rw [if_neg k0] at h
              exact h.elim
        · rw [if_neg hl] at h
          exact h.elim
    cases x with
    | int i => exact .inl (s1 m G ph H _ _ _ _ Q I rx ry h)
    | tup xs =>
      have h2 : Post C G ph H (fun d _ G' ph' H' => ∀ w, RepV C.K G' ph' d w → Q w H') (if xs = [] then .bad else if k = 1 then (.ok (.tup xs) m : Res D) else if k = 0 then .ok (.tup []) m else .bad) := h
      obtain ⟨a, vs, rfl, q1, r1⟩ := rx
      by_cases hn : xs = []
      · rw [if_pos hn] at h2
        exact h2.elim
      · rw [if_neg hn] at h2
        have hv : vs ≠ [] := fun e => by
          subst e
          exact hn (List.length_eq_zero_iff.mp (by rw [← r1.length] <;> rfl))
        refine .inr (.inl ⟨a, k, vs, rfl, rfl, by rw [← hK]; exact sqT_mono I.sub q1, hv, ?_⟩)
        by_cases k1 : k = 1
        · rw [if_pos k1] at h2
          exact .inl ⟨k1, h2.here I _ ⟨a, vs, rfl, q1, r1⟩⟩
        · rw [if_neg k1] at h2
          by_cases k0 : k = 0
          · rw [if_pos k0] at h2
            refine .inr ⟨k0, fun p hp => ?_⟩
            obtain ⟨I2, X2⟩ := I.frozen hp (.tup [])
            exact h2 _ _ _ I2 X2 _ ⟨p, _, rfl, SqT.of upd_same, rfl⟩
          · rw [if_neg k0] at h2
            exact h2.elim
    | _ => exact .inr (.inr (lists rx h))
  | _ => cases x <;> exact h.elim
end
end DL

namespace DL
open PySem L2 PySem.Spec PyProof.Rows
/-! d.update(a dict) -/
theorem d_more {X : Cx} {pins : List (Addr × Obj)} {σ : L2.St} {H : Hp} {s : Shared} {a b : Addr} {kvs more : List (Key × V)} {A : Around} {E : Value → Shared → Prop} {Q : Value → Shared → Prop} (I : Inv X pins σ H s) (e : H a = some (.dK kvs)) (e2 : H b = some (.dK more)) (hne : a ≠ b) (hz : kvs.length + more.length ≤ sizeLine)
    (h : ∀ s', Inv X pins σ (upd H a (.dK (mergeK kvs more))) s' → Q .none s') : wpAny (model X.prog X.w) A (call (.builtin "dict.update") [.ref a, .ref b]) Q E s := by
  obtain ⟨z, hd, vs, rel, dd⟩ := dk_of I.hok e
  obtain ⟨z2, hd2, vs2, rel2, dd2⟩ := dk_of I.hok e2
  refine call_meetsIn PySem.F.slot_dict_update dd.typeIs PySem.F.entry_dict_update (PySem.F.args_dict_update_2 _ _) (meets_dict_update (mixKind X.prog X.w) a b hne hd2)
    ⟨vs, vs2, dd, dd2, by rw [← rel.length, ← rel2.length]; exact hz, fun h' dd' _ hs => h _ ?_⟩
  have he : ∃ q, h'.get? a = some q := let ⟨q, _, _, hq, _⟩ := dd'; ⟨q, hq⟩
  exact d_write I (by rw [e]; exact True.intro) hs he (dk_new (Nat.le_trans (length_mergeK more kvs) hz) hd (KV.merge rel2 rel) dd')
def tMore (td ty : TE) : TE := fun σ H Q => td σ H fun x H1 => ∃ a, x = .ref a ∧ IsD H1 a ∧ ty σ H1 fun y H2 => ∃ b kvs more, y = .ref b ∧ H2 a = some (.dK kvs) ∧ H2 b = some (.dK more) ∧ a ≠ b ∧ kvs.length + more.length ≤ sizeLine ∧ Q .non (upd H2 a (.dK (mergeK kvs more)))
theorem pe_more {X : Cx} {o e : Expr} {apos cpos : Pos} {td ty : TE} (ho : PE X o td) (he : PE X e ty) (m : M1 X o "update" apos e cpos) : PE X (.Call (.Attribute o "update" apos) [e] [] cpos) (tMore td ty) := by
  refine ⟨fun pins s σ H Q I h => ?_⟩
  refine wpAny_Call_method m.base m.few m.line PySem.F.plainAttrs_dict PySem.F.slot_dict_update PySem.F.type_dict_update (thn (ho.run pins s σ H _ I h) fun u s1 ⟨x, H1, I1, rx, a, ex, d, q1⟩ => ?_)
  subst ex
  obtain rfl : u = Value.ref a := rx
  obtain ⟨t1, t2, _⟩ := isD_at I1 d
  refine ⟨t1, t2, ?_⟩
  rw [m.trees]
  refine Calls.callWith_builtin rfl (Calls.evalArgs_plain (Calls.spliced_cons (thn (he.run pins s1 σ H1 _ I1 q1) fun iv s2 ⟨y, H2, I2, ry, b, kvs, more, ey, ea, eb, hne, hz, q2⟩ => Calls.spliced_nil ?_)))
  subst ey
  obtain rfl : iv = Value.ref b := ry
  exact d_more I2 ea eb hne hz fun s3 I3 => ⟨.non, _, I3, rfl, q2⟩
section
variable {X : Cx} {C : Cn}
def eDMore (fd fk : EDen) : EDen := fun e m => (fd e m).bind fun x m1 => match dDict m1 x with
  | none => .bad
  | some _ => (fk e m1).bind fun y m2 => match dDict m2 x, dDict m2 y with
    | some (n, kvs), some (k, more) => if n ≠ k ∧ kvs.length + more.length ≤ 1000000 then .ok .non (m2.set n (.dct (mergeD kvs more))) else .bad
    | _, _ => .bad
theorem de_dmore {o i : Expr} {apos cpos : Pos} {fd fk : EDen} (ho : DE X C o fd) (hi : DE X C i fk) (m1 : M1 X o "update" apos i cpos := by exact ⟨rfl, rfl, rfl, rfl⟩) : DE X C (.Call (.Attribute o "update" apos) [i] [] cpos) (eDMore fd fk) :=
  pe_weak (pe_more ho hi m1) fun σ H Q ⟨e, m, G, ph, Eo, I, h⟩ => goE Eo I h fun x m1 G1 ph1 H1 v Eo1 I1 X1 r1 h1 => by
    cases q0 : dDict m1 x with
    | none =>
      simp only [q0] at h1
      exact h1.elim
    | some p0 =>
      simp only [q0] at h1
      obtain ⟨n0, kvs0⟩ := p0
      obtain ⟨a0, kv0, e0, _, _, ha0, _⟩ := dDict_rep I1 q0 r1
      refine ⟨a0, e0, .inl ⟨kv0, .inl ha0⟩, ?_⟩
      refine goE Eo1 I1 h1 fun y m2 G2 ph2 H2 u Eo2 I2 X2 r2 h2 => ?_
      cases q : dDict m2 x with
      | none =>
        simp only [q] at h2
        exact h2.elim
      | some p =>
        obtain ⟨n, kvs⟩ := p
        cases qk : dDict m2 y with
        | none =>
          simp only [q, qk] at h2
          exact h2.elim
        | some pk =>
          obtain ⟨k, more⟩ := pk
          simp only [q, qk] at h2
          by_cases hc : n ≠ k ∧ kvs.length + more.length ≤ 1000000
          · rw [if_pos hc] at h2
            obtain ⟨a, kv, e1, hp, hm, ha, rr⟩ := dDict_rep I2 q (RepV.mono X2.g X2.p _ _ r1)
            obtain ⟨b, kv2, e2, hp2, hm2, hb, rr2⟩ := dDict_rep I2 qk r2
            have ea : a = a0 := by
              rw [e0] at e1
              exact (V.ref.inj e1).symm
            subst ea
            have hab : a ≠ b := fun z => by
              subst z
              exact hc.1 (nodup_at I2.nd hp hp2)
            have lk : ∀ {ks : List (Key × D)} {vs : List (Key × V)}, RepK C.K G2 ph2 ks vs → vs.length = ks.length := fun r => by
              have := congrArg List.length r.1
              simpa using this
            obtain ⟨I4, X4⟩ := I2.write hp hm (by intro z; cases z) (.dK (mergeK kv kv2)) (mo' := .dct (mergeD kvs more)) ⟨_, upd_same, (merge_rep rr2 rr).1, (merge_rep rr2 rr).2⟩
            exact ⟨b, kv, kv2, e2, ha, hb, hab, by rw [lk rr, lk rr2]; exact small_line hc.2, h2 _ _ _ I4 X4 _ rfl⟩
          · rw [if_neg hc] at h2
            exact h2.elim
end
end DL

/-! ## sorted of pairs (text, anything), the texts all different -/
namespace SrtO
open PySem PyProof.Rows Srt
section
variable {prog : Program} {w : World} {A : Around} {E : Value → Shared → Prop} {s : Shared}
def IsSP (h : Heap) (v : Value) (x : PySem.Str) : Prop := ∃ a o t u n, v = .ref a ∧ h.get? a = some o ∧ o.cls = .type "tuple" ∧ o.data = .seq #[.str x t, u] n
theorem IsSP.keeps {h h' : Heap} {v : Value} {x : PySem.Str} (p : IsSP h v x) (k : ∀ b o, h.get? b = some o → o.cls = .type "tuple" → h'.get? b = some o) : IsSP h' v x := by
  obtain ⟨a, o, t, u, n, e, ho, hc, hd⟩ := p
  exact ⟨a, o, t, u, n, e, k _ _ ho hc, hc, hd⟩
def ltSt (x y : PySem.Str) : Bool := decide (x.cps.toList < y.cps.toList)
theorem swo_sp (k : Value → PySem.Str) : Swo fun v u => ltSt (k v) (k u) := by
  refine ⟨fun x y h => ?_, fun x y z h1 h2 => ?_⟩
  · have a := of_decide_eq_true h
    exact decide_eq_false (fun z => List.lt_irrefl _ (List.lt_trans a z))
  · have a := List.not_lt.mp (of_decide_eq_false h1)
    have b := List.not_lt.mp (of_decide_eq_false h2)
    exact decide_eq_false (List.not_lt.mpr (by first | exact List.le_trans a b | exact List.le_trans b a))
theorem sp_cmp {vs : List Value} {k : Value → PySem.Str} (hp : ∀ v ∈ vs, IsSP s.heap v (k v)) (hi : ∀ v ∈ vs, ∀ u ∈ vs, k v = k u → v = u) : Cmp prog w A s (tuples' true) (fun p => p.1 ∈ vs) (lt2 fun v u => ltSt (k v) (k u)) := by
  intro p q hm hm'
  have h1 := hp _ hm
  have h2 := hp _ hm'
  have h3 := hi _ hm _ hm'
  show wpAny (model prog w) A (keyLt' (tuples' true) p.1 q.1) (fun r s' => s' = s ∧ r = ltSt (k p.1) (k q.1)) (fun _ _ => False) s
  unfold ltSt
  by_cases hs : k p.1 = k q.1
  · have hv := h3 hs
    rw [← hv]
    generalize k p.1 = x at h1 ⊢
    obtain ⟨a, o, t, u, n, e, ho, hc, hd⟩ := h1
    rw [e]
    refine PySem.W.kat_lt ho hd ho hd ?_
    show PySem.W.KatLex prog w A true (decide (2 < 2)) _ [(.str x t, .str x t), (u, u)] 0 s
    refine PySem.W.kat_cons (SeqAt.EqAt.same _ prog w _ _ ?_)
    refine PySem.W.kat_yes (PySem.W.kat_cons (SeqAt.EqAt.same _ prog w _ _ ?_))
    refine PySem.W.kat_yes (PySem.W.kat_nil ⟨rfl, ?_⟩)
    rw [decide_eq_false (List.lt_irrefl _)]
    rfl
  · generalize k p.1 = x at h1 hs ⊢
    generalize k q.1 = x' at h2 hs ⊢
    obtain ⟨a, o, t, u, n, e, ho, hc, hd⟩ := h1
    obtain ⟨a', o', t', u', n', e', ho', hc', hd'⟩ := h2
    rw [e, e']
    refine PySem.W.kat_lt ho hd ho' hd' ?_
    show PySem.W.KatLex prog w A true (decide (2 < 2)) _ [(.str x t, .str x' t'), (u, u')] 0 s
    refine PySem.W.kat_cons (SeqAt.EqAt.str_str x t x' t' prog w _ _ ?_)
    refine PySem.W.kat_go (fun e1 => absurd (by simpa using e1) hs) (fun e1 => ?_)
    exact PySem.W.kat_no (oneLt_str ⟨rfl, rfl⟩)
theorem firsts_sp {h : Heap} : ∀ {vs : List Value}, (∀ v ∈ vs, ∃ x, IsSP h v x) → ∃ fs : List Value, PySem.W.KatTups h vs fs ∧ fs.length = vs.length ∧ ∀ f ∈ fs, ∃ x t, f = Value.str x t
  | [], _ => ⟨[], PySem.W.KatTups.nil, rfl, fun _ hm => by simp at hm⟩
  | v :: vs, hp => by
    obtain ⟨fs, h1, h2, h3⟩ := firsts_sp (vs := vs) fun v' hm => hp v' (List.mem_cons_of_mem _ hm)
    obtain ⟨x, a, o, t, u, n, e, ho, hc, hd⟩ := hp v (List.mem_cons_self ..)
    subst e
    refine ⟨.str x t :: fs, PySem.W.KatTups.cons ho hc hd rfl h1, by rw [List.length_cons, List.length_cons, h2], fun f hm => ?_⟩
    rcases List.mem_cons.mp hm with rfl | hm
    · exact ⟨x, t, rfl⟩
    · exact h3 f hm
theorem sp_sortable {a : Addr} {vs : List Value} {k : Value → PySem.Str} (h0 : 0 < vs.length) (hp : ∀ v ∈ vs, IsSP s.heap v (k v)) (hi : ∀ v ∈ vs, ∀ u ∈ vs, k v = k u → v = u) (ha : ∀ o, s.heap.get? a = some o → o.cls ≠ .type "tuple") : SortableO prog w A s a vs fun v u => ltSt (k v) (k u) := by
  intro h' keep
  have hp' : ∀ v ∈ vs, IsSP h' v (k v) := fun v hm => (hp v hm).keeps fun b o e c => keep b o (fun z => by subst z; exact ha o e c) e
  obtain ⟨fs, h1, h2, h3⟩ := firsts_sp fun v hm => ⟨_, hp' v hm⟩
  refine ⟨tuples' true, fun Q E hq => ?_, sp_cmp hp' hi⟩
  refine PySem.W.kat_kind (T := .type "str") h1 (by omega) (fun f hm => ?_) (by rfl) ?_
  · obtain ⟨x, t, rfl⟩ := h3 f hm
    exact PySem.W.Looks.now
  · have e : (Value.type "str" != Value.type "tuple") = true := by first | decide +kernel | rfl | decide
    rw [e]
    exact hq
end
end SrtO
namespace L2
open PySem PySem.Spec PyProof.Rows
/-- which text stands first -/
def keySP (h : Heap) : Value → PySem.Str
  | .ref t => match h.get? t with
    | some o => match o.data with
      | .seq its _ => match (its[0]? : Option Value) with
        | some (Value.str x _) => x
        | _ => ""
      | _ => ""
    | none => ""
  | _ => ""
def rSortedSP (K : PySem.W.Frag) : List V → Hp → VK → Prop := fun vs H Q => ∃ (a : Addr) (xs : List V) (ns : List PySem.Str), vs = [V.ref a] ∧ SqL K H a xs ∧ xs.length = ns.length ∧ (∀ (i : Nat) (x : V) (n : PySem.Str), xs[i]? = some x → ns[i]? = some n → ∃ t v, x = V.ref t ∧ SqT K H t [.str n, v]) ∧ ns.Nodup ∧
  ∀ (zs : List (PySem.Str × V)) (p : Addr), zs.Perm (ns.zip xs) → (zs.map (·.1)).Pairwise (fun x y => SrtO.ltSt y x = false) → H p = none → Q (.ref p) (upd H p (.lst (zs.map (·.2))))
section
variable {X : Cx}
theorem nodup_idx {α : Type} : ∀ {l : List α} {i j : Nat} {x : α}, l.Nodup → l[i]? = some x → l[j]? = some x → i = j
  | [], i, j, x, _, h, _ => by simp at h
  | a :: l, 0, 0, x, _, _, _ => rfl
  | a :: l, 0, j + 1, x, nd, h, k => by
    simp at h k
    subst h
    exact absurd (List.mem_of_getElem? k) (List.nodup_cons.mp nd).1
  | a :: l, i + 1, 0, x, nd, h, k => by
    simp at h k
    subst k
    exact absurd (List.mem_of_getElem? h) (List.nodup_cons.mp nd).1
  | a :: l, i + 1, j + 1, x, nd, h, k => by
    have q := nodup_idx (i := i) (j := j) (List.nodup_cons.mp nd).2 (by simpa using h) (by simpa using k)
    rw [q]
theorem list_ext_get {α : Type} : ∀ {a b : List α}, a.length = b.length → (∀ (i : Nat) (x y : α), a[i]? = some x → b[i]? = some y → x = y) → a = b
  | [], [], _, _ => rfl
  | [], _ :: _, h, _ => by simp at h
  | _ :: _, [], h, _ => by simp at h
  | x :: a, y :: b, h, k => by
    rw [k 0 x y rfl rfl, list_ext_get (a := a) (b := b) (by simpa using h) fun i u v hu hv => k (i + 1) u v (by simpa using hu) (by simpa using hv)]
theorem cr_sortedSP : CallR X (.builtin "sorted") (rSortedSP X.K) := by
  intro pins s σ H vs us Q I r h
  obtain ⟨a, xs, ns, rfl, hs, hln, hx, hnd, q⟩ := h
  obtain ⟨its, rv, hl, hz⟩ := I.list hs
  obtain ⟨u, rfl, ru⟩ := vals1 r
  obtain rfl : u = Value.ref a := ru
  obtain ⟨e1, e2⟩ := refs_back rv fun x m => by
    obtain ⟨i, hi, e⟩ := List.getElem_of_mem m
    obtain ⟨t, v, e', _⟩ := hx i x ns[i] (by rw [List.getElem?_eq_getElem hi, e]) (List.getElem?_eq_getElem (by omega))
    exact ⟨t, e'⟩
  have hlen : its.length = ns.length := by rw [← rv.length]; exact hln
  -- each is such a pair
  have each : ∀ (i : Nat) (v : Value) (n : PySem.Str), its[i]? = some v → ns[i]? = some n → SrtO.IsSP s.heap v n ∧ keySP s.heap v = n := fun i v n hv hn => by
    obtain ⟨t, rfl⟩ := e2 v (List.mem_of_getElem? hv)
    have hxi : xs[i]? = some (V.ref t) := by
      rw [e1, List.getElem?_map, hv]
      rfl
    obtain ⟨t', u, e, ht⟩ := hx i _ n hxi hn
    cases e
    obtain ⟨its2, rv2, hT, _⟩ := I.tuple ht
    obtain ⟨u1, u2, rfl, r1, r2⟩ := vals2 rv2
    obtain ⟨tk, rfl⟩ := r1
    obtain ⟨o, ho, hc, k, hd⟩ := hT
    exact ⟨⟨t, o, tk, u2, k, rfl, ho, hc, hd⟩, by simp [keySP, ho, hd]⟩
  have nk : its.map (keySP s.heap) = ns := list_ext_get (by rw [List.length_map]; exact hlen) fun i x n hx' hn => by
    rw [List.getElem?_map] at hx'
    obtain ⟨v, hv, rfl⟩ := Option.map_eq_some_iff.mp hx'
    exact (each i v n hv hn).2
  have pr : ∀ v ∈ its, SrtO.IsSP s.heap v (keySP s.heap v) := fun v hv => by
    obtain ⟨i, hi, e⟩ := List.getElem_of_mem hv
    have h1 : its[i]? = some v := by rw [List.getElem?_eq_getElem hi, e]
    have h2 := each i v ns[i] h1 (List.getElem?_eq_getElem (by omega))
    rw [h2.2]
    exact h2.1
  have inj : ∀ v ∈ its, ∀ u ∈ its, keySP s.heap v = keySP s.heap u → v = u := fun v hv u hu e => by
    obtain ⟨i, hi, ei⟩ := List.getElem_of_mem hv
    obtain ⟨j, hj, ej⟩ := List.getElem_of_mem hu
    have a1 := (each i v ns[i] (by rw [List.getElem?_eq_getElem hi, ei]) (List.getElem?_eq_getElem (by omega))).2
    have a2 := (each j u ns[j] (by rw [List.getElem?_eq_getElem hj, ej]) (List.getElem?_eq_getElem (by omega))).2
    have e3 : ns[i]'(by omega) = ns[j]'(by omega) := by rw [← a1, ← a2, e]
    have : i = j := nodup_idx hnd (List.getElem?_eq_getElem (by omega)) (by rw [e3]; exact List.getElem?_eq_getElem (by omega))
    subst this
    rw [← ei, ← ej]
  refine SrtO.sorted_ord (SrtO.swo_sp (keySP s.heap)) hl.isList (by rw [← rv.length]; exact hz) (fun h2 h₁ a' ha kk => ?_) fun out hs' hb => ?_
  · refine SrtO.sp_sortable (s := { s with heap := h₁ }) (by omega) (fun v hv => (pr v hv).keeps fun b o e _ => (kk b o e).2) inj fun o e => ?_
    have e' : some o = some (PyProof.Rows.seqObj "list" its.toArray 0) := e.symm.trans ha
    cases e'
    intro c
    exact absurd (Value.type.inj c) (by decide)
  · have h3 : ∀ u ∈ out, ∃ a, u = Value.ref a := fun u hu => e2 u (hb.perm.mem_iff.mp hu)
    have hp : (out.map backV).Perm xs := by
      rw [e1]
      exact hb.perm.map backV
    obtain ⟨ep, he'⟩ := PyProof.Rows.sortedAll_at s.heap its out.toArray
    have zp : (out.map fun u => (keySP s.heap u, backV u)).Perm (ns.zip xs) := by
      have e : ns.zip xs = its.map fun u => (keySP s.heap u, backV u) := by
        rw [← nk, e1]
        clear nk e1 hlen hx each pr inj hb hs' he' hp hnd hl hs rv
        induction its with
        | nil => rfl
        | cons x l ih => rw [List.map_cons, List.map_cons, List.zip_cons_cons, ih fun u hu => e2 u (List.mem_cons_of_mem _ hu)]; rfl
      rw [e]
      exact hb.perm.map _
    have e4 : (out.map fun u => (keySP s.heap u, backV u)).map (·.2) = out.map backV := by rw [List.map_map]; rfl
    have q' := q (out.map fun u => (keySP s.heap u, backV u)) (s.heap.objs.size + 1) zp (by
      rw [List.map_map]
      exact List.pairwise_map.mpr hs') (I.hok.fresh (Nat.le_succ _))
    rw [e4] at q'
    refine ⟨.ref _, upd H (s.heap.objs.size + 1) (.lst (out.map backV)), I.laid (t' := s.toks) (fun _ _ => PyProof.Rows.sortedAll_old) (Nat.le_succ _) ⟨?_, out, ep, vals_back h3, he'⟩, rfl, q'⟩
    rw [hp.length_eq]
    exact hz
end
end L2
namespace DL
open PySem L2
def pairsP : List D → Option (List (Str × D))
  | [] => some []
  | .tup [.str n, d] :: r => (pairsP r).map ((n, d) :: ·)
  | _ => none
def pairP (p : Str × D) : D := .tup [.str p.1, p.2]
theorem pairsP_eq : ∀ {ds : List D} {ps : List (Str × D)}, pairsP ds = some ps → ds = ps.map pairP
  | [], ps, h => by
    cases h
    rfl
  | d :: ds, ps, h => by
    unfold pairsP at h
    split at h
    · rename_i e
      cases e
    · rename_i n d' r e
      cases e
      cases q : pairsP ds with
      | none =>
        rw [q] at h
        cases h
      | some js =>
        rw [q] at h
        cases h
        rw [pairsP_eq q]
        rfl
    · cases h
def insP (x : Str × D) : List (Str × D) → List (Str × D)
  | [] => [x]
  | y :: r => if leS x.1 y.1 = true then x :: y :: r else y :: insP x r
def srtP : List (Str × D) → List (Str × D)
  | [] => []
  | x :: r => insP x (srtP r)
theorem insP_perm (x : Str × D) : ∀ l : List (Str × D), (insP x l).Perm (x :: l)
  | [] => List.Perm.refl _
  | y :: r => by
    unfold insP
    split
    · exact List.Perm.refl _
    · exact ((insP_perm x r).cons y).trans (List.Perm.swap x y r)
theorem srtP_perm : ∀ l : List (Str × D), (srtP l).Perm l
  | [] => List.Perm.refl _
  | x :: r => (insP_perm x (srtP r)).trans ((srtP_perm r).cons x)
theorem insP_keys (x : Str × D) : ∀ l : List (Str × D), (insP x l).map (·.1) = insS x.1 (l.map (·.1))
  | [] => rfl
  | y :: r => by
    unfold insP
    rw [List.map_cons]
    unfold insS
    split
    · rfl
    · rw [List.map_cons, insP_keys x r]
theorem srtP_keys : ∀ l : List (Str × D), (srtP l).map (·.1) = srtS (l.map (·.1))
  | [] => rfl
  | x :: r => by
    show (insP x (srtP r)).map (·.1) = insS x.1 (srtS (r.map (·.1)))
    rw [insP_keys, srtP_keys r]
/-- two lists of pairs by the same different keys, both rising, are one -/
theorem pairs_one {α : Type} : ∀ {a b : List (Str × α)}, a.Perm b → UpS (a.map (·.1)) → UpS (b.map (·.1)) → (a.map (·.1)).Nodup → a = b
  | [], b, p, _, _, _ => (List.Perm.nil_eq p)
  | x :: a, b, p, ha, hb, nd => by
    match b, p, hb with
    | [], p, _ => exact absurd p.length_eq (by simp)
    | y :: b, p, hb =>
      obtain ⟨a1, a2⟩ := List.pairwise_cons.mp ha
      obtain ⟨b1, b2⟩ := List.pairwise_cons.mp hb
      obtain ⟨n1, n2⟩ := List.nodup_cons.mp nd
      have e : x = y := by
        have hx : x ∈ y :: b := p.subset List.mem_cons_self
        have hy : y ∈ x :: a := p.symm.subset List.mem_cons_self
        rcases List.mem_cons.mp hx with h | h
        · exact h
        · rcases List.mem_cons.mp hy with k | k
          · exact k.symm
          · have e1 := leS_anti (a1 y.1 (List.mem_map_of_mem k)) (b1 x.1 (List.mem_map_of_mem h))
            exact absurd (by rw [e1]; exact List.mem_map_of_mem k) n1
      subst e
      rw [pairs_one (p.cons_inv) a2 b2 n2]
section
variable {X : Cx} {C : Cn}
theorem RepL.pairs_inv {K : PySem.W.Frag} {G : Hp} {ph : List Addr} : ∀ {ps : List (Str × D)} {vs : List V}, RepL K G ph (ps.map pairP) vs → vs.length = ps.length ∧ (∀ (i : Nat) (x : V) (p : Str × D), vs[i]? = some x → ps[i]? = some p → ∃ t v, x = V.ref t ∧ SqT K G t [.str p.1, v] ∧ RepV K G ph (pairP p) x)
  | [], _, r => by
    have e : _ = [] := r
    subst e
    exact ⟨rfl, fun i x p h => by simp at h⟩
  | p :: ps, _, r => by
    obtain ⟨v, t, rfl, r1, r2⟩ := r
    obtain ⟨l1, l2⟩ := RepL.pairs_inv r2
    refine ⟨by rw [List.length_cons, List.length_cons, l1], fun i x p' hx hp => ?_⟩
    cases i with
    | zero =>
      cases hx
      cases hp
      have r1' := r1
      obtain ⟨a, us, e, h1, h2⟩ := r1'
      obtain ⟨u1, t1, rfl, q1, q2⟩ := h2
      obtain ⟨u2, t2, rfl, q3, q4⟩ := q2
      have e4 : t2 = [] := q4
      have e5 : u1 = .str p.1 := q1
      subst e4 e5
      exact ⟨a, u2, e, h1, r1⟩
    | succ i => exact l2 i x p' (by simpa using hx) (by simpa using hp)
def bSortP : Mem → List D → Res D := fun m xs => match xs with
  | [x] => match dList m x with
    | some ds => match pairsP ds with
      | some ps => if (ps.map (·.1)).Nodup then .ok (.lst ((srtP ps).map pairP)) m else .bad
      | none => .bad
    | none => .bad
  | _ => .bad
theorem zip_rep {K : PySem.W.Frag} {G : Hp} {ph : List Addr} : ∀ (ps : List (Str × D)) (us : List V) (i : Nat) (z : Str × V), ((ps.map (·.1)).zip us)[i]? = some z → ∃ p, ps[i]? = some p ∧ us[i]? = some z.2 ∧ p.1 = z.1
  | [], us, i, z, h => by simp at h
  | p :: ps, [], i, z, h => by simp at h
  | p :: ps, u :: us, 0, z, h => by
    simp at h
    subst h
    exact ⟨p, rfl, rfl, rfl⟩
  | p :: ps, u :: us, i + 1, z, h => by
    obtain ⟨q, h1, h2, h3⟩ := zip_rep (K := K) (G := G) (ph := ph) ps us i z (by simpa using h)
    exact ⟨q, by simpa using h1, by simpa using h2, h3⟩
theorem call_sortP (hK : C.K = X.K := by rfl) : CallD X C (.builtin "sorted") bSortP := by
  refine ⟨_, cr_sortedSP, ?_⟩
  intro m G ph H xs vs Q I r h
  unfold bSortP at h
  split at h
  rotate_left
  · exact h.elim
  · rename_i x
    obtain ⟨v, rfl, r1⟩ := repl1 r
    cases q : dList m x with
    | none =>
      rw [q] at h
      exact h.elim
    | some ds =>
      rw [q] at h
      obtain ⟨a, us, rfl, ha, rr⟩ := dList_rep I q r1
      cases qs : pairsP ds with
      | none =>
        simp only [qs] at h
        exact h.elim
      | some ps =>
        simp only [qs] at h
        have e := pairsP_eq qs
        subst e
        by_cases c : (ps.map (·.1)).Nodup
        · simp only [if_pos c] at h
          obtain ⟨l1, l2⟩ := RepL.pairs_inv rr
          refine ⟨a, us, ps.map (·.1), rfl, SqL.of ha, by rw [List.length_map]; exact l1, fun i x n hx hn => ?_, c, fun zs p hz1 hz2 hp => ?_⟩
          · rw [List.getElem?_map] at hn
            obtain ⟨p, hp, rfl⟩ := Option.map_eq_some_iff.mp hn
            obtain ⟨t, v, e, h1, _⟩ := l2 i x p hx hp
            exact ⟨t, v, e, sqT_mono I.sub (by rw [← hK]; exact h1)⟩
          · -- which data they are
            have hall : ∀ z ∈ zs, ∃ p ∈ ps, p.1 = z.1 ∧ RepV C.K G ph (pairP p) z.2 := fun z hz => by
              obtain ⟨i, hi, e⟩ := List.getElem_of_mem (hz1.subset hz)
              obtain ⟨p, h1, h2, h3⟩ := zip_rep (K := C.K) (G := G) (ph := ph) ps us i z (by rw [List.getElem?_eq_getElem hi, e])
              obtain ⟨_, _, _, _, h4⟩ := l2 i z.2 p h2 h1
              exact ⟨p, List.mem_of_getElem? h1, h3, h4⟩
            obtain ⟨I2, X2⟩ := I.frozen hp (.lst (zs.map (·.2)))
            refine h _ _ _ I2 X2 _ ⟨p, _, rfl, upd_same, ?_⟩
            have key : ∀ zs : List (Str × V), (∀ z ∈ zs, ∃ p ∈ ps, p.1 = z.1 ∧ RepV C.K G ph (pairP p) z.2) → ∃ qs : List (Str × D), qs.map (·.1) = zs.map (·.1) ∧ (∀ q ∈ qs, q ∈ ps) ∧ RepL C.K G ph (qs.map pairP) (zs.map (·.2)) := by
              intro zs
              induction zs with
              | nil => exact fun _ => ⟨[], rfl, fun q h => (by cases h), rfl⟩
              | cons z zs ih =>
                intro hz
                obtain ⟨p, hp1, hp2, hp3⟩ := hz z (by simp)
                obtain ⟨qs, g1, g2, g3⟩ := ih fun z hz' => hz z (by simp [hz'])
                refine ⟨p :: qs, by simp [hp2, g1], fun q hq => ?_, ⟨z.2, _, rfl, hp3, g3⟩⟩
                rcases List.mem_cons.mp hq with rfl | hq
                · exact hp1
                · exact g2 q hq
            obtain ⟨qs', g1, g2, g3⟩ := key zs hall
            have kperm : (qs'.map (·.1)).Perm (ps.map (·.1)) := by
              rw [g1]
              have e2 : ((ps.map (·.1)).zip us).map (·.1) = ps.map (·.1) := List.map_fst_zip (by rw [List.length_map]; omega)
              have := hz1.map (·.1)
              rw [e2] at this
              exact this
            have nd' : (qs'.map (·.1)).Nodup := kperm.nodup_iff.mpr c
            have inj : ∀ p ∈ ps, ∀ q ∈ ps, p.1 = q.1 → p = q := fun p hp q hq e => by
              obtain ⟨i, hi, ei⟩ := List.getElem_of_mem hp
              obtain ⟨j, hj, ej⟩ := List.getElem_of_mem hq
              have : i = j := nodup_idx c (x := p.1) (by rw [List.getElem?_map, List.getElem?_eq_getElem hi, ei]; rfl) (by rw [List.getElem?_map, List.getElem?_eq_getElem hj, ej, e]; rfl)
              subst this
              rw [← ei, ← ej]
            have qperm : qs'.Perm ps := by
              refine (List.perm_ext_iff_of_nodup (TS_nodup nd') (TS_nodup c)).mpr fun p => ⟨g2 p, fun hp => ?_⟩
              obtain ⟨q, hq, e⟩ := List.mem_map.mp (kperm.symm.subset (List.mem_map_of_mem hp))
              rw [← inj q (g2 q hq) p hp e]
              exact hq
            have up : UpS (qs'.map (·.1)) := by
              rw [g1]
              refine hz2.imp fun {x y} hxy => ?_
              unfold leS
              rw [show decide (y.cps.toList < x.cps.toList) = false from hxy]
              rfl
            have fin : qs' = srtP ps := pairs_one (qperm.trans (srtP_perm ps).symm) up (by rw [srtP_keys]; exact srtS_sorted _) nd'
            rw [← fin]
            exact RepL.mono X2.g X2.p _ _ g3
        · simp only [if_neg c] at h
          exact h.elim
where TS_nodup {α β : Type} {f : α → β} {l : List α} (h : (l.map f).Nodup) : l.Nodup := List.Pairwise.of_map f (fun _ _ hne e => hne (congrArg f e)) h
end
end DL

namespace DL
open PySem L2 PySem.Spec PyProof.Rows
section
variable {X : Cx} {C : Cn}
def repD (xs : List D) (k : Int) : List D := (List.replicate k.toNat xs).flatten
theorem rep_rep {K : PySem.W.Frag} {G : Hp} {ph : List Addr} {xs : List D} {vs : List V} (h : RepL K G ph xs vs) : ∀ n : Nat, RepL K G ph (List.replicate n xs).flatten (List.replicate n vs).flatten
  | 0 => rfl
  | n + 1 => by
    rw [List.replicate_succ, List.replicate_succ, List.flatten_cons, List.flatten_cons]
    exact h.append (rep_rep h n)
/-- int * int; a tuple, a list some times -/
def oMulR : Op2 := fun m x y => match x, y with
  | .int i, .int j => oMul m (.int i) (.int j)
  | .tup xs, .int k => if xs ≠ [] ∧ 0 ≤ k ∧ k ≤ 1000 ∧ xs.length ≤ 1000 then .ok (.tup (repD xs k)) m else .bad
  | x, .int k => match dList m x with
    | some xs => if xs.length ≤ 1000 ∧ 0 ≤ k ∧ k ≤ 1000 then .ok (.lst (repD xs k)) m else .bad
    | none => .bad
  | _, _ => .bad
theorem opd_mulR (hK : C.K = X.K := by rfl) : OpD X C (binaryOp .Mult) oMulR := by
  obtain ⟨r, o1, s1⟩ := (opd_mul : OpD X C (binaryOp .Mult) oMul)
  refine ⟨_, o1.or (op_few.or (op_repT.or op_rep)), ?_⟩
  intro m G ph H x y v u Q I rx ry h
  cases y with
  | int k =>
    have e2 : u = .int k := ry
    subst e2
    have lists : ∀ {x : D}, RepV C.K G ph x v → Post C G ph H (fun d _ G' ph' H' => ∀ w, RepV C.K G' ph' d w → Q w H') (match dList m x with
      | some xs => if xs.length ≤ 1000 ∧ 0 ≤ k ∧ k ≤ 1000 then (.ok (.lst (repD xs k)) m : Res D) else .bad
      | none => .bad) → rRep v (.int k) H Q := fun {x} rx h => by
      cases hx : dList m x with
      | none =>
        rw [hx] at h
        exact h.elim
      | some xs =>
        rw [hx] at h
        simp only [] at h
        obtain ⟨a, vs, rfl, ha, r1⟩ := dList_rep I hx rx
        by_cases hc : xs.length ≤ 1000 ∧ 0 ≤ k ∧ k ≤ 1000
        · rw [if_pos hc] at h
          obtain ⟨hl, h0, h1⟩ := hc
          refine ⟨a, k, vs, rfl, rfl, ha, by omega, by omega, small_line ?_, fun p hp => ?_⟩
          · rw [r1.length]
            have : k.toNat ≤ 1000 := by omega
            calc xs.length * k.toNat ≤ 1000 * 1000 := Nat.mul_le_mul hl this
              _ ≤ 1000000 := by decide
          · obtain ⟨I2, X2⟩ := I.frozen hp (.lst (List.replicate k.toNat vs).flatten)
            exact h _ _ _ I2 X2 _ ⟨p, _, rfl, upd_same, RepL.mono X2.g X2.p _ _ (rep_rep r1 _)⟩
        · rw [if_neg hc] at h
          exact h.elim
    cases x with
    | int i => exact .inl (s1 m G ph H _ _ _ _ Q I rx ry h)
    | tup xs =>
      have h2 : Post C G ph H (fun d _ G' ph' H' => ∀ w, RepV C.K G' ph' d w → Q w H') (if xs ≠ [] ∧ 0 ≤ k ∧ k ≤ 1000 ∧ xs.length ≤ 1000 then (.ok (.tup (repD xs k)) m : Res D) else .bad) := h
      obtain ⟨a, vs, rfl, q1, r1⟩ := rx
      by_cases hc : xs ≠ [] ∧ 0 ≤ k ∧ k ≤ 1000 ∧ xs.length ≤ 1000
      · rw [if_pos hc] at h2
        obtain ⟨hn, h0, h1, hl⟩ := hc
        have hv : vs ≠ [] := fun e => by
          subst e
          exact hn (List.length_eq_zero_iff.mp (by rw [← r1.length] <;> rfl))
        have hT : SqT X.K H a vs := by rw [← hK]; exact sqT_mono I.sub q1
        by_cases k1 : k = 1
        · subst k1
          have e : repD xs 1 = xs := by
            show (List.replicate 1 xs).flatten = xs
            simp
          rw [e] at h2
          exact .inr (.inl ⟨a, 1, vs, rfl, rfl, hT, hv, .inl ⟨rfl, h2.here I _ ⟨a, vs, rfl, q1, r1⟩⟩⟩)
        · by_cases k0 : k = 0
          · subst k0
            have e : repD xs 0 = [] := by
              show (List.replicate 0 xs).flatten = []
              simp
            rw [e] at h2
            refine .inr (.inl ⟨a, 0, vs, rfl, rfl, hT, hv, .inr ⟨rfl, fun p hp => ?_⟩⟩)
            obtain ⟨I2, X2⟩ := I.frozen hp (.tup [])
            exact h2 _ _ _ I2 X2 _ ⟨p, _, rfl, SqT.of upd_same, rfl⟩
          · refine .inr (.inr (.inl ⟨a, k, vs, rfl, rfl, hT, hv, by omega, h1, by rw [r1.length]; exact hl, fun p hp => ?_⟩))
            obtain ⟨I2, X2⟩ := I.frozen hp (.tup (List.replicate k.toNat vs).flatten)
            exact h2 _ _ _ I2 X2 _ ⟨p, _, rfl, SqT.of upd_same, RepL.mono X2.g X2.p _ _ (rep_rep r1 _)⟩
      · rw [if_neg hc] at h2
        exact h2.elim
    | _ => exact .inr (.inr (.inr (lists rx h)))
  | _ => cases x <;> exact h.elim
/-- xs.index(y), flat things -/
def mIdx : Mem → D → List D → Res D := fun m x xs => match xs with
  | [y] => match dList m x with
    | some ds => if flatD y = true ∧ ds.all flatD = true then (match ds.findIdx? (fun d => eqV (toV d) (toV y)) with
      | some j => .ok (.int (j : Nat)) m
      | none => .bad) else .bad
    | none => .bad
  | _ => .bad
theorem idx_snd (hK : C.K = X.K := by rfl) : SndM C (rIndex X.K) mIdx := by
  intro m G ph H x v xs vs Q I rx rxs h
  unfold mIdx at h
  split at h
  rotate_left
  · exact h.elim
  · rename_i y
    obtain ⟨w, rfl, r1⟩ := repl1 rxs
    cases q : dList m x with
    | none =>
      rw [q] at h
      exact h.elim
    | some ds =>
      rw [q] at h
      obtain ⟨a, us, rfl, ha, rr⟩ := dList_rep I q rx
      by_cases c : flatD y = true ∧ ds.all flatD = true
      · simp only [if_pos c] at h
        obtain ⟨e1, f1⟩ := flat_rep c.1 r1
        obtain ⟨e2, f2⟩ := flats_rep c.2 rr
        cases hf : ds.findIdx? (fun d => eqV (toV d) (toV y)) with
        | none =>
          rw [hf] at h
          exact h.elim
        | some j =>
          rw [hf] at h
          obtain ⟨hj, h1, h2⟩ := List.findIdx?_eq_some_iff_getElem.mp hf
          refine ⟨a, us, w, j, toV ds[j], rfl, rfl, SqL.of ha, f1, f2, ?_, ?_, fun k z hk hz => ?_, h.here I _ rfl⟩
          · rw [e2, List.getElem?_map, List.getElem?_eq_getElem hj]
            rfl
          · rw [e1]
            exact h1
          · rw [e2, List.getElem?_map, List.getElem?_eq_getElem (Nat.lt_trans hk hj)] at hz
            cases hz
            rw [e1]
            have := h2 k hk
            simpa using this
      · simp only [if_neg c] at h
        exact h.elim
/-- x in xs, data of any depth -/
def oInP (neg : Bool) : Op2 := fun m x y => match view m x, view m y with
  | some a, some (.lst ds) => if okP a = true ∧ okP (.lst ds) = true then .ok (.bl (if neg then !ds.any (fun z => PyData.eqv (toP z) (toP a)) else ds.any fun z => PyData.eqv (toP z) (toP a))) m else .bad
  | _, _ => .bad
theorem toPL_any (f : PyData → Bool) : ∀ ds : List D, (toPL ds).any f = ds.any fun d => f (toP d)
  | [] => rfl
  | d :: ds => by
    show (toP d :: toPL ds).any f = _
    rw [List.any_cons, List.any_cons, toPL_any f ds]
theorem inP_snd (neg : Bool) (hK : C.K = X.K) : Snd2 C (fun x y H Q => ∃ d ds, Dp X.K H x d ∧ Dp X.K H y (.list ds) ∧ SeqAt.shaped d = true ∧ SeqAt.shaped (.list ds) = true ∧ Q (.bl (if neg then !ds.any (fun z => PyData.eqv z d) else ds.any fun z => PyData.eqv z d)) H) (oInP neg) := by
  intro m G ph H x y v u Q I rx ry h
  rw [← hK]
  unfold oInP at h
  cases hx : view m x with
  | none =>
    simp only [hx] at h
    exact h.elim
  | some a =>
    cases hy : view m y with
    | none =>
      simp only [hx, hy] at h
      exact h.elim
    | some b =>
      cases b with
      | lst ds =>
        simp only [hx, hy] at h
        by_cases c : okP a = true ∧ okP (.lst ds) = true
        · simp only [if_pos c] at h
          obtain ⟨c1, c2⟩ := c
          unfold okP at c1 c2
          rw [Bool.and_eq_true] at c1 c2
          refine ⟨toP a, toPL ds, dp_view I hx c1.1 rx, dp_view I hy c2.1 ry, c1.2, c2.2, ?_⟩
          rw [toPL_any]
          exact h.here I _ rfl
        · simp only [if_neg c] at h
          exact h.elim
      | _ =>
        simp only [hx, hy] at h
        exact h.elim
theorem opd_inP (hu : X.A.units + 65 < cLine) (hK : C.K = X.K := by rfl) : OpD X C (compareOp .In) (oInP false) := ⟨_, op_inD hu, inP_snd (X := X) false hK⟩
theorem opd_notinP (hu : X.A.units + 65 < cLine) (hK : C.K = X.K := by rfl) : OpD X C (compareOp .NotIn) (oInP true) := ⟨_, op_notInD hu, inP_snd (X := X) true hK⟩
end
end DL

/-! ## sorted(set(list of ints)) -/
namespace L2
open PySem PySem.Spec PyProof.Rows
/-- a set that was just made -/
abbrev nS (w : World) : Obj := ⟨.type "set", none, .set #[] 0 (.fresh 0 0 (!w.params.followText "set-order")), #[]⟩
section
variable {prog : Program} {w : World} {A : Around} {E : Value → Shared → Prop} {s : Shared}
abbrev Fed (w : World) (s : Shared) (ns : List Int) (r : Value) (s2 : Shared) : Prop := r = .none ∧ ∃ (g : Heap) (t c : Nat), s2 = { s with heap := g, toks := t } ∧ SetR w g s.heap.objs.size (fun j => decide (j ∈ ns)) c ∧ c ≤ ns.length ∧ (∀ b o, s.heap.get? b = some o → g.get? b = some o)
theorem setOfList {l : Addr} {its : Array Value} (ns : List Int) {Q : Value → Shared → Prop} (hh : A.handled = none) (hl : s.heap.IsList l its) (hi : IntsAre its.toList ns) (few : ns.length + 1 < scanBound)
    (k : ∀ (g : Heap) (t c : Nat), SetR w g s.heap.objs.size (fun j => decide (j ∈ ns)) c → c ≤ ns.length → (∀ b o, s.heap.get? b = some o → g.get? b = some o) → Q (.ref s.heap.objs.size) { s with heap := g, toks := t }) :
    wpAny (model prog w) A (call (.type "set") [.ref l]) Q E s := by
  have size : its.size = ns.length := by rw [← Array.length_toList]; exact IntsAre.length hi
  have ⟨c, tl, mro⟩ := F.called_set.mro; have made := F.called_set.made; have sub := F.called_set.sub
  refine wpAny_call (codeAny_of_tree ?_); show wpAny _ _ (callAny (.type "set") _) _ _ _
  refine wpAny_pure ⟨Code.quiet_builtin _ (by decide +kernel), codeAny_builtin F.entry_type_call ?_⟩; rw [Around.under_plain (weight_type_call_type "set" [.ref l] []) rfl]
  have nt := F.called_set.notType; have cc := F.called_set.canCreate; have ct := F.typeCall_set_1 (.ref l)
  repeat (any_goals (first | assumption | wp_step))
  refine codeAny_mono (code_set_led1 (.ref l) (E := E) (Q₁ := fun ob s1 => ob = .ref s.heap.objs.size ∧ s1 = { s with heap := s.heap.push (nS w) }) ⟨rfl, rfl⟩) fun r s1 hr => ?_
  cases r with
  | error e => exact hr
  | ok f1 =>
    cases f1 <;> first | (exact hr.elim; done) | skip
    obtain ⟨rfl, rfl⟩ := hr
    have at0 : (s.heap.push (nS w)).get? s.heap.objs.size = some (nS w) := Heap.get?_push_size _ rfl
    have ty : Shared.TypeIs { s with heap := s.heap.push (nS w) } (.ref s.heap.objs.size) "set" := ⟨_, at0, rfl⟩
    have look := F.called_set.init.lookup; have bnd := F.called_set.init.bind (.ref s.heap.objs.size)
    repeat (any_goals (first | assumption | wp_step))
    refine codeAny_mono (codeAny_call_builtin (R := wants (Fed w s ns) E) F.called_set.init.plain F.entry_set_init (check_set_init_1 ty ?_)) fun r2 s2 hr2 => ?_
    · obtain ⟨⟨cls, dct, data, slots⟩, ho, hc, n, hd⟩ := hl
      simp only at hc hd; subst hc; subst hd
      have ho2 : (s.heap.push (nS w)).get? l = some ⟨.type "list", dct, .seq its n, slots⟩ := Heap.get?_push_of_some _ ho
      have s1 := F.sub_list_set; have s2 := F.sub_list_frozenset
      have nd : (Value.type "list" == Value.type "dict") = false := by decide
      have hl2 : (s.heap.push (nS w)).IsList l its := ⟨_, ho2, rfl, n, rfl⟩
      unfold Builtin.«set.__init__» noKeywords Builtin.Frozenset.updateFrom; generalize hp : pyIter = PI
      wp_walk
      subst hp
      refine wpAny_pyIter_list hl2 ?_; refine wpAny_bind (wpAny_runValue ?_)
      have below : l < s.heap.objs.size := Heap.lt_size ho
      have quiet : A.in1.in1.in1.handled = none := by simp [hh]
      have sz : (s.heap.push (nS w)).objs.size = s.heap.objs.size + 1 := Heap.size_push ..
      have apart : l ≠ (s.heap.push (nS w)).objs.size := by rw [sz]; exact Nat.ne_of_lt (Nat.lt_succ_of_lt below)
      have out : s.heap.objs.size ∉ [(s.heap.push (nS w)).objs.size, l] := by
        rw [sz]
        simp
        exact Nat.ne_of_gt below
      have vals : ∀ (i : Nat) (v : Value), its[i]? = some v → ∃ k t, ns[i]? = some k ∧ v = .int k t := fun i v hv => by
        have hlt : i < ns.length := by rw [← size]; exact (Array.getElem?_eq_some_iff.mp hv).1
        obtain ⟨t, e⟩ := IntsAre.int_at hi i v (by rw [Array.getElem?_toList]; exact hv)
        have e3 : ns.getD i 0 = ns[i] := by rw [List.getD_eq_getElem?_getD, List.getElem?_eq_getElem hlt]; rfl
        exact ⟨ns[i], t, List.getElem?_eq_getElem hlt, by rw [e, e3]⟩
      refine set_update_ints ((Walks.list quiet _ l apart its).toS) s.heap.objs.size out ns size few vals (its.size - 0) 0 _ (by omega) (Nat.zero_le _) ⟨⟨_, Heap.get?_push_size _ rfl, rfl, rfl⟩, hl2.push _⟩ ?first ?last
      case first => exact ⟨0, Nat.le_refl 0, setR_new_at (Heap.get?_push_of_some _ at0)⟩
      case last =>
        intro s3 c3 mv le3 R3
        obtain ⟨g3, gn3, dr3, tk3, os3⟩ := s3
        obtain rfl : gn3 = s.gens := mv.gens
        obtain rfl : dr3 = s.drawn := mv.drawn
        obtain rfl : os3 = s.os := mv.os
        show wpAny _ _ _ _ _ _; refine wpAny_pure ?_; show wpAny _ _ (ret Value.none) _ _ _; rw [size] at le3
        refine wpAny_pure ⟨rfl, g3, tk3, c3, rfl, R3, le3, fun b o e => ?_⟩
        have lt := Heap.lt_size e
        refine mv.heap b o ?_ (Heap.get?_push_of_some _ (Heap.get?_push_of_some _ e))
        rw [sz]
        simp
        exact ⟨Nat.ne_of_lt lt, Nat.ne_of_lt (Nat.lt_succ_of_lt lt)⟩
    · cases r2 with
      | error e => exact hr2
      | ok f2 =>
        cases f2 <;> first | (exact hr2.elim; done) | skip
        obtain ⟨rfl, g, t, c, rfl, R, le, kp⟩ := hr2
        repeat (any_goals (first | assumption | wp_step))
        exact k g t c R le kp
end
end L2

namespace L2
open PySem PySem.Spec PyProof.Rows
def rSetLI (K : PySem.W.Frag) (w : World) : List V → Hp → VK → Prop := fun vs H Q => ∃ (l : Addr) (ns : List Int), vs = [V.ref l] ∧ SqL K H l (ns.map V.int) ∧ ns.length < 64 ∧ ∀ (p : Addr) (c : Nat), H p = none → c ≤ ns.length → Q (.ref p) (upd H p (SetO w p (fun j => decide (j ∈ ns)) c))
theorem cr_setLI {X : Cx} (hc : X.calm = true) : CallR X (.type "set") (rSetLI X.K X.w) := by
  intro pins s σ H vs us Q I r h
  obtain ⟨l, ns, rfl, hq, h64, q⟩ := h
  obtain ⟨its, rv, pl, hz⟩ := I.list hq
  rw [Vals.ref1 r]
  refine setOfList ns (I.ok.hd hc) pl.isList (by simpa using rv.ints) (by unfold scanBound; omega) fun g t c R le kp => ?_
  exact ⟨.ref _, _, I.laid (t' := t) kp (Nat.le_refl _) (setO_new R), rfl, q _ c (I.hok.fresh (Nat.le_refl _)) le⟩
end L2
namespace DL
open PySem L2
/-- strictly rising, the same members -/
def insU (x : Int) : List Int → List Int
  | [] => [x]
  | y :: r => if x < y then x :: y :: r else if x = y then y :: r else y :: insU x r
def sdI : List Int → List Int
  | [] => []
  | x :: r => insU x (sdI r)
theorem insU_mem (x : Int) : ∀ (l : List Int) (z : Int), z ∈ insU x l ↔ z = x ∨ z ∈ l
  | [], z => by simp [insU]
  | y :: r, z => by
    unfold insU
    split
    · simp
    · split
      · rename_i h
        subst h
        simp
      · rw [List.mem_cons, insU_mem x r z, List.mem_cons]
        constructor
        · rintro (h | h | h)
          · exact .inr (.inl h)
          · exact .inl h
          · exact .inr (.inr h)
        · rintro (h | h | h)
          · exact .inr (.inl h)
          · exact .inl h
          · exact .inr (.inr h)
theorem insU_up (x : Int) : ∀ l : List Int, l.Pairwise (· < ·) → (insU x l).Pairwise (· < ·)
  | [], _ => by simp [insU]
  | y :: r, h => by
    obtain ⟨h1, h2⟩ := List.pairwise_cons.mp h
    unfold insU
    split
    · rename_i c
      refine List.pairwise_cons.mpr ⟨fun z hz => ?_, h⟩
      rcases List.mem_cons.mp hz with rfl | hz
      · exact c
      · exact Int.lt_trans c (h1 z hz)
    · split
      · exact h
      · rename_i c1 c2
        refine List.pairwise_cons.mpr ⟨fun z hz => ?_, insU_up x r h2⟩
        rcases (insU_mem x r z).mp hz with rfl | hz
        · omega
        · exact h1 z hz
theorem sdI_mem : ∀ (l : List Int) (z : Int), z ∈ sdI l ↔ z ∈ l
  | [], z => Iff.rfl
  | x :: r, z => by
    show z ∈ insU x (sdI r) ↔ _
    rw [insU_mem, sdI_mem r z, List.mem_cons]
theorem sdI_up : ∀ l : List Int, (sdI l).Pairwise (· < ·)
  | [] => List.Pairwise.nil
  | x :: r => insU_up x _ (sdI_up r)
theorem strict_one : ∀ {a b : List Int}, a.Pairwise (· < ·) → b.Pairwise (· < ·) → (∀ z, z ∈ a ↔ z ∈ b) → a = b
  | [], [], _, _, _ => rfl
  | [], y :: b, _, _, h => absurd ((h y).mpr (by simp)) (by simp)
  | x :: a, [], _, _, h => absurd ((h x).mp (by simp)) (by simp)
  | x :: a, y :: b, ha, hb, h => by
    obtain ⟨a1, a2⟩ := List.pairwise_cons.mp ha
    obtain ⟨b1, b2⟩ := List.pairwise_cons.mp hb
    have e : x = y := by
      rcases List.mem_cons.mp ((h x).mp (by simp)) with q | q
      · exact q
      · rcases List.mem_cons.mp ((h y).mpr (by simp)) with p | p
        · exact p.symm
        · have := b1 x q
          have := a1 y p
          omega
    subst e
    rw [strict_one a2 b2 fun z => ?_]
    constructor
    · intro hz
      rcases List.mem_cons.mp ((h z).mp (by simp [hz])) with q | q
      · have := a1 z hz
        omega
      · exact q
    · intro hz
      rcases List.mem_cons.mp ((h z).mpr (by simp [hz])) with q | q
      · have := b1 z hz
        omega
      · exact q
def eSortSet (fa : EDen) : EDen := fun e m => (fa e m).bind fun x m1 => match dList m1 x with
  | some ds => match intsD ds with
    | some is => if is.length < 64 then .ok (.lst ((sdI is).map D.int)) m1 else .bad
    | none => .bad
  | none => .bad
theorem de_sortSet {X : Cx} {C : Cn} {a : Expr} {p p2 q pos : Pos} {fa : EDen} (hc : X.calm = true) (hg : Gl X "sorted") (hm : X.mg "sorted" = none) (hg2 : Gl X "set") (hm2 : X.mg "set" = none) (ha : DE X C a fa) (hK : C.K = X.K := by rfl) (hs : starEach [a] X.env = (false, eval a X.env) :: starEach [] X.env := by rfl)
    (he : starEach [.Call (.Name "set" p2) [a] [] q] X.env = (false, eval (.Call (.Name "set" p2) [a] [] q) X.env) :: starEach [] X.env := by rfl) :
    DE X C (.Call (.Name "sorted" p) [.Call (.Name "set" p2) [a] [] q] [] pos) (eSortSet fa) := by
  refine pe_weak (pe_callB (cr_sortedSet hc) hg hm (by decide +kernel) (pa_cons (pe_callTy (cr_setLI hc) hg2 hm2 (by decide +kernel) (pa_cons ha pa_nil hs) (by decide) (by decide) hs rfl) pa_nil he) (by decide) (by decide) he rfl) fun σ H Q ⟨e, m, G, ph, Eo, I, h⟩ => ?_
  refine goE Eo I h fun x m1 G1 ph1 H1 v Eo1 I1 X1 r1 h1 => ?_
  cases qd : dList m1 x with
  | none =>
    rw [qd] at h1
    exact h1.elim
  | some ds =>
    rw [qd] at h1
    simp only [] at h1
    cases qi : intsD ds with
    | none =>
      rw [qi] at h1
      exact h1.elim
    | some is =>
      rw [qi] at h1
      simp only [] at h1
      obtain ⟨l, us, rfl, hl, rr⟩ := dList_rep I1 qd r1
      have e := intsD_eq qi
      subst e
      have e2 := RepL.ints_inv rr
      subst e2
      by_cases c : is.length < 64
      · rw [if_pos c] at h1
        refine ⟨l, is, rfl, SqL.of hl, c, fun p n hp hn => ?_⟩
        obtain ⟨I2, X2⟩ := I1.frozen hp (SetO X.w p (fun j => decide (j ∈ is)) n)
        refine ⟨p, _, n, rfl, upd_same, by omega, fun ns p2 up mem ln hp2 => ?_⟩
        obtain ⟨I3, X3⟩ := I2.frozen hp2 (.lst (ns.map V.int))
        have e3 : ns = sdI is := strict_one up (sdI_up is) fun z => by
          rw [mem z, sdI_mem]
          exact decide_eq_true_iff
        subst e3
        exact h1 _ _ _ I3 (X2.trans X3) _ ⟨p2, _, rfl, upd_same, RepL.ints⟩
      · rw [if_neg c] at h1
        exact h1.elim
end DL

namespace DL
open PySem L2 PySem.Spec PyProof.Rows
/-- as seen, within a tuple too -/
def viewsL (m : Mem) : List D → Option (List D)
  | [] => some []
  | d :: ds => (view m d).bind fun a => (viewsL m ds).map (a :: ·)
def view2 (m : Mem) : D → Option D
  | .tup xs => (viewsL m xs).map D.tup
  | d => view m d
theorem dp_viewsL {C : Cn} {m : Mem} {G H : Hp} {ph : List Addr} (I : Mok C m G ph H) : ∀ {xs as : List D} {vs : List V}, viewsL m xs = some as → plainL as = true → RepL C.K G ph xs vs → DpAll C.K H vs (toPL as)
  | [], as, vs, h, _, r => by
    have h' : some [] = some as := h
    cases h'
    have e : vs = [] := r
    rw [e]
    exact .nil
  | d :: ds, as, vs, h, p, r => by
    obtain ⟨v, us, rfl, r1, r2⟩ := r
    have h' : ((view m d).bind fun a => (viewsL m ds).map (a :: ·)) = some as := h
    cases hv : view m d with
    | none =>
      rw [hv] at h'
      cases h'
    | some a =>
      rw [hv] at h'
      have h2 : (viewsL m ds).map (a :: ·) = some as := h'
      obtain ⟨bs, hb, rfl⟩ := Option.map_eq_some_iff.mp h2
      have p2 : (plain a && plainL bs) = true := p
      rw [Bool.and_eq_true] at p2
      exact .cons (dp_view I hv p2.1 r1) (dp_viewsL I hb p2.2 r2)
theorem dp_view2 {C : Cn} {m : Mem} {G H : Hp} {ph : List Addr} (I : Mok C m G ph H) {x a : D} {v : V} (h : view2 m x = some a) (p : plain a = true) (r : RepV C.K G ph x v) : Dp C.K H v (toP a) := by
  cases x with
  | tup xs =>
    have h' : (viewsL m xs).map D.tup = some a := h
    obtain ⟨bs, hb, rfl⟩ := Option.map_eq_some_iff.mp h'
    obtain ⟨w, vs, rfl, q, r⟩ := r
    exact .tup (sqT_mono I.sub q) (dp_viewsL I hb p r)
  | ref n => exact dp_view I (x := .ref n) h p r
  | lst xs => exact dp_view I (x := .lst xs) h p r
  | non => exact dp_view I (x := .non) h p r
  | bl b => exact dp_view I (x := .bl b) h p r
  | int b => exact dp_view I (x := .int b) h p r
  | str b => exact dp_view I (x := .str b) h p r
  | scr b => exact dp_view I (x := .scr b) h p r
  | val b => exact dp_view I (x := .val b) h p r
def oNeV : Op2 := fun m x y => match view2 m x, view2 m y with
  | some a, some b => if okP a = true ∧ okP b = true then .ok (.bl (!PyData.eqv (toP a) (toP b))) m else .bad
  | _, _ => .bad
theorem opd_neV {X : Cx} {C : Cn} (hu : X.A.units + 64 < cLine) (hK : C.K = X.K := by rfl) : OpD X C (compareOp .NotEq) oNeV := by
  refine ⟨_, op_neD hu, ?_⟩
  intro m G ph H x y v u Q I rx ry h
  cases hx : view2 m x with
  | none =>
    simp only [oNeV, hx] at h
    exact h.elim
  | some a =>
    cases hy : view2 m y with
    | none =>
      simp only [oNeV, hx, hy] at h
      exact h.elim
    | some b =>
      by_cases c : okP a = true ∧ okP b = true
      · simp only [oNeV, hx, hy, if_pos c] at h
        obtain ⟨c1, c2⟩ := c
        unfold okP at c1 c2
        rw [Bool.and_eq_true] at c1 c2
        rw [← hK]
        exact ⟨toP a, toP b, dp_view2 I hx c1.1 rx, dp_view2 I hy c2.1 ry, c1.2, c2.2, h.here I _ rfl⟩
      · simp only [oNeV, hx, hy, if_neg c] at h
        exact h.elim
end DL

namespace DL
open PySem L2 PySem.Spec PyProof.Rows
section
variable {X : Cx} {C : Cn}
/-- ints, falling -/
def dnD (hi : Int) (n : Nat) : List D := (List.range n).map fun (i : Nat) => D.int (hi + (i : Int) * (-1))
theorem dn_ok {hi : Int} {n : Nat} {G0 : Hp} {ph0 : List Addr} : ItOk C (Itc hi (-1) n) ⟨dnD hi n, free⟩ G0 ph0 := by
  have hl : (dnD hi n).length = n := by unfold dnD; rw [List.length_map, List.length_range]
  refine ⟨fun i m G ph H hi' I s p _ => ?_, fun m G ph H I s p _ => ?_, fun i d m G ph H x H' hd I s p _ y => ?_⟩
  · have h2 : i < (dnD hi n).length := hi'
    rw [hl] at h2
    exact h2
  · exact Nat.le_of_eq hl.symm
  · obtain ⟨rfl, rfl⟩ := y
    have hd' : (dnD hi n)[i]? = some d := hd
    have hi' : i < n := by
      rw [← hl]
      exact (List.getElem?_eq_some_iff.mp hd').1
    unfold dnD at hd'
    rw [List.getElem?_map, List.getElem?_range hi'] at hd'
    cases Option.some.inj hd'
    exact ⟨G, I, Ext.refl _ _ _, rfl⟩
/-- range(i, j, -1) -/
def iRange3 (a : ADen) : IDen := fun e m => (a e m).bind fun xs m1 => match xs with
  | [.int i, .int j, .int c] => if c = -1 ∧ (-1000000 ≤ i ∧ i ≤ 1000000) ∧ (-1000000 ≤ j ∧ j ≤ 1000000) then .ok ⟨dnD i (i - j).toNat, free⟩ m1 else .bad
  | _ => .bad
theorem di_range3 {tg a b c : Expr} {f : ADen} {p pos : Pos} (hg : Gl X "range") (hm : X.mg "range" = none) (h : DA X C [a, b, c] f) (hs : starEach [a, b, c] X.env = (false, eval a X.env) :: starEach [b, c] X.env := by rfl) (hs2 : (backTo pos (starEach [b, c] X.env)).any (·.1) = false := by rfl) : DI X C tg (.Call (.Name "range" p) [a, b, c] [] pos) (iRange3 f) :=
  pi_weak (pi_range3 hg hm h hs hs2) fun σ H R ⟨e, m, G, ph, Eo, I, h⟩ => goA Eo I h fun xs m1 G1 ph1 H1 vs Eo1 I1 X1 r1 h1 => by
    split at h1
    · rename_i i j k
      obtain ⟨v1, w1, rfl, r2, r1⟩ := r1
      obtain ⟨v, w, rfl, r3, r4⟩ := repl2 r1
      have e1 : v1 = .int i := r2
      have e2 : v = .int j := r3
      have e3 : w = .int k := r4
      subst e1 e2 e3
      by_cases q : k = -1 ∧ (-1000000 ≤ i ∧ i ≤ 1000000) ∧ (-1000000 ≤ j ∧ j ≤ 1000000)
      · rw [if_pos q] at h1
        obtain ⟨rfl, b1, b2⟩ := q
        exact ⟨i, j, -1, _, rfl, RgC.neg (by omega) (by omega) (by omega) (by omega), h1.here I1 _ dn_ok⟩
      · rw [if_neg q] at h1
        exact h1.elim
    · exact h1.elim
/-- reversed(range(n)) -/
def iRevD (a : EDen) : IDen := fun e m => (a e m).bind fun x m1 => match x with
  | .int j => if 0 ≤ j ∧ j ≤ 1000000 then .ok ⟨dnD (j - 1) j.toNat, free⟩ m1 else .bad
  | _ => .bad
theorem di_rev {tg a : Expr} {f : EDen} {p q pos pos2 : Pos} (hg : Gl X "reversed") (hm : X.mg "reversed" = none) (hg2 : Gl X "range") (hm2 : X.mg "range" = none) (h : DE X C a f) (na : starEach [a] X.env = (false, eval a X.env) :: starEach [] X.env := by rfl)
    (hs : starEach [.Call (.Name "range" q) [a] [] pos2] X.env = (false, eval (.Call (.Name "range" q) [a] [] pos2) X.env) :: starEach [] X.env := by rfl) : DI X C tg (.Call (.Name "reversed" p) [.Call (.Name "range" q) [a] [] pos2] [] pos) (iRevD f) :=
  pi_weak (pi_revR hg hm (prg_1 hg2 hm2 h na) hs) fun σ H R ⟨e, m, G, ph, Eo, I, h⟩ => goE Eo I h fun x m1 G1 ph1 H1 v Eo1 I1 X1 r1 h1 => by
    cases x with
    | int j =>
      have e1 : v = .int j := r1
      subst e1
      have h2 : Post C G1 ph1 H1 _ (if 0 ≤ j ∧ j ≤ 1000000 then (.ok ⟨dnD (j - 1) j.toNat, free⟩ m1 : Res Its) else .bad) := h1
      by_cases q : 0 ≤ j ∧ j ≤ 1000000
      · rw [if_pos q] at h2
        refine ⟨j, rfl, by omega, by omega, by omega, by omega, ?_⟩
        have e : (0 : Int) + (((j - 0).toNat : Nat) : Int) - 1 = j - 1 := by omega
        have e2 : (j - 0).toNat = j.toNat := by omega
        rw [e, e2]
        exact h2.here I1 _ dn_ok
      · rw [if_neg q] at h2
        exact h2.elim
    | _ => exact h1.elim
end
end DL

namespace DL
open PySem L2 PySem.Spec PyProof.Rows
section
variable {X : Cx} {C : Cn}
theorem RepL.rev {K : PySem.W.Frag} {G : Hp} {ph : List Addr} : ∀ {ds : List D} {vs : List V}, RepL K G ph ds vs → RepL K G ph ds.reverse vs.reverse
  | [], vs, r => by
    have e : vs = [] := r
    rw [e]
    exact rfl
  | d :: ds, _, r => by
    obtain ⟨v, vs, rfl, r1, r2⟩ := r
    rw [List.reverse_cons, List.reverse_cons]
    exact (RepL.rev r2).append ⟨v, [], rfl, r1, rfl⟩
/-- a list turned round -/
def eRevL (f : EDen) : EDen := fun e m => (f e m).bind fun x m1 => match dList m1 x with
  | some ds => .ok (.lst ds.reverse) m1
  | none => .bad
theorem de_revL {e : Expr} {k : Nat} {p1 p2 p3 pos : Pos} {f : EDen} (h : DE X C e f) (hK : C.K = X.K := by rfl) : DE X C (.Subscript e (.Slice none none (some (.UnaryOp .USub (.Constant (.int 1) k p1) p2)) p3) pos) (eRevL f) :=
  pe_weak (pe_revL h) fun σ H Q ⟨e, m, G, ph, Eo, I, h⟩ => goE Eo I h fun x m1 G1 ph1 H1 v Eo1 I1 X1 r1 h1 => by
    cases q : dList m1 x with
    | none =>
      rw [q] at h1
      exact h1.elim
    | some ds =>
      rw [q] at h1
      obtain ⟨a, vs, rfl, ha, rr⟩ := dList_rep I1 q r1
      refine ⟨a, vs, rfl, SqL.of ha, fun p hp => ?_⟩
      obtain ⟨I2, X2⟩ := I1.frozen hp (.lst vs.reverse)
      exact h1 _ _ _ I2 X2 _ ⟨p, _, rfl, upd_same, RepL.mono X2.g X2.p _ _ (RepL.rev rr)⟩
theorem rep_rg {K : PySem.W.Frag} {G : Hp} {ph : List Addr} (n : Nat) : RepL K G ph (rngD 0 n) (rgV 0 (n : Int)) := by
  have e : rgV 0 (n : Int) = ((List.range n).map fun i : Nat => (0 + (i : Int))).map V.int := by
    unfold rgV
    rw [List.map_map]
    congr 1
  have e2 : rngD 0 n = ((List.range n).map fun i : Nat => (0 + (i : Int))).map D.int := by
    unfold rngD
    rw [List.map_map]
    rfl
  rw [e, e2]
  exact RepL.ints
/-- list(range(n)) -/
def eListR (f : EDen) : EDen := fun e m => (f e m).bind fun x m1 => match x with
  | .int j => if 0 ≤ j ∧ j ≤ 1000000 then .ok (.lst (rngD 0 j.toNat)) m1 else .bad
  | _ => .bad
theorem de_listR {a : Expr} {f : EDen} {p q pos pos2 : Pos} (hc : X.calm = true) (hg : Gl X "list") (hm : X.mg "list" = none) (hg2 : Gl X "range") (hm2 : X.mg "range" = none) (h : DE X C a f) (na : starEach [a] X.env = (false, eval a X.env) :: starEach [] X.env := by rfl)
    (hs : starEach [.Call (.Name "range" q) [a] [] pos2] X.env = (false, eval (.Call (.Name "range" q) [a] [] pos2) X.env) :: starEach [] X.env := by rfl) : DE X C (.Call (.Name "list" p) [.Call (.Name "range" q) [a] [] pos2] [] pos) (eListR f) :=
  pe_weak (pe_listRg hc hg hm (prg_1 hg2 hm2 h na) hs) fun σ H Q ⟨e, m, G, ph, Eo, I, h⟩ => goE Eo I h fun x m1 G1 ph1 H1 v Eo1 I1 X1 r1 h1 => by
    cases x with
    | int j =>
      have e1 : v = .int j := r1
      subst e1
      have h2 : Post C G1 ph1 H1 (fun d _ G' ph' H' => ∀ w, RepV C.K G' ph' d w → Q w H') (if 0 ≤ j ∧ j ≤ 1000000 then (.ok (.lst (rngD 0 j.toNat)) m1 : Res D) else .bad) := h1
      by_cases q : 0 ≤ j ∧ j ≤ 1000000
      · rw [if_pos q] at h2
        refine ⟨j, rfl, RgOk.of_le (by omega) (by omega) (by omega) (by omega), fun p hp => ?_⟩
        obtain ⟨I2, X2⟩ := I1.frozen hp (.lst (rgV 0 j))
        have e : ((j.toNat : Nat) : Int) = j := by omega
        exact h2 _ _ _ I2 X2 _ ⟨p, _, rfl, upd_same, e ▸ rep_rg j.toNat⟩
      · rw [if_neg q] at h2
        exact h2.elim
    | _ => exact h1.elim
/-! a dict of the module: text keys, ints -/
abbrev KTab : Type := List (Str × Int)
def eKIn (tb : KTab) (f : EDen) : EDen := fun e m => (f e m).bind fun x m1 => match x with
  | .str z => match tb.lookup z with
    | some _ => .ok (.bl true) m1
    | none => .bad
  | _ => .bad
def eKGet (tb : KTab) (f : EDen) : EDen := fun e m => (f e m).bind fun x m1 => match x with
  | .str z => match tb.lookup z with
    | some i => .ok (.int i) m1
    | none => .bad
  | _ => .bad
/-- where the dict lies, what it holds -/
structure KTb (K : PySem.W.Frag) (w : World) (d : Addr) (tb : KTab) : Prop where
  at_ : ∃ es n, KDict K w d es n
  get : ∀ z i, tb.lookup z = some i → ∃ u, PySem.W.nsIn K d z = some (some u) ∧ RelV (.int i) u
theorem look_mem {z : Str} {i : Int} : ∀ {tb : KTab}, tb.lookup z = some i → (z, i) ∈ tb
  | [], h => by cases h
  | (y, j) :: tb, h => by
    rw [List.lookup_cons] at h
    split at h
    · rename_i q
      have : z = y := eq_of_beq q
      subst this
      cases h
      exact List.mem_cons_self
    · exact List.mem_cons_of_mem _ (look_mem h)
theorem KTb.of {K : PySem.W.Frag} {w : World} {d : Addr} {tb : KTab} (h : ∃ es n, KDict K w d es n) (v : He.valsB K d (tb.map fun p => (p.1, He.Dv.int p.2)) = true) : KTb K w d tb :=
  ⟨h, fun z i q => He.valsB_ok v (q := (z, .int i)) (List.mem_map.mpr ⟨(z, i), look_mem q, rfl⟩)⟩
theorem de_kin {a : Expr} {f : EDen} {x : Str} {d : Addr} {tb : KTab} {p pos : Pos} (T : KTb X.K X.w d tb) (h : DE X C a f) (hg : Gl X x) (hm : X.mg x = some (.ref d)) (hd : (x == ("__debug__" : Str)) = false := by decide) (mk : behindInMarks .In (.Name x p) = false := by rfl) : DE X C (.Compare a [.In] [.Name x p] pos) (eKIn tb f) := by
  obtain ⟨es, n, D⟩ := T.at_
  refine pe_weak (pe_cmpR (op_in_kd D) h (pe_glob (v := .ref d) hg hm rfl hd) mk) fun σ H Q ⟨e, m, G, ph, Eo, I, h⟩ => goE Eo I h fun y m1 G1 ph1 H1 v Eo1 I1 X1 r1 h1 => ?_
  cases y with
  | str z =>
    have e1 : v = .str z := r1
    subst e1
    have h2 : Post C G1 ph1 H1 (fun d _ G' ph' H' => ∀ w, RepV C.K G' ph' d w → Q w H') (match tb.lookup z with
      | some _ => (.ok (.bl true) m1 : Res DL.D)
      | none => .bad) := h1
    cases q : tb.lookup z with
    | none =>
      rw [q] at h2
      exact h2.elim
    | some i =>
      rw [q] at h2
      obtain ⟨u, g, _⟩ := T.get z i q
      exact ⟨z, some u, rfl, rfl, g, h2.here I1 _ rfl⟩
  | _ => exact h1.elim
theorem de_kget {b : Expr} {f : EDen} {x : Str} {d : Addr} {tb : KTab} {p pos : Pos} (T : KTb X.K X.w d tb) (h : DE X C b f) (hg : Gl X x) (hm : X.mg x = some (.ref d)) (hd : (x == ("__debug__" : Str)) = false := by decide) (hs : PlainIx b := by exact fun _ _ => rfl) : DE X C (.Subscript (.Name x p) b pos) (eKGet tb f) := by
  obtain ⟨es, n, D⟩ := T.at_
  refine pe_weak (pe_ix ix_kdict (pe_glob (v := .ref d) hg hm rfl hd) h hs) fun σ H Q ⟨e, m, G, ph, Eo, I, h⟩ => goE Eo I h fun y m1 G1 ph1 H1 v Eo1 I1 X1 r1 h1 => ?_
  cases y with
  | str z =>
    have e1 : v = .str z := r1
    subst e1
    have h2 : Post C G1 ph1 H1 (fun d _ G' ph' H' => ∀ w, RepV C.K G' ph' d w → Q w H') (match tb.lookup z with
      | some i => (.ok (.int i) m1 : Res DL.D)
      | none => .bad) := h1
    cases q : tb.lookup z with
    | none =>
      rw [q] at h2
      exact h2.elim
    | some i =>
      rw [q] at h2
      obtain ⟨u, g, ru⟩ := T.get z i q
      exact ⟨d, z, .int i, rfl, rfl, ⟨es, n, u, D.at_, D.lit, g, ru⟩, h2.here I1 _ rfl⟩
  | _ => exact h1.elim
end
end DL

namespace DL
open PySem L2 PySem.Spec PyProof.Rows
/-! ## a dict of tuples, made of pairs; its keys -/
/-- the first of each -/
def firstsK {κ α : Type} [DecidableEq κ] (l : List (κ × α)) : List (κ × α) := l.foldl (fun acc p => if p.1 ∈ acc.map (·.1) then acc else acc ++ [p]) []
section
variable {κ : Type} [DecidableEq κ]
theorem at_key {xs : List (κ × Addr × Value)} {k : κ} : (atKey xs k).isSome = decide (k ∈ xs.map (·.1)) := by
  unfold atKey
  rw [Option.isSome_map]
  induction xs with
  | nil => rfl
  | cons x xs ih =>
    rw [List.find?_cons, List.map_cons]
    by_cases h : x.1 = k
    · rw [decide_eq_true h]
      simp [h]
    · rw [decide_eq_false h]
      show (xs.find? fun x => decide (x.1 = k)).isSome = _
      rw [ih]
      have h' : ¬ k = x.1 := fun e => h e.symm
      simp [h']
theorem put_keys (k : κ) (v : Value) (xs : List (κ × Addr × Value)) : (xs.map (putAt k v)).map (fun x => (x.1, x.2.1)) = xs.map fun x => (x.1, x.2.1) := by
  rw [List.map_map]
  apply List.map_congr_left
  intro x _
  show ((putAt k v x).1, (putAt k v x).2.1) = _
  unfold putAt
  split <;> rfl
theorem stored_firsts (v : Value) : ∀ (l acc' : List (κ × Addr)) (acc : List (κ × Addr × Value)), acc.map (fun x => (x.1, x.2.1)) = acc' →
    (storedAllH acc (l.map fun p => (p.1, p.2, v))).map (fun x => (x.1, x.2.1)) = l.foldl (fun acc p => if p.1 ∈ acc.map (·.1) then acc else acc ++ [p]) acc'
  | [], acc', acc, h => h
  | p :: l, acc', acc, h => by
    have hk : (acc.map (·.1)) = acc'.map (·.1) := by rw [← h, List.map_map]; rfl
    show (storedAllH (storedH acc p.1 p.2 v) (l.map fun p => (p.1, p.2, v))).map (fun x => (x.1, x.2.1)) = l.foldl _ (if p.1 ∈ acc'.map (·.1) then acc' else acc' ++ [p])
    refine stored_firsts v l _ _ ?_
    unfold storedH
    rw [at_key, hk]
    by_cases c : p.1 ∈ acc'.map (·.1)
    · rw [decide_eq_true c, if_pos rfl, if_pos c, put_keys, h]
    · rw [decide_eq_false c, if_neg (by decide), if_neg c, List.map_append, h]
      rfl
end
/-- a dict whose keys are these objects, in order -/
def dtP (d : Addr) (bs : List Addr) (h : Heap) : Prop := ∃ o es ep, h.get? d = some o ∧ o.ExactDict ∧ o.data = .dict es ep ∧ es.toList.map (·.key) = bs.map Value.ref
def dtO (d : Addr) (bs : List Addr) : HO := .ext (dtP d bs)
theorem dtO_ok {P : Program} {w : World} {H : Hp} {h : Heap} {d : Addr} {bs : List Addr} (p : dtP d bs h) : ObjOk P w H h d (dtO d bs) := by
  refine ⟨p, ?_, fun h1 h2 q k => ?_⟩
  · obtain ⟨o, _, _, ho, _⟩ := p
    exact ⟨o, ho⟩
  · obtain ⟨o, es, ep, ho, r⟩ := q
    exact ⟨o, es, ep, k o ho, r⟩
section
variable {X : Cx}
theorem pairs_vals {pins : List (Addr × Obj)} {σ : L2.St} {H : Hp} {s : Shared} (I : Inv X pins σ H s) {v : V} {w : Value} (hw : ∀ u, RelV v u → u = w) : ∀ {ps : List Addr} {kbs : List (List L2.Key × Addr)}, Paired (fun p (kb : List L2.Key × Addr) => SqT X.K H p [V.ref kb.2, v] ∧ SqT X.K H kb.2 (kb.1.map kV)) ps kbs →
    ps.length = kbs.length ∧ ∀ (j : Nat) (p : Addr) (kb : List L2.Key × Addr), ps[j]? = some p → kbs[j]? = some kb → s.heap.IsTuple p #[.ref kb.2, w] ∧ (tupleKind (mixKind X.prog X.w)).is s.heap kb.1 kb.2
  | _, _, .nil => ⟨rfl, fun j p kb h => by simp at h⟩
  | _, _, .cons h t => by
    obtain ⟨l, q⟩ := pairs_vals I hw t
    refine ⟨by rw [List.length_cons, List.length_cons, l], fun j p kb h1 h2 => ?_⟩
    cases j with
    | succ j => exact q j p kb (by simpa using h1) (by simpa using h2)
    | zero =>
      simp at h1 h2
      subst h1 h2
      obtain ⟨t1, t2⟩ := h
      obtain ⟨its, rv, ht, _⟩ := I.tuple t1
      obtain ⟨u, y, ei, ru, ry⟩ := vals2 rv
      subst ei
      cases ru
      rw [hw y ry] at ht
      obtain ⟨its2, rv2, ht2, _⟩ := I.tuple t2
      obtain ⟨o, h1, h2, n, h3⟩ := ht2
      exact ⟨ht, o, its2.toArray, n, h1, h2, h3, by simpa using items_are (P := X.prog) (w := X.w) rv2⟩
/-- dict(pairs): keys tuples of ints and texts, one value -/
def rDictTup (K : PySem.W.Frag) (v : V) : List V → Hp → VK → Prop := fun xs H Q => ∃ (a : Addr) (ps : List Addr) (kbs : List (List L2.Key × Addr)), xs = [.ref a] ∧ SqL K H a (ps.map V.ref) ∧ Paired (fun p (kb : List L2.Key × Addr) => SqT K H p [V.ref kb.2, v] ∧ SqT K H kb.2 (kb.1.map kV)) ps kbs ∧
  ∀ p, H p = none → (p == sysModules) = false → Q (.ref p) (upd H p (dtO p ((firstsK kbs).map (·.2))))
theorem cr_dictTup (hcalm : X.calm = true) (hu : X.A.units + 2 < cLine) : CallR X (.type "dict") (rDictTup X.K (.bl true)) := by
  intro pins s σ H xs us Q I r q
  obtain ⟨a, ps, kbs, rfl, hq, hp, q⟩ := q
  obtain ⟨u, rfl, rx⟩ := vals1 r
  cases rx
  obtain ⟨its, rv, pl, hz⟩ := I.list hq
  have ei := refs_at rv
  subst ei
  rw [List.length_map] at hz
  obtain ⟨hl, hpr⟩ := pairs_vals (w := Value.bool true) I (fun u (h : RelV (.bl true) u) => h) hp
  obtain ⟨o, n, ho, hc, hd, hdat⟩ := pl
  have P := PairArg.list (prog := X.prog) (w := X.w) a (ps.map Value.ref).toArray (fun j => ps.getD j 0) (kbs.map fun kb => (Value.ref kb.2, Value.bool true))
  have ok : PlainSeq "list" s.heap a (ps.map Value.ref).toArray ∧ PairItems s.heap (ps.map Value.ref).toArray (fun j => ps.getD j 0) (kbs.map fun kb => (Value.ref kb.2, Value.bool true)) := by
    refine ⟨⟨o, n, ho, hc, hd, hdat⟩, by simp [hl], fun j k v hj => ?_⟩
    rw [List.getElem?_map] at hj
    obtain ⟨kb, hkb, e⟩ := Option.map_eq_some_iff.mp hj
    cases e
    have hjl : j < ps.length := by
      rw [hl]
      exact (List.getElem?_eq_some_iff.mp hkb).1
    have gp : ps[j]? = some ps[j] := List.getElem?_eq_getElem hjl
    have gd : ps.getD j 0 = ps[j] := by simp [List.getD, gp]
    show _ ∧ PairAt s.heap (ps.getD j 0) _ _
    show (ps.map Value.ref).toArray[j]? = some (Value.ref (ps.getD j 0)) ∧ _
    rw [gd]
    exact ⟨by simp [gp], .inl (hpr j _ kb gp hkb).1⟩
  have isk : ∀ kb ∈ kbs, (tupleKind (mixKind X.prog X.w)).is s.heap kb.1 kb.2 := fun kb hkb => by
    obtain ⟨j, hj, rfl⟩ := List.getElem_of_mem hkb
    have hjl : j < ps.length := by omega
    exact (hpr j _ _ (List.getElem?_eq_getElem hjl) (List.getElem?_eq_getElem hj)).2
  refine call_dict_pairsH (knd := tupleKind (mixKind X.prog X.w)) (ps := kbs.map fun kb => (kb.1, kb.2, Value.bool true)) P (I.ok.hd hcalm) (by show X.A.units + 1 + 1 < cLine; omega) ok ⟨by simp, fun j key v hr => ?_⟩ (fun h' hk x hx => ?_) (by rw [List.length_map, ← hl]; exact hz) fun h' tk hd' k => ?_
  · have hr' : (kbs.map fun kb => (Value.ref kb.2, Value.bool true))[j]? = some (key, v) := hr
    rw [List.getElem?_map] at hr'
    obtain ⟨kb, hkb, e⟩ := Option.map_eq_some_iff.mp hr'
    cases e
    exact ⟨kb.1, kb.2, by rw [List.getElem?_map, hkb]; rfl, rfl⟩
  · obtain ⟨kb, hkb, rfl⟩ := List.mem_map.mp hx
    obtain ⟨o2, it2, n2, h1, h2, h3, h4⟩ := isk kb hkb
    have lt := Heap.lt_size h1
    exact ⟨o2, it2, n2, hk _ _ (Nat.ne_of_lt lt) (by simp) h1, h2, h3, h4⟩
  · have hm : (s.heap.objs.size == sysModules) = false := beq_eq_false_iff_ne.mpr (Nat.ne_of_gt I.big)
    have kf := stored_firsts (Value.bool true) kbs [] [] rfl
    obtain ⟨o3, es, ep, h1, h2, h3, h4, _⟩ := hd'
    have kk : es.toList.map (·.key) = ((firstsK kbs).map (·.2)).map Value.ref := by
      have : firstsK kbs = (storedAllH [] (kbs.map fun p => (p.1, p.2, Value.bool true))).map fun x => (x.1, x.2.1) := kf.symm
      rw [h4, this, List.map_map, List.map_map, List.map_map]
      rfl
    exact ⟨.ref s.heap.objs.size, upd H s.heap.objs.size (dtO s.heap.objs.size ((firstsK kbs).map (·.2))), I.laid (t' := tk) (fun b u e => k b u (by simp) e) (Nat.le_refl _) (dtO_ok ⟨o3, es, ep, h1, h2, h3, kk⟩), rfl, q _ (I.hok.fresh (Nat.le_refl _)) hm⟩
/-- list(d) -/
def rListTup : List V → Hp → VK → Prop := fun xs H Q => ∃ d bs, xs = [V.ref d] ∧ H d = some (dtO d bs) ∧ (d == sysModules) = false ∧ bs.length ≤ sizeLine ∧ ∀ p, H p = none → Q (.ref p) (upd H p (.lst (bs.map V.ref)))
theorem cr_listTup (hc : X.calm = true) : CallR X (.type "list") rListTup := by
  intro pins s σ H xs us Q I r h
  obtain ⟨d, bs, rfl, hd, hs, hz, q⟩ := h
  obtain ⟨u, rfl, rx⟩ := r.one
  cases rx
  obtain ⟨⟨o, es, ep, ho, hx, hdt, hk⟩, _⟩ := (show ObjOk X.prog X.w H s.heap d (dtO d bs) from I.hok d _ hd)
  have l1 : es.size = bs.length := by
    have := congrArg List.length hk
    simpa using this
  refine PySem.W.kdl_call (kdl_raw hs hx hdt) (I.ok.hd hc) ho (by omega) fun h' tk acc c kp e it => ?_
  have ea : acc.toList = bs.map Value.ref := by
    apply List.ext_getElem?
    intro j
    cases hj : acc.toList[j]? with
    | none =>
      have h1 := List.getElem?_eq_none_iff.mp hj
      rw [Array.length_toList, it.1, l1] at h1
      rw [List.getElem?_eq_none (by simpa using h1)]
    | some v =>
      obtain ⟨en, hen, hv⟩ := it.2 j v (by rw [← Array.getElem?_toList]; exact hj)
      rw [← hk, List.getElem?_map]
      rw [← Array.getElem?_toList] at hen
      rw [hen, hv]
      rfl
  exact ⟨.ref s.heap.objs.size, _, I.laid (t' := tk) (o := .lst (bs.map V.ref)) kp (Nat.le_refl _) ⟨by rw [List.length_map]; exact hz, acc.toList, c, by rw [ea]; exact vals_refs _, by rw [Array.toArray_toList]; exact e⟩, rfl, q _ (I.hok.fresh (Nat.le_refl _))⟩
end
end DL

namespace DL
open PySem L2 PySem.Spec PyProof.Rows PySem.W
/-! ## sorted(xs, key=a def) -/
/-- the key of an outcome -/
def keyT : D → Str × Int
  | .tup [.str w] => (w, -1)
  | .tup [.str w, .int i] => (w, i)
  | _ => (⟨#[]⟩, 0)
def keyO (d : D) : D := .tup [.str (keyT d).1, .int (keyT d).2]
def keyP (d : D) : PyData := .tuple [.str (keyT d).1, .int (keyT d).2]
def srtK (ds : List D) : List D := ds.mergeSort (dataLe false keyP)
section
variable {X : Cx} {C : Cn}
theorem Room.two {k : Nat} {A : Around} (r : Room k A) (h : 1 ≤ k) : Room (k - 1) A.in1.in1 := by
  refine ⟨r.hd, ?_, ?_⟩
  · have := r.dp
    show A.depth + 3 * (k - 1) + 5 < _
    omega
  · have := r.un
    show A.units + 1 + 1 + 16 * (k - 1) + 200 < _
    omega
/-- one call of the key -/
theorem key_turn {k : Nat} {f : Addr} {fd : FuncData} {pn : Str} {den : List D → Mem → Res D} (F : FnOk X.prog X.w X.K X.mg X.base CX0 k f fd [pn] (spD C 1 den)) (hr : Room k X.A.in1.in1) (hb : Binds X.K fd [pn] [])
    {pins : List (Addr × Obj)} {σ : L2.St} {H : Hp} {s : Shared} {m : Mem} {G : Hp} {ph : List Addr} {x kd : D} {v : V} {u : Value} (I : Inv X pins σ H s) (M : Mok C m G ph H) (rv : RepV C.K G ph x v) (ru : RelV v u) (hd : den [x] m = .ok kd m) :
    wpAny (model X.prog X.w) X.A.in1.in1 (call (.ref f) [u]) (fun w s' => ∃ G' ph' H' y, Inv X pins σ H' s' ∧ Mok C m G' ph' H' ∧ Ext G ph H G' ph' H' ∧ RepV C.K G' ph' kd y ∧ RelV y w) (fun _ _ => False) s := by
  have e0 := I.env0.in1.in1
  have sp : spD C 1 den ([v] ++ []) H (fun y H' => ∃ G' ph', Mok C m G' ph' H' ∧ Ext G ph H G' ph' H' ∧ RepV C.K G' ph' kd y) C.E := by
    refine ⟨rfl, [x], m, G, ph, rfl, M, ⟨v, [], rfl, rv, rfl⟩, ?_⟩
    rw [hd]
    intro G' ph' H' M' X' y ry
    exact ⟨G', ph', M', X', ry⟩
  have vs : Vals ([v] ++ []) ([u] ++ []) := .cons ru .nil
  refine wpAny_call (codeAny_mono (F.run X.A.in1.in1 X.stack s H ⟨[u], []⟩ ([u] ++ []) ([v] ++ []) _ C.E hr e0 (hb s [u] I.kIn rfl) vs sp) fun r s' hq => ?_)
  cases r with
  | error e => exact hq.elim
  | ok fl =>
    cases fl with
    | ret w =>
      obtain ⟨y, H', I', ry, G', ph', M', X', rr⟩ := I.after hq
      exact ⟨G', ph', H', y, I', M', X', rr, ry⟩
    | next => exact hq.elim
    | _ => exact hq.elim
abbrev lO (xs : Array Value) (n : Nat) : Obj := seqObj "list" xs n
/-- a record of the sort's own: it stands apart -/
structure Apart (X : Cx) (pins : List (Addr × Obj)) (b : Addr) : Prop where
  nl : b ≠ X.env.locals
  nf : b ∉ X.fs
  nx : b ∈ X.ex ∨ X.s_0.heap.objs.size ≤ b
  nc : ∀ x c, X.env.cells.lookup x = some c → c ≠ b
  np : ∀ p ∈ X.pn ++ pins, p.1 ≠ b
theorem Apart.of {pins : List (Addr × Obj)} {σ : L2.St} {H : Hp} {s : Shared} {b : Addr} (I : Inv X pins σ H s) (hb : s.heap.objs.size ≤ b) : Apart X pins b := by
  obtain ⟨_, a1, a2, a3, a4, a5⟩ := I.fpOk (H' := H) hb (I.hok.fresh hb)
  exact ⟨a1, a2, a3, a4, a5⟩
theorem not_cell (xs : Array Value) (n : Nat) : ∀ v, (lO xs n).data ≠ .cell v := fun v h => by cases h
theorem kz_alike (ds : List D) : AllAlike (ds.map keyP) := AllAlike.of fun a b => by simp [alike, alikeAll, keyP]
theorem kz_sort (ds : List D) : Sortable (ds.map keyP) := Sortable.tuples fun d => ⟨_, _, rfl⟩
theorem key_depth (d : D) : (keyP d).depth = 1 := by simp [keyP, PyData.depth, PyData.depthAll]
theorem key_reads {pins : List (Addr × Obj)} {σ : L2.St} {H : Hp} {s : Shared} {m : Mem} {G : Hp} {ph : List Addr} (I : Inv X pins σ H s) (M : Mok C m G ph H) (hK : C.K = X.K) : ∀ {ds : List D} {ws : List V} {us : List Value}, RepL C.K G ph (ds.map keyO) ws → Vals ws us → EachIs (fun v k => ∃ as, Reads s.heap v k as) us (ds.map keyP)
  | [], ws, us, r, v => by
    have e : ws = [] := r
    subst e
    cases v
    exact .nil
  | d :: ds, ws, us, r, v => by
    obtain ⟨w, wr, rfl, r1, r2⟩ := r
    cases v with
    | cons h t =>
      have dp := dp_of M.sub (keyO d) w rfl r1
      rw [hK] at dp
      exact .cons (Dp.reads I _ _ _ dp h) (key_reads I M hK r2 t)
/-- the keys are asked, one by one; then the sort -/
theorem keys_rest {k : Nat} {f a kS : Addr} {fd : FuncData} {pn : Str} {den : List D → Mem → Res D} (F : FnOk X.prog X.w X.K X.mg X.base CX0 k f fd [pn] (spD C 1 den)) (hr : Room k X.A.in1.in1) (hb : Binds X.K fd [pn] []) (hK : C.K = X.K)
    {pins : List (Addr × Obj)} {σ : L2.St} {H : Hp} {s : Shared} {m : Mem} {G : Hp} {ph : List Addr} {ds : List D} {vs : List V} {its : List Value} {e1 n0 : Nat} {E : Value → Shared → Prop}
    (I : Inv X ((kS, lO #[] n0) :: (a, lO #[] e1) :: pins) σ H s) (M : Mok C m G ph H) (rv : RepL C.K G ph ds vs) (ru : Vals vs its) (hd : ∀ d ∈ ds, den [d] m = .ok (keyO d) m) (hz : its.length ≤ 1000)
    (hka : kS ≠ a) (pa : Apart X pins a) (pk : Apart X pins kS) (un : X.A.units + 100 < cLine) {P : PySem.Fin → Shared → Prop}
    (fin : ∀ (G' : Hp) (ph' : List Addr) (H' : Hp) (sv : List V) (s' : Shared), Inv X pins σ (upd H' a (.lst sv)) s' → Mok C m G' ph' H' → Ext G ph H G' ph' H' → H' a = none → RepL C.K G' ph' (srtK ds) sv → P (.done (.ret .none)) s') :
    wpAny (model X.prog X.w) X.A.in1.in1 (ksk_rest a (.ref f) false its.toArray e1 (.ref kS)) P E s := by
  have hsl : its.length ≤ sizeLine := Nat.le_trans hz (by rw [sizeLine_eq]; omega)
  have dl : ds.length = its.length := by rw [← ru.length, rv.length]
  let St : Nat → Shared → Prop := fun j s' => ∃ G' ph' H' ws kA n, Inv X ((kS, lO kA n) :: (a, lO #[] e1) :: pins) σ H' s' ∧ Mok C m G' ph' H' ∧ Ext G ph H G' ph' H' ∧ RepL C.K G' ph' ((ds.take j).map keyO) ws ∧ Vals ws kA.toList
  unfold ksk_rest
  refine wpAny_bind (wpAny_rule ?_)
  rw [List.forIn_toArray]
  refine wpAny_bind (ksk_fold (Q := fun _ s' => wpAny (model X.prog X.w) X.A.in1.in1 (do
      let keys ← Builtin.List.listItems (.ref kS)
      ksk_end a false its.toArray e1 (.ref kS) keys) P E s') St its 0 s ⟨G, ph, H, [], #[], n0, I, M, Ext.refl G ph H, rfl, .nil⟩ ?step ?done)
  case step =>
    rintro j u s1 hu ⟨G1, ph1, H1, ws, kA, n, I1, M1, X1, rw1, rk1⟩
    rw [Nat.zero_add] at rw1 ⊢
    have hj : j < its.length := (List.getElem?_eq_some_iff.mp hu).1
    have hx : ds[j]? = some ds[j] := List.getElem?_eq_getElem (by omega)
    obtain ⟨v, hv, rx⟩ := rv.get hx
    obtain ⟨u', hu', ruv⟩ := ru.get hv
    rw [hu] at hu'
    cases hu'
    have kz : kA.size ≤ its.length := by
      have t1 := rk1.length
      have t2 := rw1.length
      have t3 : kA.toList.length = kA.size := by simp
      rw [List.length_map, List.length_take] at t2
      omega
    refine wpAny_bind (wpAny_attempt (wpAny_mono (key_turn F hr hb I1 M1 (RepV.mono X1.g X1.p _ _ rx) ruv (hd _ (List.getElem_mem _))) (fun w s2 hw => ?_) fun _ _ z => z.elim))
    obtain ⟨G2, ph2, H2, y, I2, M2, X2, ry, rw⟩ := hw
    obtain ⟨kk, kn, _, _, _⟩ := I2.pin (kS, lO kA n) (by simp)
    obtain ⟨ka, an, _, _, _⟩ := I2.pin (a, lO #[] e1) (by simp)
    have chg := Heap.SameBut.update s2.heap kS (Obj.mapSeq (·.push w))
    have knew := get?_update_seq kk (·.push w)
    refine wpAny_bind (listUpdate_at kk rfl ?_ (Nat.le_trans kz hsl) (by rw [Array.size_push]; exact Nat.succ_le_succ (Nat.le_trans kz hsl)))
    have I3 : Inv X ((a, lO #[] e1) :: pins) σ H2 s2 := I2.pins_of fun p hp => I2.pin p (List.mem_append_right _ (List.mem_cons_of_mem _ hp))
    have I4 := I3.turned (t' := s2.toks) (it := kS) (h' := s2.heap.update kS (Obj.mapSeq (·.push w))) (fun b o hb q => (chg.2 b hb).trans q) kn pk.nl pk.nx pk.nc (fun p hp => by
      rcases List.mem_append.mp hp with z | z
      · exact pk.np p (List.mem_append_left _ z)
      · rcases List.mem_cons.mp z with z | z
        · subst z
          exact fun q => hka q.symm
        · exact pk.np p (List.mem_append_right _ z))
    refine wpAny_pure ⟨rfl, G2, ph2, H2, ws ++ [y], kA.push w, (if (kA.push w).size == kA.size then n else n + 1), I4.pins_of fun p hp => ?_, M2, X1.trans X2, ?_, ?_⟩
    · rcases List.mem_cons.mp hp with z | z
      · subst z
        exact ⟨knew, kn, pk.nl, pk.nf, not_cell _ _⟩
      · rcases List.mem_cons.mp z with z2 | z2
        · subst z2
          exact ⟨(chg.2 a hka.symm).trans ka, an, pa.nl, pa.nf, not_cell _ _⟩
        · exact I4.pin p (List.mem_append_right _ (List.mem_cons_of_mem _ z2))
    · have tk : ds.take (j + 1) = ds.take j ++ [ds[j]] := by rw [List.take_add_one, hx]; rfl
      rw [tk, List.map_append]
      exact (RepL.mono X2.g X2.p _ _ rw1).append ⟨y, [], rfl, ry, rfl⟩
    · rw [Array.toList_push]
      exact rk1.append (.cons rw .nil)
  case done =>
    rintro s1 ⟨G1, ph1, H1, ws, kA, n, I1, M1, X1, rw1, rk1⟩
    rw [Nat.zero_add, ← dl, List.take_length] at rw1
    obtain ⟨kk, kn, _, _, _⟩ := I1.pin (kS, lO kA n) (by simp)
    obtain ⟨ka, an, _, _, _⟩ := I1.pin (a, lO #[] e1) (by simp)
    have rd := key_reads I1 M1 hK rw1 rk1
    have ks : kA.size = its.length := by
      have t1 := rk1.length
      have t2 := rw1.length
      have t3 : kA.toList.length = kA.size := by simp
      rw [List.length_map] at t2
      omega
    refine wpAny_bind (listItems_at kk rfl ?_)
    have S : SortsAt X.prog X.w X.A.in1.in1 s1 (dataKind s1.heap (ds.map keyP)) kA.toList := SortsAt.data rd (kz_alike ds) (kz_sort ds) fun d hd => by
      obtain ⟨x, _, rfl⟩ := List.mem_map.mp hd
      rw [key_depth]
      show X.A.units + 1 + 1 + 1 < cLine
      omega
    refine keyH_end (κ := dataKind s1.heap (ds.map keyP)) (h₁ := hideAll s1.heap [kS]) (fun b o _ q => of_hideAll _ q) (hideAll_none _ (by simp)) kk ka hka S ks hsl fun h3 tk3 c k3 n3 => ?_
    -- what lies there then
    have zl : (ds.zip vs).map (fun p => keyP p.1) = ds.map keyP := by
      rw [show (fun p : D × V => keyP p.1) = keyP ∘ Prod.fst from rfl, ← List.map_map, List.map_fst_zip (by rw [rv.length]; exact Nat.le_refl _)]
    have ko : KeyedOut false ((ds.zip vs).map fun p => keyP p.1) its (sortVals (dataKind s1.heap (ds.map keyP)) false kA.toList its) := by
      rw [zl]
      exact ⟨s1.heap, kA.toList, kz_alike ds, rfl, rd⟩
    have zv : (ds.zip vs).map Prod.snd = vs := List.map_snd_zip (by rw [rv.length]; exact Nat.le_refl _)
    have each : EachIs (fun (u : Value) (p : D × V) => RelV p.2 u) its (ds.zip vs) := by
      have go : ∀ {ds : List D} {vs : List V} {us : List Value}, vs.length = ds.length → Vals vs us → EachIs (fun (u : Value) (p : D × V) => RelV p.2 u) us (ds.zip vs) := by
        intro ds
        induction ds with
        | nil =>
          intro vs us hl hv
          have e : vs = [] := List.length_eq_zero_iff.mp hl
          subst e
          cases hv
          exact .nil
        | cons d ds ih =>
          intro vs us hl hv
          cases hv with
          | nil => cases hl
          | cons h t => exact .cons h (ih (by simpa using hl) t)
      exact go rv.length ru
    have out := keyedOut_each (fun p : D × V => keyP p.1) ko each
    generalize hsb : (ds.zip vs).mergeSort (dataLe false fun p : D × V => keyP p.1) = sb at out
    have sd : sb.map Prod.fst = srtK ds := by
      rw [← hsb, sort_maps (r := dataLe false fun p : D × V => keyP p.1) (s := dataLe false keyP) Prod.fst (fun _ _ _ _ => rfl), List.map_fst_zip (by rw [rv.length]; exact Nat.le_refl _)]
      rfl
    have mem : ∀ p ∈ sb, RepV C.K G ph p.1 p.2 := fun p hp => by
      rw [← hsb] at hp
      have hp := (List.mergeSort_perm _ _).mem_iff.mp hp
      obtain ⟨i, hi, rfl⟩ := List.getElem_of_mem hp
      have hi' : i < ds.length := by
        rw [List.length_zip] at hi
        omega
      obtain ⟨v, hv, r⟩ := rv.get (List.getElem?_eq_getElem hi')
      rw [List.getElem_zip]
      have hvl : i < vs.length := (List.getElem?_eq_some_iff.mp hv).1
      rw [List.getElem?_eq_getElem hvl] at hv
      rw [Option.some.inj hv]
      exact r
    have rs : RepL C.K G ph (srtK ds) (sb.map Prod.snd) := by
      rw [← sd]
      have go : ∀ {l : List (D × V)}, (∀ p ∈ l, RepV C.K G ph p.1 p.2) → RepL C.K G ph (l.map Prod.fst) (l.map Prod.snd) := by
        intro l
        induction l with
        | nil => intro _; rfl
        | cons p l ih => intro h; exact ⟨p.2, l.map Prod.snd, rfl, h p (by simp), ih fun q hq => h q (by simp [hq])⟩
      exact go mem
    have ov : Vals (sb.map Prod.snd) (sortVals (dataKind s1.heap (ds.map keyP)) false kA.toList its) := by
      have go : ∀ {us : List Value} {l : List (D × V)}, EachIs (fun (u : Value) (p : D × V) => RelV p.2 u) us l → Vals (l.map Prod.snd) us := by
        intro us l h
        induction h with
        | nil => exact .nil
        | cons h _ ih => exact .cons h ih
      exact go out
    have I2 : Inv X pins σ H1 s1 := I1.pins_of fun p hp => I1.pin p (List.mem_append_right _ (List.mem_cons_of_mem _ (List.mem_cons_of_mem _ hp)))
    have old : ∀ b o, b ∉ [a, kS] → s1.heap.get? b = some o → h3.get? b = some o := fun b o hb q => k3 b o (fun z => hb (by simp [z])) (hideAll_get _ q (fun z => hb (by simp at z; simp [z])))
    have I3 : Inv X pins σ (upd H1 a (.lst (sb.map Prod.snd))) { s1 with heap := h3, gens := s1.gens, drawn := s1.drawn, toks := tk3 } := by
      refine I2.step (ch := [a, kS]) (fun b hb => ?_) (fun b o _ _ hc q _ => old b o hc q) (fun b o _ _ hc q _ => ⟨o.slots, old b o hc q⟩) (fun b o hc _ q => ?_) (fun b o hc q => ⟨o, old b o hc q⟩) (fun b xs q => ?_) (fun b o u q => ?_) (fun b ps q => ⟨#[], ?_⟩) (fun m' hm => ?_) (fun b u q => ?_) I2.bare
      · have e : b = a ∨ b = kS := by simpa using hb
        rcases e with rfl | rfl
        · exact ⟨pa.nx, pa.nl, pa.nc, pa.np⟩
        · exact ⟨pk.nx, pk.nl, pk.nc, pk.np⟩
      · rw [upd_ne fun z => hc (by simp [z])]
        exact q
      · rw [upd_ne (ne_of_none q an)]
        exact q
      · rw [upd_ne (ne_of_none q an)]
        exact q
      · rw [upd_ne (ne_of_none q an), q]
        simp
      · obtain ⟨o, es, ep, ho, r⟩ := hm
        refine ⟨o, es, ep, old _ o (fun z => ?_) ho, r⟩
        have e : X.env.locals = a ∨ X.env.locals = kS := by simpa using z
        rcases e with e | e
        · exact pa.nl e.symm
        · exact pk.nl e.symm
      · by_cases hba : b = a
        · subst hba
          rw [upd_same] at q
          cases q
          refine ⟨?_, _, c, ov, n3⟩
          have := ov.length
          rw [this]
          have sl := sortVals_length (κ := dataKind s1.heap (ds.map keyP)) (ks := kA.toList) (vs := its) false (by rw [Array.length_toList]; exact ks)
          rw [sl]
          exact hsl
        · rw [upd_ne hba] at q
          refine (I2.hok b u q).stay (fun c' v hc q' => old c' v (fun z => ?_) q') (fun c' q' => ?_) fun c' xs q' => ?_
          · have e : c' = a ∨ c' = kS := by simpa using z
            rcases hc with hc | hc
            · rcases e with e | e
              · exact hba (hc.symm.trans e)
              · exact ne_of_none q kn (hc.symm.trans e)
            · rcases e with e | e
              · exact ne_of_none hc an e
              · exact ne_of_none hc kn e
          · rw [upd_ne (ne_of_none q' an)]
            exact q'
          · rw [upd_ne (ne_of_none q' an)]
            exact q'
    exact fin _ _ _ _ _ I3 M1 X1 an (RepL.mono X1.g X1.p _ _ rs)
/-- sorted(l, key=f) -/
theorem sortK_run {k : Nat} {f l : Addr} {fd : FuncData} {pn : Str} {den : List D → Mem → Res D} (F : FnOk X.prog X.w X.K X.mg X.base CX0 k f fd [pn] (spD C 1 den)) (hr : Room k X.A.in1.in1) (hb : Binds X.K fd [pn] []) (hK : C.K = X.K) (un : X.A.units + 100 < cLine)
    {pins : List (Addr × Obj)} {σ : L2.St} {H : Hp} {s : Shared} {m : Mem} {G : Hp} {ph : List Addr} {ds : List D} {vs : List V} {Q : VK}
    (I : Inv X pins σ H s) (M : Mok C m G ph H) (hl : SqL X.K H l vs) (rv : RepL C.K G ph ds vs) (hd : ∀ d ∈ ds, den [d] m = .ok (keyO d) m) (hz : ds.length ≤ 1000)
    (q : ∀ (G' : Hp) (ph' : List Addr) (H' : Hp) (p : Addr) (sv : List V), Mok C m G' ph' H' → Ext G ph H G' ph' H' → H' p = none → RepL C.K G' ph' (srtK ds) sv → Q (.ref p) (upd H' p (.lst sv))) :
    wpAny (model X.prog X.w) X.A (call (.builtin "sorted") [.ref l] [(Str.ofString "key", .ref f)]) (EP X pins σ Q) X.xe s := by
  obtain ⟨its, ru, pl, zz⟩ := I.list hl
  have dl : ds.length = its.length := by rw [← ru.length, rv.length]
  have zs : its.length ≤ sizeLine := by rw [← ru.length]; exact zz
  refine sorted_of_sort pl.isList zs (ksk_s1 _ _) (fun _ => ksk_l1 _ _) fun E' => ?_
  rw [ksk_t1 f (s.heap.objs.size + 1)]
  have c0 := copyHeap_at s.heap its
  obtain ⟨e1, c1⟩ : ∃ e1, ((copyHeap s.heap its).update (s.heap.objs.size + 1) (Obj.mapSeq fun _ => (#[] : Array Value))).get? (s.heap.objs.size + 1) = some (lO #[] e1) := ⟨_, get?_update_seq c0 fun _ => #[]⟩
  have sz : (copyHeap s.heap its).objs.size = s.heap.objs.size + 2 := by
    unfold copyHeap
    rw [size_push', Heap.size_update, size_push']
  have sz2 : (((copyHeap s.heap its).update (s.heap.objs.size + 1) (Obj.mapSeq fun _ => (#[] : Array Value))).push (seqObj "tuple" its.toArray 0)).objs.size = s.heap.objs.size + 3 := by
    rw [size_push', Heap.size_update, sz]
  unfold ksk_tree
  refine wpAny_bind (listItems_at (s := { s with heap := copyHeap s.heap its }) c0 rfl ?_)
  refine wpAny_bind (listUpdate_at (s := { s with heap := copyHeap s.heap its }) c0 rfl ?_ (by rw [List.size_toArray]; exact zs) (Nat.zero_le (sizeLine + 1)))
  refine wpAny_bind (seqEpoch_at (n := e1) c1 rfl ?_)
  refine wpAny_bind (wpAny_newTuple ?_ (show its.toArray.toList.length ≤ sizeLine from zs))
  refine wpAny_bind (wpAny_newList ?_ (Nat.zero_le sizeLine))
  refine wpAny_holding (s := { s with heap := sortingHeap (copyHeap s.heap its) (s.heap.objs.size + 1) its }) ?_
  have I1 : Inv X pins σ H { s with heap := sortingHeap (copyHeap s.heap its) (s.heap.objs.size + 1) its, toks := s.toks } := I.kept fun b o e => sorting_copy_old e
  have pa : Apart X pins (s.heap.objs.size + 1) := Apart.of I (Nat.le_succ _)
  have pk : Apart X pins (s.heap.objs.size + 3) := Apart.of I (by omega)
  have ga : (sortingHeap (copyHeap s.heap its) (s.heap.objs.size + 1) its).get? (s.heap.objs.size + 1) = some (lO #[] e1) := Heap.get?_push_of_some _ (Heap.get?_push_of_some _ c1)
  have gk : (sortingHeap (copyHeap s.heap its) (s.heap.objs.size + 1) its).get? (s.heap.objs.size + 3) = some (lO #[] 0) := by
    rw [← sz2]
    exact Heap.get?_push_size _ rfl
  have I2 : Inv X ((s.heap.objs.size + 3, lO #[] 0) :: (s.heap.objs.size + 1, lO #[] e1) :: pins) σ H { s with heap := sortingHeap (copyHeap s.heap its) (s.heap.objs.size + 1) its, toks := s.toks } := I1.pins_of fun p hp => by
    rcases List.mem_cons.mp hp with z | z
    · subst z
      exact ⟨gk, I.hok.fresh (by omega), pk.nl, pk.nf, not_cell _ _⟩
    · rcases List.mem_cons.mp z with y | y
      · subst y
        exact ⟨ga, I.hok.fresh (Nat.le_succ _), pa.nl, pa.nf, not_cell _ _⟩
      · exact I1.pin p (List.mem_append_right _ y)
  have go := keys_rest (P := fun f' s' => f' = .done (.ret .none) ∧ EP X pins σ Q (.ref (s.heap.objs.size + 1)) s') (E := E') F hr hb hK I2 M rv ru hd (by omega) (show s.heap.objs.size + 3 ≠ s.heap.objs.size + 1 by omega) pa pk un (fun G' ph' H' sv s' I' M' X' n r => ⟨rfl, .ref (s.heap.objs.size + 1), _, I', rfl, q G' ph' H' _ sv M' X' n r⟩)
  rw [← sz2] at go
  exact go
end
end DL

namespace DL
open PySem L2 PySem.Spec PyProof.Rows
/-! ## some = dict([(x, True) ..]); found.append(sorted(list(some), key=f)) -/
theorem Room.u2 {k : Nat} {A : Around} (h : Room k A) : A.units + 2 < cLine := by have := h.un; omega
theorem Room.u65 {k : Nat} {A : Around} (h : Room k A) : A.units + 65 < cLine := by have := h.un; omega
theorem Room.u100 {k : Nat} {A : Around} (h : Room k A) : A.units + 100 < cLine := by have := h.un; omega
def keysD : List D → Option (List L2.Key)
  | [] => some []
  | d :: ds => match keyD d, keysD ds with
    | some k, some ks => some (k :: ks)
    | _, _ => none
def pairK : D → Option (List L2.Key × D)
  | .tup [.tup xs, .bl true] => (keysD xs).map fun l => (l, .tup xs)
  | _ => none
def pairsK : List D → Option (List (List L2.Key × D))
  | [] => some []
  | d :: ds => match pairK d, pairsK ds with
    | some k, some ks => some (k :: ks)
    | _, _ => none
section
variable {K : PySem.W.Frag} {G : Hp} {ph : List Addr}
theorem keysD_rep : ∀ {xs : List D} {ks : List L2.Key} {vs : List V}, keysD xs = some ks → RepL K G ph xs vs → vs = ks.map kV
  | [], ks, vs, h, r => by
    cases h
    exact r
  | d :: xs, ks, vs, h, r => by
    obtain ⟨v, t, rfl, r1, r2⟩ := r
    have h' : (match keyD d, keysD xs with
      | some k, some ks => some (k :: ks)
      | _, _ => none) = some ks := h
    cases q1 : keyD d with
    | none =>
      rw [q1] at h'
      cases h'
    | some k =>
      cases q2 : keysD xs with
      | none =>
        rw [q1, q2] at h'
        cases h'
      | some kr =>
        rw [q1, q2] at h'
        cases h'
        have e := keysD_rep q2 r2
        have e1 : v = kV k := by
          cases d with
          | int i =>
            cases q1
            exact r1
          | str i =>
            cases q1
            exact r1
          | _ => cases q1
        rw [e, e1]
        rfl
theorem pairsK_rep : ∀ {ds : List D} {kds : List (List L2.Key × D)} {vs : List V}, pairsK ds = some kds → RepL K G ph ds vs →
    ∃ (ps : List Addr) (kbs : List (List L2.Key × Addr)), vs = ps.map V.ref ∧ Paired (fun p (kb : List L2.Key × Addr) => SqT K G p [V.ref kb.2, V.bl true] ∧ SqT K G kb.2 (kb.1.map kV)) ps kbs ∧ Paired (fun (kb : List L2.Key × Addr) (kd : List L2.Key × D) => kb.1 = kd.1 ∧ RepV K G ph kd.2 (V.ref kb.2)) kbs kds
  | [], kds, vs, h, r => by
    cases h
    have e : vs = [] := r
    exact ⟨[], [], e, .nil, .nil⟩
  | d :: ds, kds, vs, h, r => by
    obtain ⟨v, t, rfl, r1, r2⟩ := r
    have h' : (match pairK d, pairsK ds with
      | some k, some ks => some (k :: ks)
      | _, _ => none) = some kds := h
    cases q1 : pairK d with
    | none =>
      rw [q1] at h'
      cases h'
    | some k =>
      cases q2 : pairsK ds with
      | none =>
        rw [q1, q2] at h'
        cases h'
      | some kr =>
        rw [q1, q2] at h'
        cases h'
        obtain ⟨ps, kbs, rfl, p1, p2⟩ := pairsK_rep q2 r2
        unfold pairK at q1
        split at q1
        · rename_i xs
          obtain ⟨l, hl, e⟩ := Option.map_eq_some_iff.mp q1
          subst e
          obtain ⟨a, us, rfl, s1, w1⟩ := r1
          obtain ⟨u, y, rfl, w2, w3⟩ := repl2 w1
          have w3' : y = .bl true := w3
          subst w3'
          obtain ⟨b, zs, rfl, s2, w4⟩ := w2
          have ez := keysD_rep hl w4
          subst ez
          exact ⟨a :: ps, (l, b) :: kbs, rfl, .cons ⟨s1, s2⟩ p1, .cons ⟨rfl, b, _, rfl, s2, w4⟩ p2⟩
        · cases q1
end
theorem firsts_paired {κ α β : Type} [DecidableEq κ] {R : κ × α → κ × β → Prop} (hR : ∀ a b, R a b → a.1 = b.1) : ∀ {as : List (κ × α)} {bs : List (κ × β)} {x : List (κ × α)} {y : List (κ × β)}, Paired R as bs → Paired R x y →
    Paired R (as.foldl (fun acc p => if p.1 ∈ acc.map (·.1) then acc else acc ++ [p]) x) (bs.foldl (fun acc p => if p.1 ∈ acc.map (·.1) then acc else acc ++ [p]) y)
  | _, _, x, y, .nil, h => h
  | _, _, x, y, .cons (a := a) (b := b) h t, hxy => by
    have keys : ∀ {x : List (κ × α)} {y : List (κ × β)}, Paired R x y → x.map (·.1) = y.map (·.1) := by
      intro x y h
      induction h with
      | nil => rfl
      | cons h _ ih => rw [List.map_cons, List.map_cons, ih, hR _ _ h]
    rw [List.foldl_cons, List.foldl_cons]
    refine firsts_paired hR t ?_
    show Paired R (if a.1 ∈ x.map (·.1) then x else x ++ [a]) (if b.1 ∈ y.map (·.1) then y else y ++ [b])
    rw [keys hxy, hR _ _ h]
    by_cases c : b.1 ∈ y.map (·.1)
    · rw [if_pos c, if_pos c]
      exact hxy
    · rw [if_neg c, if_neg c]
      exact hxy.snoc h
open Classical in
noncomputable def sMay (own : Bool) (i j : Nat) (fc : EDen) (den : List D → Mem → Res D) : SDen := fun e m => (fc e m).bind fun x m1 => match x with
  | .lst ds => match pairsK ds with
    | some kds => match e[j]? with
      | some (some r) => if j ≠ i ∧ i < e.length ∧ (firstsK kds).length ≤ 1000 ∧ (∀ d ∈ (firstsK kds).map (·.2), den [d] m1 = .ok (keyO d) m1) ∧ tyM "list" m1 r = true then
          (if own = true then mApp (m1 ++ [.lst (srtK ((firstsK kds).map (·.2)))]) r [.ref m1.length] else mApp m1 r [.lst (srtK ((firstsK kds).map (·.2)))]).bind fun _ m2 => .ok (.nx (e.set i none)) m2
        else .bad
      | _ => .bad
    | none => .bad
  | _ => .bad
section
variable {X : Cx} {C : Cn}
def rSortK (X : Cx) (C : Cn) (f : Addr) (den : List D → Mem → Res D) : List V → List V → Hp → VK → Prop := fun xs zs H Q => ∃ (l : Addr) (m : Mem) (G : Hp) (ph : List Addr) (ds : List D) (vs : List V), xs = [.ref l] ∧ zs = [.ref f] ∧ Mok C m G ph H ∧ SqL X.K H l vs ∧ RepL C.K G ph ds vs ∧ (∀ d ∈ ds, den [d] m = .ok (keyO d) m) ∧ ds.length ≤ 1000 ∧ ∀ (G' : Hp) (ph' : List Addr) (H' : Hp) (p : Addr) (sv : List V), Mok C m G' ph' H' → Ext G ph H G' ph' H' → H' p = none → RepL C.K G' ph' (srtK ds) sv → Q (.ref p) (upd H' p (.lst sv))
theorem cr_sortK {k : Nat} {f : Addr} {fd : FuncData} {pn : Str} {den : List D → Mem → Res D} (F : FnOk X.prog X.w X.K X.mg X.base CX0 k f fd [pn] (spD C 1 den)) (hr : Room k X.A.in1.in1) (hb : Binds X.K fd [pn] []) (hK : C.K = X.K) (un : X.A.units + 100 < cLine) : CallRK X (.builtin "sorted") [Str.ofString "key"] (rSortK X C f den) := by
  intro pins s σ H vs zs us ws Q I r rz h
  obtain ⟨l, m, G, ph, ds, ys, rfl, rfl, M, hl, rv, hd, hz, q⟩ := h
  obtain rfl := Vals.ref1 r
  obtain ⟨w1, rfl, e1⟩ := vals1 rz
  obtain rfl : w1 = Value.ref f := e1
  exact sortK_run F hr hb hK un I M hl rv hd hz q
theorem paired_sqT {G H : Hp} (s : Same G H) : ∀ {ps : List Addr} {kbs : List (List L2.Key × Addr)}, Paired (fun p (kb : List L2.Key × Addr) => SqT X.K G p [V.ref kb.2, V.bl true] ∧ SqT X.K G kb.2 (kb.1.map kV)) ps kbs → Paired (fun p (kb : List L2.Key × Addr) => SqT X.K H p [V.ref kb.2, V.bl true] ∧ SqT X.K H kb.2 (kb.1.map kV)) ps kbs
  | _, _, .nil => .nil
  | _, _, .cons h t => .cons ⟨sqT_mono s h.1, sqT_mono s h.2⟩ (paired_sqT s t)
theorem paired_rep {K : PySem.W.Frag} {G : Hp} {ph : List Addr} : ∀ {kbs : List (List L2.Key × Addr)} {kds : List (List L2.Key × D)}, Paired (fun (kb : List L2.Key × Addr) (kd : List L2.Key × D) => kb.1 = kd.1 ∧ RepV K G ph kd.2 (V.ref kb.2)) kbs kds → RepL K G ph (kds.map (·.2)) ((kbs.map (·.2)).map V.ref)
  | _, _, .nil => rfl
  | _, _, .cons h t => ⟨_, _, rfl, h.2, paired_rep t⟩
theorem Eok.gone {e : Sl} {G : Hp} {ph : List Addr} {σ : L2.St} (h : Eok C e G ph σ) (i : Nat) (x : Option V) : Eok C (e.set i none) G ph (σ.set i x) := by
  refine ⟨by rw [List.length_set, List.length_set]; exact h.len, fun j d q => ?_⟩
  by_cases hj : i = j
  · subst hj
    rw [List.getElem?_set] at q
    split at q
    · split at q <;> cases q
    · contradiction
  · rw [List.getElem?_set_ne hj] at q ⊢
    exact h.at_ j d q
theorem Post.on {α : Type} {G : Hp} {ph : List Addr} {H : Hp} {R : α → Mem → Hp → List Addr → Hp → Prop} {r : Res α} (h : Post C G ph H R r) {G1 : Hp} {ph1 : List Addr} {H1 : Hp} (x : Ext G ph H G1 ph1 H1) : Post C G1 ph1 H1 R r := by
  cases r with
  | ok a m => exact fun G' ph' H' I X' => h G' ph' H' I (x.trans X')
  | exc c p m => exact fun G' ph' H' od I X' e => h G' ph' H' od I (x.trans X') e
  | bad => exact h
theorem dss_may {own : Bool} {i j : Nat} {f : Addr} {den : List D → Mem → Res D} {fc : EDen} {S1 S2 : Stmt} (hK : C.K = X.K)
    (P1 : PS X S1 (tAsg (tCB (rDictTup X.K (.bl true)) (tCons (tE C fc) tNil)) (gName i)))
    (P2 : PS X S2 (tDrop (tBM X.K "list" rAppend (tE C (eVar j)) (tCons (tCKw (rSortK X C f den) (tCons (tCB rListTup (tCons (tVar i) tNil)) tNil) (tCons (tC (.ref f)) tNil)) tNil)))) : DSs X C [S1, S2] (sMay own i j fc den) := by
  refine pss_weak (pss_cons P1 (pss_one P2)) fun D' σ H ⟨e, m, G, ph, Eo, M, h⟩ => ?_
  show tE C fc σ H fun v H1 => rDictTup X.K (.bl true) [v] H1 fun y H2 => gName i y σ H2 _
  refine goE Eo M h fun x m1 G1 ph1 H1 v Eo1 M1 X1 r1 h1 => ?_
  cases x with
  | lst ds =>
    simp only [] at h1
    cases q1 : pairsK ds with
    | none =>
      rw [q1] at h1
      exact h1.elim
    | some kds =>
      rw [q1] at h1
      simp only [] at h1
      split at h1
      · rename_i r qr
        split at h1
        · rename_i cond
          obtain ⟨hij, hil, hlen, hden, hty⟩ := cond
          obtain ⟨a, vs, rfl, ga, rr⟩ := r1
          obtain ⟨ps, kbs, rfl, p1, p2⟩ := pairsK_rep q1 rr
          rw [hK] at p1
          have fp := firsts_paired (R := fun (kb : List L2.Key × Addr) (kd : List L2.Key × D) => kb.1 = kd.1 ∧ RepV C.K G1 ph1 kd.2 (V.ref kb.2)) (fun _ _ h => h.1) p2 .nil
          have fr := paired_rep fp
          have fl : (firstsK kbs).length = (firstsK kds).length := fp.length
          refine ⟨a, ps, kbs, rfl, SqL.of (M1.sub _ _ ga), paired_sqT M1.sub p1, fun d hd hs => ?_⟩
          obtain ⟨M2, X2⟩ := M1.frozen hd (dtO d ((firstsK kbs).map (·.2)))
          have nph : d ∉ ph1 := fun z => M1.trk d z hd
          have E2 := (Eo1.mono X2.g X2.p).gone i (some (V.ref d))
          have gj : (e.set i none)[j]? = some (some r) := by
            rw [List.getElem?_set_ne (fun z => hij z.symm)]
            exact qr
          have gi : (σ.set i (some (V.ref d)))[i]? = some (some (V.ref d)) := List.getElem?_set_self (by rw [← Eo.len]; exact hil)
          refine ⟨e.set i none, m1, _, ph1, E2, M2, ?_⟩
          have ev : eVar j (e.set i none) m1 = .ok r m1 := by
            unfold eVar
            rw [gj]
          rw [ev]
          intro G3 ph3 H3 M3 X3 y ry
          refine ⟨by rw [← hK]; exact tyM_rep M3 hty ry, V.ref d, gi, d, (firstsK kbs).map (·.2), rfl, X3.keep _ _ nph upd_same, hs, ?_, fun p hp => ?_⟩
          · rw [List.length_map, fl]
            exact Nat.le_trans hlen (by rw [sizeLine_eq]; omega)
          obtain ⟨M4, X4⟩ := M3.frozen hp (.lst (((firstsK kbs).map (·.2)).map V.ref))
          have X24 := X2.trans (X3.trans X4)
          refine ⟨p, m1, _, ph3, (firstsK kds).map (·.2), ((firstsK kbs).map (·.2)).map V.ref, rfl, rfl, M4, SqL.of upd_same, RepL.mono X24.g X24.p _ _ fr, hden, by rw [List.length_map]; exact hlen, ?_⟩
          intro G5 ph5 H5 p5 sv M5 X5 n5 rs
          show rAppend y [.ref p5] (upd H5 p5 (.lst sv)) (fun _ H1 => D'.nx (σ.set i (some (V.ref d))) H1)
          cases own with
          | false =>
            obtain ⟨M6, X6⟩ := M5.frozen n5 (.lst sv)
            have X16 := X24.trans (X5.trans X6)
            have X36 := X4.trans (X5.trans X6)
            refine app_snd m1 _ ph5 _ r y [.lst (srtK ((firstsK kds).map (·.2)))] [.ref p5] _ M6 (RepV.mono X36.g X36.p _ _ ry) ⟨.ref p5, [], rfl, ⟨p5, sv, rfl, upd_same, RepL.mono X6.g X6.p _ _ rs⟩, rfl⟩ ?_
            refine ((show Post C G1 ph1 H1 (endS C D') ((mApp m1 r [.lst (srtK ((firstsK kds).map (·.2)))]).bind fun _ m2 => .ok (.nx (e.set i none)) m2) from h1).on X16).bind.mono fun d6 m6 G6 ph6 H6 ⟨M7, X7, h7⟩ w6 _ => ?_
            have X26 := X3.trans (X4.trans (X5.trans (X6.trans X7)))
            exact h7.here M7 _ (E2.mono X26.g X26.p)
          | true =>
            obtain ⟨M6, X6⟩ := M5.cellNew n5 (same_upd n5) (by rw [upd_same]; intro z; cases z) (mo := .lst (srtK ((firstsK kds).map (·.2)))) ⟨sv, upd_same, RepL.mono (Same.refl _) (Pre.snoc _ _) _ _ rs⟩
            have X16 := X24.trans (X5.trans X6)
            have X36 := X4.trans (X5.trans X6)
            refine app_snd (m1 ++ [.lst (srtK ((firstsK kds).map (·.2)))]) _ _ _ r y [.ref m1.length] [.ref p5] _ M6 (RepV.mono X36.g X36.p _ _ ry) ⟨.ref p5, [], rfl, ⟨p5, rfl, ref_last ph5 p5 M5.len⟩, rfl⟩ ?_
            refine ((show Post C G1 ph1 H1 (endS C D') ((mApp (m1 ++ [.lst (srtK ((firstsK kds).map (·.2)))]) r [.ref m1.length]).bind fun _ m2 => .ok (.nx (e.set i none)) m2) from h1).on X16).bind.mono fun d6 m6 G6 ph6 H6 ⟨M7, X7, h7⟩ w6 _ => ?_
            have X26 := X3.trans (X4.trans (X5.trans (X6.trans X7)))
            exact h7.here M7 _ (E2.mono X26.g X26.p)
        · exact h1.elim
      · exact h1.elim
  | _ => exact h1.elim
open Classical in
noncomputable def eSortK (den : List D → Mem → Res D) (fa : EDen) : EDen := fun e m => (fa e m).bind fun x m1 => match dList m1 x with
  | some ds => if (∀ d ∈ ds, den [d] m1 = .ok (keyO d) m1) ∧ ds.length ≤ 1000 then .ok (.lst (srtK ds)) m1 else .bad
  | none => .bad
theorem de_sortK {f : Addr} {den : List D → Mem → Res D} {fa : EDen} {E0 : Expr} (hK : C.K = X.K) (P : PE X E0 (tCKw (rSortK X C f den) (tCons (tE C fa) tNil) (tCons (tC (.ref f)) tNil))) : DE X C E0 (eSortK den fa) := by
  refine pe_weak P fun σ H Q ⟨e, m, G, ph, Eo, I, h⟩ => ?_
  show tE C fa σ H fun v H1 => rSortK X C f den [v] [.ref f] H1 Q
  refine goE Eo I h fun x m1 G1 ph1 H1 v Eo1 I1 X1 r1 h1 => ?_
  cases q : dList m1 x with
  | none =>
    rw [q] at h1
    exact h1.elim
  | some ds =>
    rw [q] at h1
    simp only [] at h1
    split at h1
    · rename_i c
      obtain ⟨a, vs, rfl, ha, rr⟩ := dList_rep I1 q r1
      refine ⟨a, m1, G1, ph1, ds, vs, rfl, rfl, I1, SqL.of ha, rr, c.1, c.2, fun G' ph' H' p sv M' X' n rs => ?_⟩
      obtain ⟨M3, X3⟩ := M'.frozen n (.lst sv)
      exact h1 _ _ _ M3 (X'.trans X3) _ ⟨p, sv, rfl, upd_same, RepL.mono X3.g X3.p _ _ rs⟩
    · exact h1.elim
end
end DL

namespace DL
open PySem PySem.Spec PyProof.Rows L2
section
variable {X : Cx} {C : Cn}
/-- a call without arguments -/
theorem de_call0 {CX : CXT} {k n : Nat} {f : Addr} {fd : FuncData} {ps : List Str} {den : List D → Mem → Res D} {x : Str} {p pos : Pos} (F : FnOk X.prog X.w X.K X.mg X.base CX k f fd ps (spD C n den)) (hr : Room k X.A) (hg : Gl X x) (hm : X.mg x = some (.ref f)) (hk : PySem.W.keepIn X.K (.ref f) = true)
    (hb : Binds X.K fd ps []) (hx : Passes CX X C.E) (hdb : (x == ("__debug__" : Str)) = false := by decide) :
    DE X C (.Call (.Name x p) [] [] pos) (eDef n den aNil) :=
  pe_weak (pe_call0 F hr hg hm hk hb .nil hx hdb) fun σ H Q h => by
    obtain ⟨e, m, G, ph, Eo, I, h⟩ := h
    have h' : Post C G ph H _ ((aNil e m).bind fun ds m1 => if ds.length = n then den ds m1 else .bad) := h
    have e0 : ((aNil e m).bind fun ds m1 => if ds.length = n then den ds m1 else .bad) = if ([] : List D).length = n then den [] m else .bad := rfl
    rw [e0] at h'
    by_cases hl : ([] : List D).length = n
    · rw [if_pos hl] at h'
      exact ⟨rfl, [], m, G, ph, hl, I, rfl, h'⟩
    · rw [if_neg hl] at h'
      exact h'.elim
/-! ## a, b, c = x, y, z -/
def sPar3 (i j l : Nat) (f : ADen) : SDen := fun e m => (f e m).bind fun ds m1 => match ds with
  | [a, b, c] => .ok (.nx (((e.set i (some a)).set j (some b)).set l (some c))) m1
  | _ => .bad
theorem repl3 {K : PySem.W.Frag} {G : Hp} {ph : List Addr} {d d' d'' : D} {vs : List V} (r : RepL K G ph [d, d', d''] vs) : ∃ v w u, vs = [v, w, u] ∧ RepV K G ph d v ∧ RepV K G ph d' w ∧ RepV K G ph d'' u := by
  obtain ⟨v, t, e, r1, r2⟩ := r
  obtain ⟨w, u, e2, r3, r4⟩ := repl2 r2
  rw [e2] at e
  exact ⟨v, w, u, e, r1, r3, r4⟩
theorem ds_par3 {i j l : Nat} {x y z : Str} {a b c : Expr} {f : ADen} {px py pz pt spos : Pos} {kt k2 pt2} (t : PS X (.Assign [.Tuple [.Name x px, .Name y py, .Name z pz] kt pt] (.Tuple [a, b, c] k2 pt2) spos) (tPar3 i j l (tA C f))) :
    DS X C (.Assign [.Tuple [.Name x px, .Name y py, .Name z pz] kt pt] (.Tuple [a, b, c] k2 pt2) spos) (sPar3 i j l f) :=
  ps_weak t fun D' σ H ⟨e, m, G, ph, Eo, I, h⟩ => goA Eo I h fun ds m1 G1 ph1 H1 vs Eo1 I1 X1 r1 h1 => by
    split at h1
    · rename_i a b c
      obtain ⟨v, w, u, rfl, ra, rb, rc⟩ := repl3 r1
      exact ⟨v, w, u, rfl, h1.here I1 _ (((Eo1.set ra).set rb).set rc)⟩
    · exact h1.elim
/-! ## xs.pop(i) -/
theorem RepL.eraseIdx {K : PySem.W.Frag} {G : Hp} {ph : List Addr} : ∀ {ds : List D} {vs : List V} (n : Nat), RepL K G ph ds vs → RepL K G ph (ds.eraseIdx n) (vs.eraseIdx n)
  | [], _, n, r => by
    have e : _ = [] := r
    rw [e]
    exact rfl
  | d :: ds, _, 0, r => by
    obtain ⟨v, vs, rfl, _, r2⟩ := r
    exact r2
  | d :: ds, _, n + 1, r => by
    obtain ⟨v, vs, rfl, r1, r2⟩ := r
    exact ⟨v, vs.eraseIdx n, rfl, r1, RepL.eraseIdx n r2⟩
def mPop : Mem → D → List D → Res D := fun m x xs => match xs with
  | [.int i] => match dOwn m x with
    | some (n, ds) => if 0 ≤ i ∧ ds.length < 1000000 then match ds[i.toNat]? with
      | some y => .ok y (m.set n (.lst (ds.eraseIdx i.toNat)))
      | none => .bad else .bad
    | none => .bad
  | _ => .bad
theorem pop_snd : SndM C rPopAt mPop := by
  intro m G ph H x v xs vs Q I rx rxs h
  unfold mPop at h
  split at h
  rotate_left
  · exact h.elim
  · rename_i i
    obtain ⟨w, rfl, r1⟩ := repl1 rxs
    have e1 : w = .int i := r1
    subst e1
    cases q : dOwn m x with
    | none =>
      rw [q] at h
      exact h.elim
    | some p =>
      obtain ⟨n, ds⟩ := p
      rw [q] at h
      obtain ⟨a, us, rfl, hp, hm, ha, rr⟩ := dOwn_rep I q rx
      by_cases c : 0 ≤ i ∧ ds.length < 1000000
      · simp only [if_pos c] at h
        cases g : ds[i.toNat]? with
        | none =>
          rw [g] at h
          exact h.elim
        | some y =>
          rw [g] at h
          obtain ⟨u, hu, ru⟩ := rr.get g
          have lt := (List.getElem?_eq_some_iff.mp hu).1
          have ln := rr.length
          refine ⟨a, us, i, i.toNat, u, rfl, rfl, ha, by omega, by omega, ?_, hu, ?_⟩
          · unfold seqIndex?
            have c1 : ¬ i < 0 := by omega
            have c2 : i < (us.length : Int) := by omega
            simp [c1, c.1, c2]
          · obtain ⟨I4, X4⟩ := I.write hp hm (by intro z; cases z) (.lst (us.eraseIdx i.toNat)) (mo' := .lst (ds.eraseIdx i.toNat)) ⟨_, upd_same, rr.eraseIdx i.toNat⟩
            exact h _ _ _ I4 X4 _ (RepV.mono X4.g X4.p _ _ ru)
      · simp only [if_neg c] at h
        exact h.elim
end
end DL

/-! ## sorted(set(list of texts)) -/
namespace L2
open PySem PySem.Spec PyProof.Rows
def txOf (e : Int × Value) : Str := match e.2 with
  | .str x _ => x
  | _ => Str.empty
def GoodTx (w : World) (e : Int × Value) : Prop := ∃ x tk, e.2 = Value.str x tk ∧ e.1 = hashStr w x
/-- a set of texts at a: its members, their number; its table can be walked -/
def SetTx (w : World) (h : Heap) (a : Addr) (S : Str → Bool) (n : Nat) : Prop :=
  ∃ o es ep t, h.get? a = some o ∧ o.ExactSet ∧ o.data = .set es ep t ∧ (∀ e ∈ es.toList, GoodTx w e) ∧ (es.toList.map txOf).Nodup ∧ (∀ k, S k = true ↔ k ∈ es.toList.map txOf) ∧
    es.size < scanBound ∧ t.fits es.size = true ∧ es.size = n ∧ Ris t.place.toList ∧ (w.params.followText "set-order" = true ∨ t.led = true)
section
variable {P : Program} {w : World} {h h' : Heap} {a : Addr} {S : Str → Bool} {n : Nat}
theorem SetTx.at (R : SetTx w h a S n) (k : ∀ o, h.get? a = some o → h'.get? a = some o) : SetTx w h' a S n := by
  obtain ⟨o, es, ep, t, ho, r⟩ := R
  exact ⟨o, es, ep, t, k o ho, r⟩
theorem SetTx.congr {S' : Str → Bool} (R : SetTx w h a S n) (e : ∀ k, S' k = S k) : SetTx w h a S' n := by
  have q : S' = S := funext e
  rw [q]
  exact R
theorem tx_elems {l : List (Int × Value)} (g : ∀ e ∈ l, GoodTx w e) : ElemsOf (strKind P w) l := fun e he => by
  obtain ⟨k, tk, h1, h2⟩ := g e he
  exact ⟨⟨k, by rw [h1]; exact strKind_is P w k tk, h2⟩, by rw [h1]; rfl⟩
theorem tx_is {e : Int × Value} (g : GoodTx w e) (k : Str) : (strKind P w).is k e.2 = true ↔ txOf e = k := by
  obtain ⟨k0, tk, h1, _⟩ := g
  have h2 := strKind_is P w k0 tk
  have e0 : txOf e = k0 := by
    unfold txOf
    rw [h1]
  rw [h1, e0]
  constructor
  · intro q
    exact (strKind P w).inj _ _ _ h2 q
  · intro q
    rw [← q]
    exact h2
theorem tx_mem {l : List (Int × Value)} (g : ∀ e ∈ l, GoodTx w e) (k : Str) : k ∈ l.map txOf ↔ ∃ e ∈ l, (strKind P w).is k e.2 = true := by
  rw [List.mem_map]
  constructor
  · rintro ⟨e, he, q⟩
    exact ⟨e, he, (tx_is (g e he) k).2 q⟩
  · rintro ⟨e, he, q⟩
    exact ⟨e, he, (tx_is (g e he) k).1 q⟩
end
section
variable {P : Program} {w : World} {A : Around} {E : Value → Shared → Prop} {s : Shared} {a : Addr} {S : Str → Bool} {n : Nat}
theorem tx_tail {g : Bool → Sem Unit} (hg : ∀ (b : Bool) (s₁ : Shared) (Q' : Unit → Shared → Prop), Q' () s₁ → wpAny (model P w) A (g b) Q' E s₁)
    {o : Obj} {es : Array (Int × Value)} {ep : Nat} {t : SetTable} (ho : s.heap.get? a = some o) (hex : o.ExactSet) (hd : o.data = .set es ep t)
    {es1 : Array (Int × Value)} {t2 : SetTable} {S' : Str → Bool} (g1 : ∀ e ∈ es1.toList, GoodTx w e) (nd1 : (es1.toList.map txOf).Nodup) (m1 : ∀ k, S' k = true ↔ k ∈ es1.toList.map txOf)
    (hb1 : es1.size < scanBound) (hf2 : t2.fits es1.size = true) (hr : Ris t2.place.toList) (hl : w.params.followText "set-order" = true ∨ t2.led = true) {wasDummy : Bool} {R : Option Bool → Shared → Prop}
    (hR : ∀ h', Heap.SameBut a s.heap h' → SetTx w h' a S' es1.size → R (some true) { s with heap := h' }) :
    wpAny (model P w) A (do
        storeSet a es1 t2
        if (!wasDummy && t2.tooFull) = true then do
            g (relayAll t2 es1 (SetTable.grown es1.size)).2.2
            storeSet a (relayAll t2 es1 (SetTable.grown es1.size)).1 (relayAll t2 es1 (SetTable.grown es1.size)).2.1
            pure (some true)
          else pure (some true)) R E s := by
  refine wpAny_bind (wpAny_storeSet_of ho hd ?_ (fits_of_scanBound hb1))
  have ho1 := store_at (es' := es1) (t' := t2) ho hd
  have sb1 := Heap.SameBut.update s.heap a (Obj.putSet es1 t2)
  split
  · have pm := relayAll_perm t2 es1 (SetTable.grown es1.size)
    have hf3 := relayAll_fits t2 es1 (SetTable.grown es1.size)
    have hr3 := relayAll_ris t2 es1 (SetTable.grown es1.size)
    have hl3 := relayAll_led t2 es1 (SetTable.grown es1.size)
    generalize relayAll t2 es1 (SetTable.grown es1.size) = Z at pm hf3 hr3 hl3 ⊢
    obtain ⟨es2, t3, gave⟩ := Z
    dsimp only at pm hf3 hr3 hl3 ⊢
    have hsz : es2.size = es1.size := by rw [← Array.length_toList, pm.length_eq, Array.length_toList]
    have hb2 : es2.size < scanBound := by rw [hsz]; exact hb1
    refine wpAny_bind (hg _ _ _ ?_)
    refine wpAny_bind (wpAny_storeSet_of ho1 rfl ?_ (fits_of_scanBound hb2))
    have ho2 := store_at (es' := es2) (t' := t3) ho1 rfl
    refine wpAny_pure (hR _ (sb1.trans (Heap.SameBut.update _ a _)) ⟨_, es2, _, t3, ho2, hex, rfl, fun e he => g1 e (pm.mem_iff.mp he), (pm.map txOf).nodup_iff.mpr nd1, fun k => (m1 k).trans (pm.map txOf).mem_iff.symm, hb2, hf3, hsz, hr3, hl.imp id fun z => by rw [hl3]; exact z⟩)
  · exact wpAny_pure (hR _ sb1 ⟨_, es1, _, t2, ho1, hex, rfl, g1, nd1, m1, hb1, hf2, rfl, hr, hl⟩)
theorem tx_add {k : Str} {tk : Tok} {Q : Bool → Shared → Prop} (R : SetTx w s.heap a S n) (room : n + 1 < scanBound)
    (hQ : ∀ h', Heap.SameBut a s.heap h' → SetTx w h' a (fun j => S j || decide (j = k)) (if S k = true then n else n + 1) → Q (!S k) { s with heap := h' }) :
    wpAny (model P w) A (setAddHashed a (.str k tk) ((strKind P w).hash k)) Q E s := by
  obtain ⟨o, es, ep, t, ho, hex, hd, g, nd, hm, hb, hf, hn, hr, hl⟩ := R
  have hkey : (strKind P w).is k (.str k tk) = true := strKind_is P w k tk
  have hsc : (Value.str k tk).scannable = true := rfl
  have hel : ElemsOf (strKind P w) es.toList := tx_elems g
  unfold setAddHashed setAddHashedIn
  refine wpAny_holding (wpAny_bind (wpAny_setState_of ho hd hf ?_))
  dsimp only
  rw [byScan_of hsc hb hel]
  simp only [↓reduceIte]
  unfold setAddByScan
  refine wpAny_bind ?_
  refine wpAny_bind (wpAny_rule ?_)
  refine wpAny_bind (wpAny_setScan_of hkey ho hd hf hel ?_)
  cases hfi : List.findIdx? (fun e => (strKind P w).is k e.2) es.toList with
  | some j =>
    dsimp only
    obtain ⟨hj, pj, _⟩ := List.findIdx?_eq_some_iff_getElem.mp hfi
    have hSk : S k = true := (hm k).2 ((tx_mem (P := P) (w := w) g k).2 ⟨es.toList[j], List.getElem_mem hj, pj⟩)
    refine wpAny_pure (wpAny_pure ?_)
    have q := hQ s.heap (Heap.SameBut.refl a s.heap) ⟨o, es, ep, t, ho, hex, hd, g, nd, fun i => by
      rw [Bool.or_eq_true, decide_eq_true_eq, ← hm i]
      exact ⟨fun z => z.elim id (fun e => e ▸ hSk), .inl⟩, hb, hf, by rw [if_pos hSk]; exact hn, hr, hl⟩
    rw [hSk] at q
    exact q
  | none =>
    dsimp only
    have hnk : k ∉ es.toList.map txOf := fun z => by
      obtain ⟨e, he, q⟩ := (tx_mem (P := P) (w := w) g k).1 z
      have c := List.findIdx?_eq_none_iff.mp hfi e he
      rw [q] at c
      cases c
    have hSk : S k = false := by
      cases q : S k with
      | false => rfl
      | true => exact absurd ((hm k).1 q) hnk
    have hgw : ∀ (b : Bool) {s₁ : Shared} {Q' : Unit → Shared → Prop}, Q' () s₁ → wpAny (model P w) A (match b with | true => rule "set.scan.the-table-gave-way" | false => pure ()) Q' E s₁ :=
      fun b s₁ Q' q => by cases b <;> first | exact wpAny_pure q | exact wpAny_rule q
    have pm := layNew_perm t es ((strKind P w).hash k) (.str k tk)
    have hf1 := layNew_fits t es ((strKind P w).hash k) (.str k tk)
    have hr1 := layNew_ris t es ((strKind P w).hash k) (.str k tk) hr
    have hl1 := layNew_led t es ((strKind P w).hash k) (.str k tk)
    generalize layNew t es ((strKind P w).hash k) (.str k tk) = Z at pm hf1 hr1 hl1 ⊢
    obtain ⟨es1, t1, wasDummy, gave⟩ := Z
    dsimp only at pm hf1 hr1 hl1 ⊢
    rw [Array.toList_push] at pm
    have pc : es1.toList.Perm (((strKind P w).hash k, Value.str k tk) :: es.toList) := pm.trans (List.perm_append_singleton _ _)
    have pk : (es1.toList.map txOf).Perm (k :: es.toList.map txOf) := pc.map txOf
    have g1 : ∀ e ∈ es1.toList, GoodTx w e := fun e he => by
      rcases List.mem_cons.mp (pc.mem_iff.mp he) with z | z
      · rw [z]; exact ⟨k, tk, rfl, rfl⟩
      · exact g e z
    have nd1 : (es1.toList.map txOf).Nodup := pk.nodup_iff.mpr (List.nodup_cons.mpr ⟨hnk, nd⟩)
    have m1 : ∀ i, (S i || decide (i = k)) = true ↔ i ∈ es1.toList.map txOf := fun i => by
      rw [Bool.or_eq_true, decide_eq_true_eq, hm i, pk.mem_iff, List.mem_cons]
      exact Or.comm
    have hsz : es1.size = n + 1 := by rw [← Array.length_toList, pc.length_eq, List.length_cons, Array.length_toList, hn]
    have hb1 : es1.size < scanBound := by rw [hsz]; exact room
    have hled : w.params.followText "set-order" = true ∨ t1.led = true := hl.imp id fun z => by rw [hl1]; exact z
    have fin : ∀ h', Heap.SameBut a s.heap h' → SetTx w h' a (fun j => S j || decide (j = k)) es1.size → Q true { s with heap := h' } := fun h' sb r => by
      have q := hQ h' sb
      rw [hSk] at q
      rw [hsz] at r
      exact q r
    refine wpAny_bind (hgw _ ?_)
    split
    · refine wpAny_bind ?_
      rw [hashByValue_scannable 8 hsc]
      refine wpAny_pure ?_
      refine tx_tail ?_ ho hex hd g1 nd1 m1 hb1 ?_ ?_ ?_ ?_
      · intro b s₁ Q' q; cases b <;> first | exact wpAny_pure q | exact wpAny_rule q
      · first | (split <;> first | exact hf1 | exact SetTable.fits_plain_off hf1) | exact hf1
      · first | (split <;> exact hr1) | exact hr1
      · first | (split <;> exact hled) | exact hled
      · intro h' sb r; dsimp only; exact wpAny_pure (fin h' sb r)
    · refine wpAny_bind (wpAny_pure ?_)
      simp only [↓reduceIte]
      refine tx_tail ?_ ho hex hd g1 nd1 m1 hb1 hf1 hr1 hled ?_
      · intro b s₁ Q' q; cases b <;> first | exact wpAny_pure q | exact wpAny_rule q
      · intro h' sb r; dsimp only; exact wpAny_pure (fin h' sb r)
end
theorem tx_new {w : World} {h : Heap} {a : Addr} {ns : List Str} (ho : h.get? a = some { cls := .type "set", dict := none, data := .set #[] 0 (.fresh 0 0 (!w.params.followText "set-order")) }) : SetTx w h a (fun j => decide (j ∈ ns.take 0)) 0 :=
  ⟨_, #[], 0, _, ho, ⟨rfl, rfl, rfl⟩, rfl, (fun e he => by simp at he), (by simp), (fun k => by simp), (by decide), (by rfl), rfl, List.Pairwise.nil, by
    show _ ∨ (!w.params.followText "set-order") = true
    cases w.params.followText "set-order"
    · exact .inr rfl
    · exact .inl rfl⟩
section
variable {P : Program} {w : World} {A : Around} {E : Value → Shared → Prop} {s : Shared}
theorem tx_update {I : Addr} {fp wr : List Addr} {G : Array GenState → Array GenState → Prop} {n : Nat} {Pv : Nat → Value → Prop} {St : Nat → Shared → Prop} {R : Result → Shared → Prop}
    (W : WalksS P w A.in1 I fp wr G n Pv St) (S : Addr) (hSf : S ∉ fp) (ns : List Str) (hn : n = ns.length) (hb : ns.length + 1 < scanBound) (hval : ∀ i v, Pv i v → ∃ k t, ns[i]? = some k ∧ v = .str k t) :
    ∀ (k i : Nat) (s : Shared), n - i = k → i ≤ n → St i s → (∃ c, c ≤ i ∧ SetTx w s.heap S (fun j => decide (j ∈ ns.take i)) c) →
      (∀ s' c, Moved (S :: wr) G s s' → c ≤ n → SetTx w s'.heap S (fun j => decide (j ∈ ns)) c → R (.ok (.ret .none)) s') →
      codeAny (model P w) A (.builtin "set.update.loop" ⟨[.ref S, .ref I], []⟩) R s := by
  have hSw : S ∉ wr := fun h => hSf (W.sub _ h)
  have hsub : ∀ b ∈ wr, b ∈ S :: wr := fun b hb => List.mem_cons_of_mem _ hb
  intro k
  induction k with
  | zero =>
    intro i s hk' hi hst ⟨c, hc, hS⟩ hR
    have hin : i = n := by omega
    subst hin
    refine codeAny_builtin F.entry_set_update_loop ?_
    rw [Around.under_plainId F.plain_set_update_loop _]
    show wpAny _ A.in1 (pyNext (.ref I) >>= _) _ _ s
    refine wpAny_bind (W.done s _ _ hst fun s' hm => ?_)
    show wpAny _ A.in1 (ret Value.none) _ _ s'
    have e : ns.take i = ns := List.take_of_length_le (by omega)
    rw [e] at hS
    exact wpAny_pure (hR s' c (hm.mono hsub) hc (hS.at fun o e => hm.heap S o hSw e))
  | succ k ih =>
    intro i s hk' hi hst ⟨c, hc, hS⟩ hR
    have hlt : i < n := by omega
    refine codeAny_builtin F.entry_set_update_loop ?_
    rw [Around.under_plainId F.plain_set_update_loop _]
    show wpAny _ A.in1 (pyNext (.ref I) >>= _) _ _ s
    refine wpAny_bind (W.item i s _ _ hlt hst fun v s' hP hst' hm => ?_)
    obtain ⟨z, t, hz, rfl⟩ := hval i v hP
    have hS' : SetTx w s'.heap S (fun j => decide (j ∈ ns.take i)) c := hS.at fun o e => hm.heap S o hSw e
    show wpAny _ A.in1 (holding [Value.str z t] (setAdd S (.str z t)) >>= _) _ _ s'
    refine wpAny_bind (wpAny_holding ?_)
    unfold setAdd
    refine wpAny_holding ?_
    refine wpAny_bind ((strKind P w).pyHash (k := z) (strKind_is _ _ _ _) ?_)
    refine tx_add (s := { s' with toks := s'.toks + 1 }) hS' (by omega) fun h' hsb hS2 => ?_
    have hS3 : SetTx w h' S (fun j => decide (j ∈ ns.take (i + 1))) (if decide (z ∈ ns.take i) = true then c else c + 1) := hS2.congr fun j => by
      rw [List.take_add_one, hz]
      simp [List.mem_append]
    have hc3 : (if decide (z ∈ ns.take i) = true then c else c + 1) ≤ i + 1 := by
      split <;> omega
    refine wpAny_pure ⟨plainId_quiet F.plain_set_update_loop _, ih (i + 1) _ (by omega) hlt (W.frame _ s' _ _ hst' (Nat.le_succ _) fun b hb o e => ?_) ⟨_, hc3, hS3⟩ fun s'' c2 hm'' hc'' hS'' => ?_⟩
    · rw [hsb.2 b (fun h : b = S => hSf (by rw [← h]; exact hb))]; exact e
    · refine hR s'' c2 (Moved.trans W.gtrans ((hm.mono hsub).then_heap (Nat.le_succ _) fun b o hb e => ?_) hm'') hc'' hS''
      rw [hsb.2 b (fun h : b = S => hb (by rw [h]; exact List.mem_cons_self))]; exact e
abbrev FedTx (w : World) (s : Shared) (ns : List Str) (r : Value) (s2 : Shared) : Prop := r = .none ∧ ∃ (g : Heap) (t c : Nat), s2 = { s with heap := g, toks := t } ∧ SetTx w g s.heap.objs.size (fun j => decide (j ∈ ns)) c ∧ c ≤ ns.length ∧ (∀ b o, s.heap.get? b = some o → g.get? b = some o)
theorem setOfTexts {l : Addr} {its : Array Value} (ns : List Str) {Q : Value → Shared → Prop} (hh : A.handled = none) (hl : s.heap.IsList l its) (hi : StrsAre its.toList ns) (few : ns.length + 1 < scanBound)
    (k : ∀ (g : Heap) (t c : Nat), SetTx w g s.heap.objs.size (fun j => decide (j ∈ ns)) c → c ≤ ns.length → (∀ b o, s.heap.get? b = some o → g.get? b = some o) → Q (.ref s.heap.objs.size) { s with heap := g, toks := t }) :
    wpAny (model P w) A (call (.type "set") [.ref l]) Q E s := by
  have lenS : ∀ {us : List Value} {xs : List Str}, StrsAre us xs → us.length = xs.length := fun h => by
    induction h with
    | nil => rfl
    | cons _ _ _ ih => rw [List.length_cons, List.length_cons, ih]
  have size : its.size = ns.length := by rw [← Array.length_toList]; exact lenS hi
  have ⟨c, tl, mro⟩ := F.called_set.mro; have made := F.called_set.made; have sub := F.called_set.sub
  refine wpAny_call (codeAny_of_tree ?_); show wpAny _ _ (callAny (.type "set") _) _ _ _
  refine wpAny_pure ⟨Code.quiet_builtin _ (by decide +kernel), codeAny_builtin F.entry_type_call ?_⟩; rw [Around.under_plain (weight_type_call_type "set" [.ref l] []) rfl]
  have nt := F.called_set.notType; have cc := F.called_set.canCreate; have ct := F.typeCall_set_1 (.ref l)
  repeat (any_goals (first | assumption | wp_step))
  refine codeAny_mono (code_set_led1 (.ref l) (E := E) (Q₁ := fun ob s1 => ob = .ref s.heap.objs.size ∧ s1 = { s with heap := s.heap.push (nS w) }) ⟨rfl, rfl⟩) fun r s1 hr => ?_
  cases r with
  | error e => exact hr
  | ok f1 =>
    cases f1 <;> first | (exact hr.elim; done) | skip
    obtain ⟨rfl, rfl⟩ := hr
    have at0 : (s.heap.push (nS w)).get? s.heap.objs.size = some (nS w) := Heap.get?_push_size _ rfl
    have ty : Shared.TypeIs { s with heap := s.heap.push (nS w) } (.ref s.heap.objs.size) "set" := ⟨_, at0, rfl⟩
    have look := F.called_set.init.lookup; have bnd := F.called_set.init.bind (.ref s.heap.objs.size)
    repeat (any_goals (first | assumption | wp_step))
    refine codeAny_mono (codeAny_call_builtin (R := wants (FedTx w s ns) E) F.called_set.init.plain F.entry_set_init (check_set_init_1 ty ?_)) fun r2 s2 hr2 => ?_
    · obtain ⟨⟨cls, dct, data, slots⟩, ho, hc, n, hd⟩ := hl
      simp only at hc hd; subst hc; subst hd
      have ho2 : (s.heap.push (nS w)).get? l = some ⟨.type "list", dct, .seq its n, slots⟩ := Heap.get?_push_of_some _ ho
      have s1 := F.sub_list_set; have s2 := F.sub_list_frozenset
      have nd : (Value.type "list" == Value.type "dict") = false := by decide
      have hl2 : (s.heap.push (nS w)).IsList l its := ⟨_, ho2, rfl, n, rfl⟩
      unfold Builtin.«set.__init__» noKeywords Builtin.Frozenset.updateFrom; generalize hp : pyIter = PI
      wp_walk
      subst hp
      refine wpAny_pyIter_list hl2 ?_; refine wpAny_bind (wpAny_runValue ?_)
      have below : l < s.heap.objs.size := Heap.lt_size ho
      have quiet : A.in1.in1.in1.handled = none := by simp [hh]
      have sz : (s.heap.push (nS w)).objs.size = s.heap.objs.size + 1 := Heap.size_push ..
      have apart : l ≠ (s.heap.push (nS w)).objs.size := by rw [sz]; exact Nat.ne_of_lt (Nat.lt_succ_of_lt below)
      have out : s.heap.objs.size ∉ [(s.heap.push (nS w)).objs.size, l] := by
        rw [sz]
        simp
        exact Nat.ne_of_gt below
      have vals : ∀ (i : Nat) (v : Value), its[i]? = some v → ∃ k t, ns[i]? = some k ∧ v = .str k t := fun i v hv => by
        have gen : ∀ {us : List Value} {xs : List Str}, StrsAre us xs → ∀ (i : Nat) (v : Value), us[i]? = some v → ∃ k t, xs[i]? = some k ∧ v = .str k t := fun h => by
          induction h with
          | nil => intro i v q; simp at q
          | cons x t _ ih =>
            intro i v q
            cases i with
            | zero => cases q; exact ⟨x, _, rfl, rfl⟩
            | succ i => exact ih i v (by simpa using q)
        exact gen hi i v (by rw [Array.getElem?_toList]; exact hv)
      refine tx_update ((Walks.list quiet _ l apart its).toS) s.heap.objs.size out ns size few vals (its.size - 0) 0 _ (by omega) (Nat.zero_le _) ⟨⟨_, Heap.get?_push_size _ rfl, rfl, rfl⟩, hl2.push _⟩ ?first ?last
      case first => exact ⟨0, Nat.le_refl 0, tx_new (Heap.get?_push_of_some _ at0)⟩
      case last =>
        intro s3 c3 mv le3 R3
        obtain ⟨g3, gn3, dr3, tk3, os3⟩ := s3
        obtain rfl : gn3 = s.gens := mv.gens
        obtain rfl : dr3 = s.drawn := mv.drawn
        obtain rfl : os3 = s.os := mv.os
        show wpAny _ _ _ _ _ _; refine wpAny_pure ?_; show wpAny _ _ (ret Value.none) _ _ _; rw [size] at le3
        refine wpAny_pure ⟨rfl, g3, tk3, c3, rfl, R3, le3, fun b o e => ?_⟩
        have lt := Heap.lt_size e
        refine mv.heap b o ?_ (Heap.get?_push_of_some _ (Heap.get?_push_of_some _ e))
        rw [sz]
        simp
        exact ⟨Nat.ne_of_lt lt, Nat.ne_of_lt (Nat.lt_succ_of_lt lt)⟩
    · cases r2 with
      | error e => exact hr2
      | ok f2 =>
        cases f2 <;> first | (exact hr2.elim; done) | skip
        obtain ⟨rfl, g, t, c, rfl, R, le, kp⟩ := hr2
        repeat (any_goals (first | assumption | wp_step))
        exact k g t c R le kp
theorem strs_of : ∀ (l : List Value), (∀ v ∈ l, ∃ x tk, v = Value.str x tk) → ∃ xs : List Str, StrsAre l xs
  | [], _ => ⟨[], .nil⟩
  | v :: l, h => by
    obtain ⟨x, tk, rfl⟩ := h v List.mem_cons_self
    obtain ⟨xs, h1⟩ := strs_of l fun u hu => h u (List.mem_cons_of_mem _ hu)
    exact ⟨x :: xs, .cons x tk h1⟩
theorem strs_tx : ∀ {l : List Value} {xs : List Str}, StrsAre l xs → l.map (fun v => txOf (0, v)) = xs := fun h => by
  induction h with
  | nil => rfl
  | cons x t _ ih => rw [List.map_cons, ih]; rfl
theorem sorted_tx {a : Addr} {S : Str → Bool} {n : Nat} {Q : Value → Shared → Prop} (R : SetTx w s.heap a S n) (hh : A.handled = none) (h64 : n < 64)
    (hQ : ∀ s' p (out : Array Value) (c : Nat) (ys : List Str), (∀ b o, s.heap.get? b = some o → s'.heap.get? b = some o) → s'.gens = s.gens → s'.os = s.os → s.heap.objs.size ≤ p →
      s'.heap.get? p = some (seqObj "list" out c) → StrsAre out.toList ys → sortedS ys = true → ys.Nodup → (∀ k, k ∈ ys ↔ S k = true) → ys.length = n → Q (.ref p) s') :
    wpAny (model P w) A (call (.builtin "sorted") [.ref a]) Q E s := by
  obtain ⟨o, es, ep, t, ho, hex, hd, g, nd, hm, hb, hf, hn, hr, hl⟩ := R
  refine Calls.call_function_entry kind_sorted plain_sorted entry_sorted (args_sorted1 _) ?_
  unfold Builtin.«sorted»
  refine wpAny_bind (m := checkCount "sorted" 1 1 _) (wpAny_pure ?_)
  refine wpAny_bind (collect_set (A := A.in1) hh ⟨o, ho, hex.1, hd⟩ hf hb hr hl fun s1 vs k1 hz g1 o1 pm => ?_)
  have hvl : vs.length = n := by rw [pm.length_eq, List.length_map, Array.length_toList]; exact hn
  obtain ⟨xs, hS⟩ := strs_of vs fun v hv => by
    obtain ⟨e, he, q⟩ := List.mem_map.mp (pm.mem_iff.mp hv)
    obtain ⟨k, tk, h1, _⟩ := g e he
    exact ⟨k, tk, by rw [← q]; exact h1⟩
  have pk : xs.Perm (es.toList.map txOf) := by
    have q := pm.map fun v => txOf (0, v)
    rw [strs_tx hS, List.map_map] at q
    exact q
  refine wpAny_bind (wpAny_newList ?_ (by rw [hvl, sizeLine_eq]; omega))
  have hoL : (s1.heap.push (seqObj "list" vs.toArray 0)).get? s1.heap.objs.size = some (seqObj "list" vs.toArray 0) := Heap.get?_push_size _ rfl
  refine wpAny_bind (wpAny_holding (wpAny_call_entry slot_list_sort ⟨_, hoL, rfl⟩ entry_list_sort
    (list_sort_treeK strKind_oneLt (s := { s1 with heap := s1.heap.push (seqObj "list" vs.toArray 0) }) hoL hS.keysOf (fun v₁ v₂ rest e => keyKind_strs (by rw [← e]; exact hS)) (by rw [hvl]; exact h64) fun st' hp hs => ⟨_, rfl, ?_⟩)
    (args_list_sort _)))
  obtain ⟨ys, a1, a2, a3⟩ := sorted_out_str hS hp hs
  obtain ⟨c, hc⟩ := sortedHeap_at (vs := vs) (out := (arrOf st').map (·.2)) hoL
  have pn : ys.Perm (es.toList.map txOf) := a2.trans pk
  refine wpAny_pure ⟨_, rfl, hQ _ s1.heap.objs.size ((arrOf st').map (·.2)) c ys (fun b u e => ?_) g1 o1 hz hc a1 a3 (pn.nodup_iff.mpr nd) (fun k => by rw [pn.mem_iff, ← hm k]) ?_⟩
  · have q := k1 b u e
    have hlt := Heap.lt_size q
    show (sortedHeap (s1.heap.push (seqObj "list" vs.toArray 0)) s1.heap.objs.size vs ((arrOf st').map (·.2))).get? b = some u
    rw [sortedHeap_old (Nat.ne_of_lt hlt) (by rw [size_push']; exact Nat.lt_succ_of_lt hlt)]
    exact Heap.get?_push_of_some _ q
  · rw [pn.length_eq, List.length_map, Array.length_toList]; exact hn
end
def SetTxO (w : World) (a : Addr) (S : Str → Bool) (n : Nat) : HO := .ext fun h => SetTx w h a S n
theorem setTxO_new {w : World} {P : Program} {H : Hp} {h : Heap} {a : Addr} {S : Str → Bool} {n : Nat} (R : SetTx w h a S n) : ObjOk P w H h a (SetTxO w a S n) := by
  have ⟨o, _, _, _, ho, _⟩ := R
  exact ⟨R, ⟨o, ho⟩, fun h1 h2 p k => SetTx.at p k⟩
def rSetLT (K : PySem.W.Frag) (w : World) : List V → Hp → VK → Prop := fun vs H Q => ∃ (l : Addr) (ns : List Str), vs = [V.ref l] ∧ SqL K H l (ns.map V.str) ∧ ns.length < 64 ∧ ∀ (p : Addr) (c : Nat), H p = none → c ≤ ns.length → Q (.ref p) (upd H p (SetTxO w p (fun j => decide (j ∈ ns)) c))
theorem cr_setLT {X : Cx} (hc : X.calm = true) : CallR X (.type "set") (rSetLT X.K X.w) := by
  intro pins s σ H vs us Q I r h
  obtain ⟨l, ns, rfl, hq, h64, q⟩ := h
  obtain ⟨its, rv, pl, hz⟩ := I.list hq
  rw [Vals.ref1 r]
  refine setOfTexts ns (I.ok.hd hc) pl.isList rv.strs (by unfold scanBound; omega) fun g t c R le kp => ?_
  exact ⟨.ref _, _, I.laid (t' := t) kp (Nat.le_refl _) (setTxO_new R), rfl, q _ c (I.hok.fresh (Nat.le_refl _)) le⟩
def rSortedTx (w : World) : List V → Hp → VK → Prop := fun vs H Q => ∃ (a : Addr) (S : Str → Bool) (n : Nat), vs = [V.ref a] ∧ H a = some (SetTxO w a S n) ∧ n < 64 ∧
  ∀ (ys : List Str) (p : Addr), sortedS ys = true → ys.Nodup → (∀ k : Str, k ∈ ys ↔ S k = true) → H p = none → Q (.ref p) (upd H p (.lst (ys.map V.str)))
theorem cr_sortedTx {X : Cx} (hc : X.calm = true) : CallR X (.builtin "sorted") (rSortedTx X.w) := by
  intro pins s σ H vs us Q I r h
  obtain ⟨a, S, n, rfl, ha, h64, q⟩ := h
  have R : SetTx X.w s.heap a S n := (I.hok a _ ha).1
  rw [Vals.ref1 r]
  refine sorted_tx R (I.ok.hd hc) h64 fun s' p out c ys k g o hp hg hi hs hd hm hl => ?_
  have hlen : (ys.map V.str).length ≤ sizeLine := by rw [List.length_map, hl, sizeLine_eq]; omega
  have hn : H p = none := I.hok.fresh hp
  have J : Inv X pins σ (upd H p (.lst (ys.map V.str))) { s with heap := s'.heap, gens := s'.gens, drawn := s'.drawn, toks := s'.toks } :=
    I.call (ch := []) (Un.laid k hp hn) (I.hok.laid k hp ⟨hlen, out.toList, c, vals_of_strs hi, hg⟩) (by rw [g]; exact I.bare) (fun _ z => nomatch z)
  have e : s' = { s with heap := s'.heap, gens := s'.gens, drawn := s'.drawn, toks := s'.toks } := by
    cases s'
    cases s
    cases o
    rfl
  rw [e]
  exact ⟨.ref p, _, J, rfl, q ys p hs hd hm hn⟩
end L2
namespace DL
open PySem L2
/-- texts in order, each once -/
def insT (x : Str) (l : List Str) : List Str := if x ∈ l then l else insS x l
def sdS : List Str → List Str
  | [] => []
  | x :: r => insT x (sdS r)
theorem sdS_mem : ∀ (l : List Str) (z : Str), z ∈ sdS l ↔ z ∈ l
  | [], z => Iff.rfl
  | x :: r, z => by
    show z ∈ insT x (sdS r) ↔ _
    unfold insT
    have ih := sdS_mem r z
    split
    · rename_i h
      rw [ih, List.mem_cons]
      constructor
      · exact .inr
      · rintro (e | e)
        · rw [e]
          exact (sdS_mem r x).mp h
        · exact e
    · rw [(insS_perm x (sdS r)).mem_iff, List.mem_cons, List.mem_cons, ih]
theorem sdS_up : ∀ l : List Str, UpS (sdS l) ∧ (sdS l).Nodup
  | [] => ⟨List.Pairwise.nil, List.nodup_nil⟩
  | x :: r => by
    obtain ⟨a, b⟩ := sdS_up r
    show UpS (insT x (sdS r)) ∧ (insT x (sdS r)).Nodup
    unfold insT
    split
    · exact ⟨a, b⟩
    · rename_i h
      exact ⟨insS_sorted x _ a, (insS_perm x _).nodup_iff.mpr (List.nodup_cons.mpr ⟨h, b⟩)⟩
theorem sdS_one {a : List Str} {l : List Str} (h1 : UpS a) (h2 : a.Nodup) (m : ∀ z, z ∈ a ↔ z ∈ l) : a = sdS l := by
  obtain ⟨s1, s2⟩ := sdS_up l
  exact sortedS_one ((List.perm_ext_iff_of_nodup h2 s2).mpr fun z => by rw [m, sdS_mem]) h1 s1
theorem sdS_same {l k : List Str} (m : ∀ z, z ∈ l ↔ z ∈ k) : sdS l = sdS k := by
  obtain ⟨s1, s2⟩ := sdS_up l
  exact sdS_one s1 s2 fun z => by rw [sdS_mem, m]
def eSortTx (fa : EDen) : EDen := fun e m => (fa e m).bind fun x m1 => match dList m1 x with
  | some ds => match strsD ds with
    | some is => if is.length < 64 then .ok (.lst ((sdS is).map D.str)) m1 else .bad
    | none => .bad
  | none => .bad
theorem de_sortTx {X : Cx} {C : Cn} {a : Expr} {p p2 q pos : Pos} {fa : EDen} (hc : X.calm = true) (hg : Gl X "sorted") (hm : X.mg "sorted" = none) (hg2 : Gl X "set") (hm2 : X.mg "set" = none) (ha : DE X C a fa) (hK : C.K = X.K := by rfl) (hs : starEach [a] X.env = (false, eval a X.env) :: starEach [] X.env := by rfl)
    (he : starEach [.Call (.Name "set" p2) [a] [] q] X.env = (false, eval (.Call (.Name "set" p2) [a] [] q) X.env) :: starEach [] X.env := by rfl) :
    DE X C (.Call (.Name "sorted" p) [.Call (.Name "set" p2) [a] [] q] [] pos) (eSortTx fa) := by
  refine pe_weak (pe_callB (cr_sortedTx hc) hg hm (by decide +kernel) (pa_cons (pe_callTy (cr_setLT hc) hg2 hm2 (by decide +kernel) (pa_cons ha pa_nil hs) (by decide) (by decide) hs rfl) pa_nil he) (by decide) (by decide) he rfl) fun σ H Q ⟨e, m, G, ph, Eo, I, h⟩ => ?_
  refine goE Eo I h fun x m1 G1 ph1 H1 v Eo1 I1 X1 r1 h1 => ?_
  cases qd : dList m1 x with
  | none =>
    rw [qd] at h1
    exact h1.elim
  | some ds =>
    rw [qd] at h1
    simp only [] at h1
    cases qi : strsD ds with
    | none =>
      rw [qi] at h1
      exact h1.elim
    | some is =>
      rw [qi] at h1
      simp only [] at h1
      obtain ⟨l, us, rfl, hl, rr⟩ := dList_rep I1 qd r1
      have e := strsD_eq qi
      subst e
      have e2 := RepL.strs_inv rr
      subst e2
      by_cases c : is.length < 64
      · rw [if_pos c] at h1
        refine ⟨l, is, rfl, SqL.of hl, c, fun p n hp hn => ?_⟩
        obtain ⟨I2, X2⟩ := I1.frozen hp (SetTxO X.w p (fun j => decide (j ∈ is)) n)
        refine ⟨p, _, n, rfl, upd_same, by omega, fun ys p2 up nd mem hp2 => ?_⟩
        obtain ⟨I3, X3⟩ := I2.frozen hp2 (.lst (ys.map V.str))
        have e3 : ys = sdS is := sdS_one (upS_of up) nd fun z => by
          rw [mem z]
          exact decide_eq_true_iff
        subst e3
        exact h1 _ _ _ I3 (X2.trans X3) _ ⟨p2, _, rfl, upd_same, RepL.strs⟩
      · rw [if_neg c] at h1
        exact h1.elim
end DL

/-! ## texts joined, split, read -/
namespace DL
open PySem L2 PySem.Spec PyProof.Rows
section
variable {X : Cx} {C : Cn}
abbrev rJoinD (K : PySem.W.Frag) : V → List V → Hp → VK → Prop := fun x xs H Q => ∃ a p, ∃ ys : List Str, x = .str a ∧ xs = [.ref p] ∧ (SqL K H p (ys.map V.str) ∨ SqT K H p (ys.map V.str)) ∧ (ys.map (·.length)).sum + ys.length * a.length ≤ 16777216 ∧ Q (.str (Txt.join a ys)) H
def mJoin : Mem → D → List D → Res D := fun m x xs => match x, xs with
  | .str a, [y] => match dSeq m y with
    | some ds => match strsD ds with
      | some ys => if (ys.map (·.length)).sum + ys.length * a.length ≤ 1000000 then .ok (.str (Txt.join a ys)) m else .bad
      | none => .bad
    | none => .bad
  | _, _ => .bad
theorem join_snd : SndM C (rJoinD C.K) mJoin := by
  intro m G ph H x v xs vs Q I rx rxs h
  unfold mJoin at h
  split at h
  rotate_left
  · exact h.elim
  · rename_i a y
    have ev : v = .str a := rx
    subst ev
    obtain ⟨w, rfl, r1⟩ := repl1 rxs
    cases q : dSeq m y with
    | none =>
      rw [q] at h
      exact h.elim
    | some ds =>
      rw [q] at h
      cases qs : strsD ds with
      | none =>
        simp only [qs] at h
        exact h.elim
      | some ys =>
        simp only [qs] at h
        obtain ⟨p, us, rfl, hs, rr⟩ := dSeq_rep I q r1
        have e := strsD_eq qs
        subst e
        have e2 := RepL.strs_inv rr
        subst e2
        by_cases c : (ys.map (·.length)).sum + ys.length * a.length ≤ 1000000
        · rw [if_pos c] at h
          exact ⟨a, p, ys, rfl, rfl, hs, by omega, h.here I _ rfl⟩
        · rw [if_neg c] at h
          exact h.elim
theorem mt_joinD (hK : C.K = X.K) : MtR X "str.join" (rJoinD C.K) := by
  rw [hK]
  exact mt_join
abbrev rSplitD : V → List V → Hp → VK → Prop := fun x xs H Q => ∃ a b, x = .str a ∧ xs = [.str b] ∧ (b.length == 0) = false ∧ a.length + 2 ≤ sizeLine ∧ rNewStrs (Txt.split a b) H Q
def mSplit : Mem → D → List D → Res D := fun m x xs => match x, xs with
  | .str a, [.str b] => if (b.length == 0) = false ∧ a.length + 2 ≤ 1000000 then .ok (.lst ((Txt.split a b).map D.str)) m else .bad
  | _, _ => .bad
theorem split_snd : SndM C rSplitD mSplit := by
  intro m G ph H x v xs vs Q I rx rxs h
  unfold mSplit at h
  split at h
  rotate_left
  · exact h.elim
  · rename_i a b
    have ev : v = .str a := rx
    subst ev
    obtain ⟨w, rfl, r1⟩ := repl1 rxs
    have ew : w = .str b := r1
    subst ew
    by_cases c : (b.length == 0) = false ∧ a.length + 2 ≤ 1000000
    · rw [if_pos c] at h
      refine ⟨a, b, rfl, rfl, c.1, small_line c.2, fun p hp => ?_⟩
      obtain ⟨I2, X2⟩ := I.frozen hp (.lst ((Txt.split a b).map V.str))
      exact h _ _ _ I2 X2 _ ⟨p, _, rfl, upd_same, RepL.strs⟩
    · rw [if_neg c] at h
      exact h.elim
def bIntS : Mem → List D → Res D := fun m xs => match xs with
  | [.str a] => match PySem.intText? a with
    | some n => if a.length ≤ 640 then .ok (.int n) m else .bad
    | none => .bad
  | _ => .bad
theorem call_intS : CallD X C (.type "int") bIntS := by
  refine ⟨_, call_int_str, ?_⟩
  intro m G ph H xs vs Q I r h
  unfold bIntS at h
  split at h
  · rename_i a
    obtain ⟨v, rfl, r1⟩ := repl1 r
    have e1 : v = .str a := r1
    subst e1
    cases q : PySem.intText? a with
    | none =>
      rw [q] at h
      exact h.elim
    | some n =>
      rw [q] at h
      by_cases c : a.length ≤ 640
      · simp only [if_pos c] at h
        exact ⟨a, n, rfl, q, c, h.here I _ rfl⟩
      · simp only [if_neg c] at h
        exact h.elim
  · exact h.elim
end
/-! ## a list of lists compared -/
def viewR (m : Mem) : D → Option D
  | .ref n => match m[n]? with
    | some (.lst ds) => (viewsL m ds).map D.lst
    | _ => none
  | d => view m d
theorem dp_viewR {C : Cn} {m : Mem} {G H : Hp} {ph : List Addr} (I : Mok C m G ph H) {x a : D} {v : V} (h : viewR m x = some a) (p : plain a = true) (r : RepV C.K G ph x v) : Dp C.K H v (toP a) := by
  cases x with
  | ref n =>
    have h' : (match m[n]? with
      | some (.lst ds) => (viewsL m ds).map D.lst
      | _ => none) = some a := h
    cases z : m[n]? with
    | none =>
      rw [z] at h'
      cases h'
    | some mo =>
      rw [z] at h'
      cases mo with
      | lst ds =>
        obtain ⟨bs, hb, rfl⟩ := Option.map_eq_some_iff.mp h'
        have q : dList m (.ref n) = some ds := by simp [dList, z]
        obtain ⟨b, vs, rfl, w, rr⟩ := dList_rep I q r
        exact .lst (SqL.of w) (dp_viewsL I hb p rr)
      | _ => cases h'
  | lst xs => exact dp_view I (x := .lst xs) h p r
  | tup xs => exact dp_view I (x := .tup xs) h p r
  | non => exact dp_view I (x := .non) h p r
  | bl b => exact dp_view I (x := .bl b) h p r
  | int b => exact dp_view I (x := .int b) h p r
  | str b => exact dp_view I (x := .str b) h p r
  | scr b => exact dp_view I (x := .scr b) h p r
  | val b => exact dp_view I (x := .val b) h p r
def oEqR : Op2 := fun m x y => match viewR m x, viewR m y with
  | some a, some b => if okP a = true ∧ okP b = true then .ok (.bl (PyData.eqv (toP a) (toP b))) m else .bad
  | _, _ => .bad
theorem opd_eqR {X : Cx} {C : Cn} (hu : X.A.units + 64 < cLine) (hK : C.K = X.K := by rfl) : OpD X C (compareOp .Eq) oEqR := by
  refine ⟨_, op_eqD hu, ?_⟩
  intro m G ph H x y v u Q I rx ry h
  cases hx : viewR m x with
  | none =>
    simp only [oEqR, hx] at h
    exact h.elim
  | some a =>
    cases hy : viewR m y with
    | none =>
      simp only [oEqR, hx, hy] at h
      exact h.elim
    | some b =>
      by_cases c : okP a = true ∧ okP b = true
      · simp only [oEqR, hx, hy, if_pos c] at h
        obtain ⟨c1, c2⟩ := c
        unfold okP at c1 c2
        rw [Bool.and_eq_true] at c1 c2
        rw [← hK]
        exact ⟨toP a, toP b, dp_viewR I hx c1.1 rx, dp_viewR I hy c2.1 ry, c1.2, c2.2, h.here I _ rfl⟩
      · simp only [oEqR, hx, hy, if_neg c] at h
        exact h.elim
/-! ## C() -/
theorem make_w0 {C : Cn} {c : Str} {n : Nat} {den : List D → Mem → Res D} {σ : L2.St} {H : Hp} {Q : VK} (h : tE C (eMake c n den aNil) σ H Q) : tMake (C.cl c) (spD C n den) [] C.E tNil σ H Q := by
  obtain ⟨e, m, G, ph, Eo, I, h⟩ := h
  have h1 : Post C G ph H (fun d _ G' ph' H' => ∀ v, RepV C.K G' ph' d v → Q v H') (if ([] : List D).length + 1 = n then (den [.ref m.length] (m ++ [.ins c []])).bind fun d m2 => (match d with
    | .non => .ok (.ref m.length) m2
    | _ => .bad) else .bad) := h
  intro x dx hx hdx ne
  by_cases hl : ([] : List D).length + 1 = n
  · rw [if_pos hl] at h1
    have hs : Same H (upd (upd H dx (.own x)) x (.ins (C.cl c) dx [])) := fun b o e => by
      rw [upd_ne (ne_of_none e hx), upd_ne (ne_of_none e hdx)]
      exact e
    obtain ⟨I2, X2⟩ := I.cellNew hx hs (by rw [upd_same]; intro z; cases z) (mo := .ins c []) ⟨dx, [], upd_same, rfl, rfl⟩
    refine ⟨rfl, [.ref m.length], m ++ [.ins c []], G, ph ++ [x], hl, I2, RepL.one ⟨x, rfl, ref_last ph x I.len⟩, ?_⟩
    refine (Post.shift X2 h1).bind.mono fun d m3 G3 ph3 H3 ⟨I3, X3, h3⟩ v r => ?_
    cases d with
    | non =>
      have e0 : v = .non := r
      exact ⟨e0, h3.here I3 _ ⟨x, rfl, X3.p _ _ (ref_last ph x I.len)⟩⟩
    | _ => exact h3.elim
  · rw [if_neg hl] at h1
    exact h1.elim
theorem de_make0 {X : Cx} {C : Cn} {c : Str} {n : Nat} {den : List D → Mem → Res D} {e : Expr} (t : PE X e (tMake (C.cl c) (spD C n den) [] C.E tNil)) : DE X C e (eMake c n den aNil) := pe_weak t fun σ H Q q => make_w0 q
end DL

namespace DL
open PySem PySem.Spec PyProof.Rows L2
noncomputable section
/-! is_number -/
-- slots: 0 part, 1 low, 2 high
def s_is_number : SDen :=
    sRet (eAnd (eCall bIsi (aCons (eVar 0) (aCons (eC (.val (.ty "int"))) aNil))) (eAnd (eNot (eCall bIsi (aCons (eVar 0) (aCons (eC (.val (.ty "bool"))) aNil)))) (eChain oLe oLe (eVar 1) (eVar 0) (eVar 2))))
def d_is_number : List D → Mem → Res D := bodyD 3 s_is_number
/-! is_one_of -/
-- slots: 0 part, 1 words
def s_is_one_of : SDen :=
    sRet (eAnd (eCall bIsi (aCons (eVar 0) (aCons (eC (.val (.ty "str"))) aNil))) (eBin (oIn false) (eVar 0) (eVar 1)))
def d_is_one_of : List D → Mem → Res D := bodyD 2 s_is_one_of
/-! is_name -/
-- slots: 0 part, 1 sign
def s_is_name : SDen :=
    sRet (eAnd (eCall bIsi (aCons (eVar 0) (aCons (eC (.val (.ty "str"))) aNil))) (eAnd (eChain oLe oLe (eC (.int 1)) (eCall bLen (aCons (eVar 0) (aNil))) (eC (.int 4))) (eBin oEq (eComp (iStrD (eVar 0)) (gV 1) (tVal (eBin (oIn true) (eVar 1) (eC (.str "abcdefghijklmnopqrstuvwxyz")))) (eVar 1) [1]) (eLst (aNil)))))
def d_is_name : List D → Mem → Res D := bodyD 2 s_is_name
/-! is_row -/
-- slots: 0 part, 1 most
def s_is_row : SDen :=
    sRet (eAnd (eCall bIsi (aCons (eVar 0) (aCons (eC (.val (.ty "tuple"))) aNil))) (eBin oLe (eCall bLen (aCons (eVar 0) (aNil))) (eVar 1)))
def d_is_row : List D → Mem → Res D := bodyD 2 s_is_row
/-! is_cond -/
-- slots: 0 cond, 1 step
def s_is_cond : SDen :=
    sSeq (sIf (tOrD (tNotD (tVal (eCall bIsi (aCons (eVar 0) (aCons (eC (.val (.ty "tuple"))) aNil))))) (tVal (eBin oNe (eCall bLen (aCons (eVar 0) (aNil))) (eC (.int 3))))) (sRet (eC (.bl false))) (sNext)) (
    sSeq (sIf (tOrD (tNotD (tVal (eDef 3 d_is_number (aCons (eBin oIx (eVar 0) (eC (.int 0))) (aCons (eC (.int 0)) (aCons (eC (.int 9)) (aNil))))))) (tNotD (tVal (eDef 2 d_is_one_of (aCons (eBin oIx (eVar 0) (eC (.int 1))) (aCons (eC (.tup [.str "gt", .str "ge", .str "eq", .str "ne", .str "le", .str "lt"])) (aNil))))))) (sRet (eC (.bl false))) (sNext)) (
    sRet (eOr (eBin oIs (eBin oIx (eVar 0) (eC (.int 2))) (eC .non)) (eDef 3 d_is_number (aCons (eBin oIx (eVar 0) (eC (.int 2))) (aCons (eC (.int 0)) (aCons (eBin oSub (eVar 1) (eC (.int 1))) (aNil))))))))
def d_is_cond : List D → Mem → Res D := bodyD 2 s_is_cond
/-! is_card -/
-- slots: 0 card, 1 ahead
def s_is_card : SDen :=
    sSeq (sIf (tOrD (tNotD (tVal (eCall bIsi (aCons (eVar 0) (aCons (eC (.val (.ty "tuple"))) aNil))))) (tOrD (tVal (eBin oNe (eCall bLen (aCons (eVar 0) (aNil))) (eC (.int 4)))) (tOrD (tNotD (tVal (eDef 1 d_is_name (aCons (eBin oIx (eVar 0) (eC (.int 0))) (aNil))))) (tVal (eBin (oIn false) (eBin oIx (eVar 0) (eC (.int 0))) (eVar 1)))))) (sRet (eC (.bl false))) (sNext)) (
    sRet (eAnd (eDef 2 d_is_one_of (aCons (eBin oIx (eVar 0) (eC (.int 1))) (aCons (eC (.tup [.str "old", .str "shr", .str "new", .str "mod"])) (aNil)))) (eAnd (eDef 2 d_is_one_of (aCons (eBin oIx (eVar 0) (eC (.int 2))) (aCons (eC (.tup [.str "keep", .str "drop", .str "pass"])) (aNil)))) (eDef 2 d_is_one_of (aCons (eBin oIx (eVar 0) (eC (.int 3))) (aCons (eC (.tup [.str "keep", .str "drop"])) (aNil)))))))
def d_is_card : List D → Mem → Res D := bodyD 2 s_is_card
/-! need_step_form -/
-- slots: 0 number, 1 step, 2 place, 3 cond, 4 ahead, 5 card
def s_need_step_form : SDen :=
    sSeq (sIf (tOrD (tNotD (tVal (eCall bIsi (aCons (eVar 1) (aCons (eC (.val (.ty "tuple"))) aNil))))) (tOrD (tVal (eBin oNe (eCall bLen (aCons (eVar 1) (aNil))) (eC (.int 3)))) (tNotD (tVal (eDef 2 d_is_one_of (aCons (eBin oIx (eVar 1) (eC (.int 0))) (aCons (eC (.tup [.str "plain", .str "even", .str "only"])) (aNil)))))))) (sBad) (sNext)) (
    sSeq (sIf (tOrD (tNotD (tVal (eDef 2 d_is_row (aCons (eBin oIx (eVar 1) (eC (.int 1))) (aCons (eC (.int 3)) (aNil)))))) (tNotD (tVal (eDef 2 d_is_row (aCons (eBin oIx (eVar 1) (eC (.int 2))) (aCons (eC (.int 4)) (aNil))))))) (sBad) (sNext)) (
    sSeq (sFor (iEnumS (aCons (eBin oIx (eVar 1) (eC (.int 1))) (aNil))) (gT [2, 3]) (sIf (tNotD (tVal (eDef 2 d_is_cond (aCons (eVar 3) (aCons (eVar 0) (aNil)))))) (sBad) (sNext))) (
    sSeq (sAsg (gV 4) (eLstN (aNil))) (
    sFor (iEnumS (aCons (eBin oIx (eVar 1) (eC (.int 2))) (aNil))) (gT [2, 5]) (sSeq (sIf (tNotD (tVal (eDef 2 d_is_card (aCons (eVar 5) (aCons (eVar 4) (aNil)))))) (sBad) (sNext)) (
    sDrop (eMet "list" mApp (eVar 4) (aCons (eBin oIx (eVar 5) (eC (.int 0))) (aNil)))))))))
def d_need_step_form : List D → Mem → Res D := bodyD 6 s_need_step_form
/-! need_deck -/
-- slots: 0 deck, 1 number, 2 step
def s_need_deck : SDen :=
    sSeq (sIf (tOrD (tNotD (tVal (eDef 2 d_is_row (aCons (eVar 0) (aCons (eC (.int 6)) (aNil)))))) (tVal (eBin oEq (eVar 0) (eTup (aNil))))) (sBad) (sNext)) (
    sFor (iEnumS (aCons (eVar 0) (aNil))) (gT [1, 2]) (sDrop (eDef 2 d_need_step_form (aCons (eVar 1) (aCons (eVar 2) (aNil))))))
def d_need_deck : List D → Mem → Res D := bodyD 3 s_need_deck
/-! written -/
-- slots: 0 deck, 1 found, 2 flag, 3 conds, 4 cards, 5 number, 6 word, 7 step, 8 card
abbrev lb_written_2 : SDen :=
    sDrop (eMet "list" mApp (eVar 1) (aCons (eMet "str" mJoin (eC (.str " ")) (aCons (eLst (aCons (eC (.str "cond")) (aCons (eCall bStr (aCons (eVar 5) (aNil))) (aCons (eVar 6) (aCons (eIf (tVal (eBin oIs (eVar 7) (eC .non))) (eC (.str "-")) (eCall bStr (aCons (eVar 7) (aNil)))) (aNil)))))) (aNil))) (aNil)))
abbrev lb_written_1 : SDen :=
    sSeq (sDrop (eMet "list" mApp (eVar 1) (aCons (eBin oAdd (eBin oAdd (eC (.str "step")) (eC (.str " "))) (eVar 2)) (aNil)))) (
    sSeq (sFor (iSeqD (eVar 3)) (gT [5, 6, 7]) (lb_written_2)) (
    sDrop (eMet "list" mExt (eVar 1) (aCons (eComp (iSeqD (eVar 4)) (gV 8) (tYesD) (eMet "str" mJoin (eC (.str " ")) (aCons (eBin oAdd (eTup (aCons (eC (.str "card")) (aNil))) (eVar 8)) (aNil))) [8]) (aNil)))))
def s_written : SDen :=
    sSeq (sDrop (eDef 1 d_need_deck (aCons (eVar 0) (aNil)))) (
    sSeq (sAsg (gV 1) (eLstN (aNil))) (
    sSeq (sFor (iSeqD (eVar 0)) (gT [2, 3, 4]) (lb_written_1)) (
    sRet (eMet "str" mJoin (eC (.str "\n")) (aCons (eVar 1) (aNil))))))
def d_written : List D → Mem → Res D := bodyD 9 s_written
/-! number_of -/
-- slots: 0 word
def s_number_of : SDen :=
    sRet (eIf (tAndD (tVal (eBin oEq (eCall bLen (aCons (eVar 0) (aNil))) (eC (.int 1)))) (tVal (eBin (oIn false) (eVar 0) (eC (.str "0123456789"))))) (eCall bIntS (aCons (eVar 0) (aNil))) (eC .non))
def d_number_of : List D → Mem → Res D := bodyD 1 s_number_of
/-! Reader_init -/
-- slots: 0 self
def s_Reader_init : SDen :=
    sFldD "Reader" "steps" (eVar 0) (eLstN (aNil))
def d_Reader_init : List D → Mem → Res D := bodyN 1 s_Reader_init
/-! Reader_reads -/
-- slots: 0 self, 1 words, 2 last, 3 number, 4 step
def s_Reader_reads : SDen :=
    sSeq (sIf (tVal (eBin oEq (eBin oIx (eVar 1) (eC (.int 0))) (eC (.str "step")))) (sSeq (sDrop (eMet "list" mApp (eFld "Reader" "steps" (eVar 0)) (aCons (eLstN (aCons (eBin oIx (eVar 1) (eNeg (eC (.int 1)))) (aCons (eTup (aNil)) (aCons (eTup (aNil)) (aNil))))) (aNil)))) (
    sRet (eBin oEq (eCall bLen (aCons (eVar 1) (aNil))) (eC (.int 2))))) (sNext)) (
    sSeq (sIf (tVal (eBin oEqR (eFld "Reader" "steps" (eVar 0)) (eLst (aNil)))) (sRet (eC (.bl false))) (sNext)) (
    sSeq (sAsg (gV 2) (eBin oIx (eFld "Reader" "steps" (eVar 0)) (eNeg (eC (.int 1))))) (
    sSeq (sIf (tAndD (tVal (eBin oEq (eBin oIx (eVar 1) (eC (.int 0))) (eC (.str "cond")))) (tAndD (tVal (eBin oEq (eCall bLen (aCons (eVar 1) (aNil))) (eC (.int 4)))) (tVal (eBin oEq (eBin oIx (eVar 2) (eC (.int 2))) (eTup (aNil)))))) (sSeq (sPar 3 4 (aCons (eDef 1 d_number_of (aCons (eBin oIx (eVar 1) (eC (.int 1))) (aNil))) (aCons (eDef 1 d_number_of (aCons (eBin oIx (eVar 1) (eC (.int 3))) (aNil))) (aNil)))) (
    sSeq (sSetL (eVar 2) (eC (.int 1)) (eBin oAdd (eBin oIx (eVar 2) (eC (.int 1))) (eTup (aCons (eTup (aCons (eVar 3) (aCons (eBin oIx (eVar 1) (eC (.int 2))) (aCons (eVar 4) (aNil))))) (aNil))))) (
    sRet (eAnd (eBin oIsNot (eVar 3) (eC .non)) (eOr (eBin oIsNot (eVar 4) (eC .non)) (eBin oEq (eBin oIx (eVar 1) (eC (.int 3))) (eC (.str "-")))))))) (sNext)) (
    sSeq (sIf (tAndD (tVal (eBin oEq (eBin oIx (eVar 1) (eC (.int 0))) (eC (.str "card")))) (tVal (eBin oEq (eCall bLen (aCons (eVar 1) (aNil))) (eC (.int 5))))) (sSeq (sSetL (eVar 2) (eC (.int 2)) (eBin oAdd (eBin oIx (eVar 2) (eC (.int 2))) (eTup (aCons (eCall bTuple (aCons (eSlice (eVar 1) (pSome (eC (.int 1))) (pNone)) (aNil))) (aNil))))) (
    sRet (eC (.bl true)))) (sNext)) (
    sRet (eC (.bl false)))))))
def d_Reader_reads : List D → Mem → Res D := bodyN 5 s_Reader_reads
/-! read -/
-- slots: 0 text, 1 reader, 2 number, 3 line, 4 deck, 5 step
abbrev lb_read_1 : SDen :=
    sIf (tNotD (tVal (eOwn "Reader" "reads" 2 d_Reader_reads (eVar 1) (aCons (eMet "str" mSplit (eVar 3) (aCons (eC (.str " ")) (aNil))) (aNil))))) (sBad) (sNext)
def s_read : SDen :=
    sSeq (sAsg (gV 1) (eMake "Reader" 1 d_Reader_init (aNil))) (
    sSeq (sFor (iEnumS (aCons (eMet "str" mSplit (eVar 0) (aCons (eC (.str "\n")) (aNil))) (aNil))) (gT [2, 3]) (lb_read_1)) (
    sSeq (sAsg (gV 4) (eCall bTuple (aCons (eComp (iSeqD (eFld "Reader" "steps" (eVar 1))) (gV 5) (tYesD) (eCall bTuple (aCons (eVar 5) (aNil))) [5]) (aNil)))) (
    sSeq (sDrop (eDef 1 d_need_deck (aCons (eVar 4) (aNil)))) (
    sRet (eVar 4)))))
def d_read : List D → Mem → Res D := bodyD 6 s_read
/-! law_mix -/
-- slots: 0 _law_script, 1 _law_seed, 2 _law_mixed, 3 _law_cell
def s_law_mix : SDen :=
    sSeq (sAsg (gV 2) (eVar 1)) (
    sSeq (sFor (iSeqD (eVar 0)) (gV 3) (sAsg (gV 2) (eBin oMod (eBin oAdd (eBin oAdd (eBin oMul (eVar 2) (eC (.int 48271))) (eBin oMod (eVar 3) (eC (.int 2147483629)))) (eC (.int 1))) (eC (.int 2147483647))))) (
    sRet (eLstN (aCons (eVar 2) (aCons (eCall bListN (aCons (eVar 0) (aNil))) (aCons (eC (.int 0)) (aNil)))))))
def d_law_mix : List D → Mem → Res D := bodyN 4 s_law_mix
/-! law_next -/
-- slots: 0 _law_h, 1 _law_many, 2 _law_at, 3 _law_cell
def s_law_next : SDen :=
    sSeq (sAsg (gV 2) (eBin oMod (eBin oIx (eVar 0) (eC (.int 2))) (eCall bMax (aCons (eC (.int 1)) (aCons (eCall bLen (aCons (eBin oIx (eVar 0) (eC (.int 1))) (aNil))) (aNil)))))) (
    sSeq (sAsg (gV 3) (eIf (tVal (eBin oNe (eBin oIx (eVar 0) (eC (.int 1))) (eLst (aNil)))) (eBin oIx (eBin oIx (eVar 0) (eC (.int 1))) (eVar 2)) (eC (.int 0)))) (
    sSeq (sIf (tVal (eBin oGe (eVar 3) (eBin oPow (eC (.int 10)) (eC (.int 18))))) (sSeq (sSetL (eBin oIx (eVar 0) (eC (.int 1))) (eVar 2) (eBin oDiv (eVar 3) (eVar 1))) (
    sRet (eBin oMod (eVar 3) (eVar 1)))) (sNext)) (
    sSeq (sSetL (eVar 0) (eC (.int 0)) (eBin oMod (eBin oAdd (eBin oAdd (eBin oMul (eBin oIx (eVar 0) (eC (.int 0))) (eC (.int 48271))) (eBin oMul (eVar 3) (eC (.int 69621)))) (eC (.int 11))) (eC (.int 2147483647)))) (
    sSeq (sSetL (eVar 0) (eC (.int 2)) (eBin oAdd (eBin oIx (eVar 0) (eC (.int 2))) (eC (.int 1)))) (
    sRet (eBin oMod (eBin oDiv (eBin oIx (eVar 0) (eC (.int 0))) (eC (.int 7))) (eVar 1)))))))
def d_law_next : List D → Mem → Res D := bodyD 4 s_law_next
/-! law_card -/
-- slots: 0 _law_h, 1 _law_taken, 2 _law_names, 3 _law_begin, 4 _law_good, 5 _law_name
def s_law_card : SDen :=
    sSeq (sAsg (gV 2) (eComp (iSeqD (eLst (aCons (eC (.str "a")) (aCons (eC (.str "b")) (aCons (eC (.str "cc")) (aCons (eC (.str "d")) (aCons (eC (.str "efgh")) (aCons (eC (.str "gg")) (aCons (eC (.str "k")) (aCons (eC (.str "z")) (aNil))))))))))) (gV 5) (tVal (eBin (oIn true) (eVar 5) (eVar 1))) (eVar 5) [5])) (
    sSeq (sAsg (gV 2) (eIf (tVal (eBin oGt (eDef 2 d_law_next (aCons (eVar 0) (aCons (eC (.int 3)) (aNil)))) (eC (.int 0)))) (eSlice (eVar 2) (pNone) (pSome (eC (.int 5)))) (eVar 2))) (
    sSeq (sAsg (gV 3) (eBin oIx (eLst (aCons (eC (.str "old")) (aCons (eC (.str "shr")) (aCons (eC (.str "new")) (aCons (eC (.str "mod")) (aNil)))))) (eDef 2 d_law_next (aCons (eVar 0) (aCons (eC (.int 4)) (aNil)))))) (
    sSeq (sAsg (gV 4) (eBin oIx (eLst (aCons (eC (.str "keep")) (aCons (eC (.str "drop")) (aCons (eC (.str "pass")) (aCons (eC (.str "keep")) (aNil)))))) (eDef 2 d_law_next (aCons (eVar 0) (aCons (eC (.int 4)) (aNil)))))) (
    sRet (eTup (aCons (eBin oIx (eVar 2) (eDef 2 d_law_next (aCons (eVar 0) (aCons (eCall bLen (aCons (eVar 2) (aNil))) (aNil))))) (aCons (eVar 3) (aCons (eVar 4) (aCons (eBin oIx (eLst (aCons (eC (.str "keep")) (aCons (eC (.str "drop")) (aNil)))) (eDef 2 d_law_next (aCons (eVar 0) (aCons (eC (.int 2)) (aNil))))) (aNil))))))))))
def d_law_card : List D → Mem → Res D := bodyD 6 s_law_card
/-! law_step -/
-- slots: 0 _law_h, 1 _law_number, 2 _law_conds, 3 _law_k, 4 _law_step_here, 5 _law_cards, 6 _law_card_here
def s_law_step : SDen :=
    sSeq (sAsg (gV 2) (eLstN (aNil))) (
    sSeq (sFor (iRangeD (aCons (eBin oIx (eLst (aCons (eC (.int 0)) (aCons (eC (.int 1)) (aCons (eDef 2 d_law_next (aCons (eVar 0) (aCons (eC (.int 4)) (aNil)))) (aNil))))) (eDef 2 d_law_next (aCons (eVar 0) (aCons (eC (.int 3)) (aNil))))) (aNil))) (gV 3) (sSeq (sAsg (gV 4) (eIf (tOrD (tVal (eBin oEq (eVar 1) (eC (.int 0)))) (tVal (eBin oEq (eDef 2 d_law_next (aCons (eVar 0) (aCons (eC (.int 4)) (aNil)))) (eC (.int 0))))) (eC .non) (eDef 2 d_law_next (aCons (eVar 0) (aCons (eVar 1) (aNil)))))) (
    sDrop (eMet "list" mApp (eVar 2) (aCons (eTup (aCons (eDef 2 d_law_next (aCons (eVar 0) (aCons (eC (.int 10)) (aNil)))) (aCons (eBin oIx (eLst (aCons (eC (.str "gt")) (aCons (eC (.str "ge")) (aCons (eC (.str "eq")) (aCons (eC (.str "ne")) (aCons (eC (.str "le")) (aCons (eC (.str "lt")) (aNil)))))))) (eDef 2 d_law_next (aCons (eVar 0) (aCons (eC (.int 6)) (aNil))))) (aCons (eVar 4) (aNil))))) (aNil)))))) (
    sSeq (sAsg (gV 5) (eLstN (aNil))) (
    sSeq (sFor (iRangeD (aCons (eDef 2 d_law_next (aCons (eVar 0) (aCons (eBin oIx (eLst (aCons (eC (.int 3)) (aCons (eC (.int 5)) (aNil)))) (eDef 2 d_law_next (aCons (eVar 0) (aCons (eC (.int 2)) (aNil))))) (aNil)))) (aNil))) (gV 3) (sDrop (eMet "list" mApp (eVar 5) (aCons (eDef 2 d_law_card (aCons (eVar 0) (aCons (eComp (iSeqD (eVar 5)) (gV 6) (tYesD) (eBin oIx (eVar 6) (eC (.int 0))) [6]) (aNil)))) (aNil))))) (
    sRet (eTup (aCons (eBin oIx (eLst (aCons (eC (.str "plain")) (aCons (eC (.str "plain")) (aCons (eC (.str "even")) (aCons (eC (.str "only")) (aNil)))))) (eDef 2 d_law_next (aCons (eVar 0) (aCons (eC (.int 4)) (aNil))))) (aCons (eCall bTuple (aCons (eVar 2) (aNil))) (aCons (eCall bTuple (aCons (eVar 5) (aNil))) (aNil)))))))))
def d_law_step : List D → Mem → Res D := bodyD 7 s_law_step
/-! law_deck -/
-- slots: 0 _law_h, 1 _law_number
def s_law_deck : SDen :=
    sRet (eCall bTuple (aCons (eComp (iRangeD (aCons (eBin oAdd (eC (.int 1)) (eDef 2 d_law_next (aCons (eVar 0) (aCons (eC (.int 6)) (aNil))))) (aNil))) (gV 1) (tYesD) (eDef 2 d_law_step (aCons (eVar 0) (aCons (eVar 1) (aNil)))) [1]) (aNil)))
def d_law_deck : List D → Mem → Res D := bodyD 2 s_law_deck
/-! law_alike -/
-- slots: 0 _law_found, 1 _law_due, 2 _law_k
def s_law_alike (rec : List D → Mem → Res D) : SDen :=
    sSeq (sIf (tVal (eIsiT (eVar 1) ["tuple", "list"])) (sSeq (sIf (tOrD (tNotD (tVal (eIsiT (eVar 0) ["tuple", "list"]))) (tVal (eBin oNe (eCall bIsi (aCons (eVar 0) (aCons (eC (.val (.ty "list"))) aNil))) (eCall bIsi (aCons (eVar 1) (aCons (eC (.val (.ty "list"))) aNil)))))) (sRet (eC (.bl false))) (sNext)) (
    sSeq (sIf (tVal (eBin oNe (eCall bLen (aCons (eVar 0) (aNil))) (eCall bLen (aCons (eVar 1) (aNil))))) (sRet (eC (.bl false))) (sNext)) (
    sRet (eBin oEq (eComp (iRangeD (aCons (eCall bLen (aCons (eVar 1) (aNil))) (aNil))) (gV 2) (tNotD (tVal (eDef 2 rec (aCons (eBin oIx (eVar 0) (eVar 2)) (aCons (eBin oIx (eVar 1) (eVar 2)) (aNil)))))) (eVar 2) [2]) (eLst (aNil)))))) (sNext)) (
    sSeq (sIf (tVal (eBin oIs (eVar 1) (eC .non))) (sRet (eBin oIs (eVar 0) (eC .non))) (sNext)) (
    sSeq (sIf (tVal (eCall bIsi (aCons (eVar 1) (aCons (eC (.val (.ty "str"))) aNil)))) (sRet (eAnd (eCall bIsi (aCons (eVar 0) (aCons (eC (.val (.ty "str"))) aNil))) (eBin oEq (eVar 0) (eVar 1)))) (sNext)) (
    sSeq (sIf (tOrD (tVal (eCall bIsi (aCons (eVar 1) (aCons (eC (.val (.ty "bool"))) aNil)))) (tVal (eCall bIsi (aCons (eVar 0) (aCons (eC (.val (.ty "bool"))) aNil))))) (sRet (eAnd (eCall bIsi (aCons (eVar 1) (aCons (eC (.val (.ty "bool"))) aNil))) (eAnd (eCall bIsi (aCons (eVar 0) (aCons (eC (.val (.ty "bool"))) aNil))) (eBin oEq (eVar 0) (eVar 1))))) (sNext)) (
    sRet (eAnd (eCall bIsi (aCons (eVar 0) (aCons (eC (.val (.ty "int"))) aNil))) (eBin oEq (eVar 0) (eVar 1)))))))
def d_law_alike : Nat → List D → Mem → Res D
  | 0 => fun _ _ => .bad
  | n + 1 => bodyD 3 (s_law_alike (d_law_alike n))
/-! law -/
-- slots: 0 _law_script, 1 _law_h, 2 _law_turn, 3 _law_deck_here, 4 _law_rows, 5 _law_flag, 6 _law_conds, 7 _law_cards, 8 _law_number, 9 _law_word, 10 _law_step_here, 11 _law_card_here, 12 _law_text
abbrev lb_law_3 : SDen :=
    sDrop (eMet "list" mApp (eVar 4) (aCons (eBin oAdd (eBin oAdd (eBin oAdd (eBin oAdd (eBin oAdd (eC (.str "cond ")) (eCall bStr (aCons (eVar 8) (aNil)))) (eC (.str " "))) (eVar 9)) (eC (.str " "))) (eIf (tVal (eBin oIs (eVar 10) (eC .non))) (eC (.str "-")) (eCall bStr (aCons (eVar 10) (aNil))))) (aNil)))
abbrev lb_law_4 : SDen :=
    sDrop (eMet "list" mApp (eVar 4) (aCons (eBin oAdd (eC (.str "card ")) (eMet "str" mJoin (eC (.str " ")) (aCons (eVar 11) (aNil)))) (aNil)))
abbrev lb_law_2 : SDen :=
    sSeq (sDrop (eMet "list" mApp (eVar 4) (aCons (eBin oAdd (eC (.str "step ")) (eVar 5)) (aNil)))) (
    sSeq (sFor (iSeqD (eVar 6)) (gT [8, 9, 10]) (lb_law_3)) (
    sFor (iSeqD (eVar 7)) (gV 11) (lb_law_4)))
abbrev lb_law_1 : SDen :=
    sSeq (sPar 3 4 (aCons (eDef 1 d_law_deck (aCons (eVar 1) (aNil))) (aCons (eLstN (aNil)) (aNil)))) (
    sSeq (sFor (iSeqD (eVar 3)) (gT [5, 6, 7]) (lb_law_2)) (
    sSeq (sAsg (gV 12) (eMet "str" mJoin (eC (.str "\n")) (aCons (eVar 4) (aNil)))) (
    sIf (tOrD (tNotD (tVal (eDef 2 (d_law_alike 8) (aCons (eDef 1 d_written (aCons (eVar 3) (aNil))) (aCons (eVar 12) (aNil)))))) (tOrD (tNotD (tVal (eDef 2 (d_law_alike 8) (aCons (eDef 1 d_read (aCons (eVar 12) (aNil))) (aCons (eVar 3) (aNil)))))) (tVal (eBin oNe (eDef 1 d_written (aCons (eDef 1 d_read (aCons (eVar 12) (aNil))) (aNil))) (eVar 12))))) (sRet (eC (.bl false))) (sNext))))
def s_law : SDen :=
    sSeq (sAsg (gV 1) (eDef 2 d_law_mix (aCons (eVar 0) (aCons (eC (.int 53)) (aNil))))) (
    sSeq (sFor (iRangeD (aCons (eC (.int 6)) (aNil))) (gV 2) (lb_law_1)) (
    sRet (eBin oEq (eDef 1 d_read (aCons (eC (.str "step even")) (aNil))) (eTup (aCons (eTup (aCons (eC (.str "even")) (aCons (eTup (aNil)) (aCons (eTup (aNil)) (aNil))))) (aNil))))))
def d_law : List D → Mem → Res D := bodyD 13 s_law
end
end DL

namespace DL
open PySem L2
section
variable (e : Sl) (m : Mem)
@[simp] theorem eVar_z (i : Nat) : eVar i e m = match e[i]? with
  | some (some d) => .ok d m
  | _ => .bad := rfl
@[simp] theorem eC_z (d : D) : eC d e m = .ok d m := rfl
@[simp] theorem aNil_z : aNil e m = .ok [] m := rfl
@[simp] theorem aCons_z (a : EDen) (r : ADen) : aCons a r e m = (a e m).bind fun x m1 => (r e m1).bind fun xs m2 => .ok (x :: xs) m2 := rfl
@[simp] theorem eTup_z (f : ADen) : eTup f e m = (f e m).bind fun ds m1 => if ds.length ≤ 1000 then .ok (.tup ds) m1 else .bad := rfl
@[simp] theorem eLst_z (f : ADen) : eLst f e m = (f e m).bind fun ds m1 => if ds.length ≤ 1000 then .ok (.lst ds) m1 else .bad := rfl
@[simp] theorem eLstN_z (f : ADen) : eLstN f e m = (f e m).bind fun ds m1 => if ds.length ≤ 1000 then .ok (.ref m1.length) (m1 ++ [.lst ds]) else .bad := rfl
@[simp] theorem eBin_z (f : Op2) (a b : EDen) : eBin f a b e m = (a e m).bind fun x m1 => (b e m1).bind fun y m2 => f m2 x y := rfl
@[simp] theorem tVal_z (f : EDen) : tVal f e m = (f e m).bind fun d m1 => match d with
  | .bl b => .ok b m1
  | _ => .bad := rfl
@[simp] theorem tAndD_z (a b : TDen) : tAndD a b e m = (a e m).bind fun x m1 => if x = true then b e m1 else .ok false m1 := rfl
@[simp] theorem tOrD_z (a b : TDen) : tOrD a b e m = (a e m).bind fun x m1 => if x = true then .ok true m1 else b e m1 := rfl
@[simp] theorem tNotD_z (a : TDen) : tNotD a e m = (a e m).bind fun x m1 => .ok (!x) m1 := rfl
@[simp] theorem eAnd_z (a b : EDen) : eAnd a b e m = (a e m).bind fun x m1 => match x with
  | .bl true => b e m1
  | .bl false => .ok (.bl false) m1
  | _ => .bad := rfl
@[simp] theorem eOr_z (a b : EDen) : eOr a b e m = (a e m).bind fun x m1 => match x with
  | .bl true => .ok (.bl true) m1
  | .bl false => b e m1
  | _ => .bad := rfl
@[simp] theorem eNot_z (a : EDen) : eNot a e m = (a e m).bind fun x m1 => match x with
  | .bl b => .ok (.bl (!b)) m1
  | _ => .bad := rfl
@[simp] theorem eIf_z (c : TDen) (a b : EDen) : eIf c a b e m = (c e m).bind fun x m1 => if x = true then a e m1 else b e m1 := rfl
@[simp] theorem eNeg_z (a : EDen) : eNeg a e m = (a e m).bind fun x m1 => match x with
  | .int i => .ok (.int (-i)) m1
  | _ => .bad := rfl
@[simp] theorem eChain_z (f g : Op2) (a b c : EDen) : eChain f g a b c e m = (a e m).bind fun x m1 => (b e m1).bind fun y m2 => (f m2 x y).bind fun z m3 => match z with
  | .bl true => (c e m3).bind fun w m4 => g m4 y w
  | .bl false => .ok (.bl false) m3
  | _ => .bad := rfl
@[simp] theorem eCall_z (g : Mem → List D → Res D) (f : ADen) : eCall g f e m = (f e m).bind fun xs m1 => g m1 xs := rfl
@[simp] theorem eDef_z (n : Nat) (f : List D → Mem → Res D) (a : ADen) : eDef n f a e m = (a e m).bind fun ds m1 => if ds.length = n then f ds m1 else .bad := rfl
@[simp] theorem eFld_z (c f : Str) (o : EDen) : eFld c f o e m = (o e m).bind fun x m1 => match x with
  | .ref n => match m1[n]? with
    | some (.ins c' fs) => if c' = c then (match lookF f fs with
      | some d => .ok d m1
      | none => .bad) else .bad
    | _ => .bad
  | _ => .bad := rfl
@[simp] theorem eDGet_z (fd fk : EDen) : eDGet fd fk e m = (fd e m).bind fun x m1 => (fk e m1).bind fun y m2 => match dDict m2 x, keyD y with
  | some (_, kvs), some k => match valD kvs k with
    | some d => .ok d m2
    | none => .bad
  | _, _ => .bad := rfl
@[simp] theorem eDIn_z (neg : Bool) (fk fd : EDen) : eDIn neg fk fd e m = (fk e m).bind fun y m1 => (fd e m1).bind fun x m2 => match dDict m2 x, keyD y with
  | some (_, kvs), some k => .ok (.bl (if neg then !(valD kvs k).isSome else (valD kvs k).isSome)) m2
  | _, _ => .bad := rfl
@[simp] theorem sSeq_z (f g : SDen) : sSeq f g e m = (f e m).bind fun fl m1 => match fl with
  | .nx e1 => g e1 m1
  | fl => .ok fl m1 := rfl
@[simp] theorem sNext_z : sNext e m = .ok (.nx e) m := rfl
@[simp] theorem sDrop_z (f : EDen) : sDrop f e m = (f e m).bind fun _ m1 => .ok (.nx e) m1 := rfl
@[simp] theorem sRet_z (f : EDen) : sRet f e m = (f e m).bind fun d m1 => .ok (.rt d) m1 := rfl
@[simp] theorem sRetN_z : sRetN e m = .ok (.rt .non) m := rfl
@[simp] theorem sAsg_z (g : GDen) (f : EDen) : sAsg g f e m = (f e m).bind fun d m1 => match g d e with
  | some e1 => .ok (.nx e1) m1
  | none => .bad := rfl
@[simp] theorem sIf_z (c : TDen) (f g : SDen) : sIf c f g e m = (c e m).bind fun b m1 => if b = true then f e m1 else g e m1 := rfl
@[simp] theorem sPar_z (i j : Nat) (f : ADen) : sPar i j f e m = (f e m).bind fun ds m1 => match ds with
  | [a, b] => .ok (.nx ((e.set i (some a)).set j (some b))) m1
  | _ => .bad := rfl
@[simp] theorem sFor_z (it : IDen) (tg : GDen) (body : SDen) : sFor it tg body e m = (it e m).bind fun p m1 => loopD p.gd tg body p.ds e m1 := rfl
@[simp] theorem iSeqD_z (f : EDen) : iSeqD f e m = (f e m).bind fun x m1 => match x with
  | .tup ds => .ok ⟨ds, free⟩ m1
  | .scr xs => .ok ⟨xs.map D.int, free⟩ m1
  | x => match dList m1 x with
    | some ds => .ok ⟨ds, lGuard x ds⟩ m1
    | none => .bad := rfl
@[simp] theorem iEnumS_z (a : ADen) : iEnumS a e m = (a e m).bind fun xs m1 => match xs with
  | [.tup ds] => .ok ⟨enumD 0 ds, free⟩ m1
  | [x] => match dList m1 x with
    | some ds => .ok ⟨enumD 0 ds, lGuard x ds⟩ m1
    | none => .bad
  | _ => .bad := rfl
@[simp] theorem iRangeD_z (a : ADen) : iRangeD a e m = (a e m).bind fun xs m1 => match xs with
  | [.int j] => if -1000000 ≤ j ∧ j ≤ 1000000 then .ok ⟨rngD 0 j.toNat, free⟩ m1 else .bad
  | _ => .bad := rfl
@[simp] theorem iStrD_z (f : EDen) : iStrD f e m = (f e m).bind fun x m1 => match x with
  | .str z => .ok ⟨signsD z, free⟩ m1
  | _ => .bad := rfl
@[simp] theorem eComp_z (it : IDen) (tg : GDen) (t : TDen) (f : EDen) (own : List Nat) : eComp it tg t f own e m = (it e m).bind fun p m1 => (compD p.gd tg t f (wipeD e own) p.ds m1 []).bind fun ds m2 => .ok (.lst ds) m2 := rfl
@[simp] theorem eCompN_z (it : IDen) (tg : GDen) (t : TDen) (f : EDen) (own : List Nat) : eCompN it tg t f own e m = (it e m).bind fun p m1 => (compD p.gd tg t f (wipeD e own) p.ds m1 []).bind fun ds m2 => .ok (.ref m2.length) (m2 ++ [.lst ds]) := rfl
@[simp] theorem tYesD_z : tYesD e m = .ok true m := rfl
@[simp] theorem gV_z (i : Nat) (d : D) : gV i d e = some (e.set i (some d)) := rfl
@[simp] theorem gT_z (is ds) : gT is (.tup ds) e = gVs is ds e := rfl
@[simp] theorem gVs_nil : gVs [] [] e = some e := rfl
@[simp] theorem gVs_cons (i is d ds) : gVs (i :: is) (d :: ds) e = gVs is ds (e.set i (some d)) := rfl
@[simp] theorem free_z : free m = true := rfl
@[simp] theorem eMet_z (T : String) (g : Mem → D → List D → Res D) (fo : EDen) (fa : ADen) : eMet T g fo fa e m = (fo e m).bind fun x m1 => if tyM T m1 x = true then (fa e m1).bind fun xs m2 => g m2 x xs else .bad := rfl
@[simp] theorem eOwn_z (c name : Str) (n : Nat) (den : List D → Mem → Res D) (fo : EDen) (fa : ADen) : eOwn c name n den fo fa e m = (fo e m).bind fun x m1 => match x with
  | .ref k => match m1[k]? with
    | some (.ins c' fs) => if c' = c ∧ lookF name fs = none then (fa e m1).bind fun ds m2 => (if ds.length + 1 = n then den (.ref k :: ds) m2 else .bad) else .bad
    | _ => .bad
  | _ => .bad := rfl
end
/-! the kinds -/
section
variable (m : Mem) (i : Int) (b : Bool) (s : Str) (xs : List D)
theorem kit_tt (a : String) : kitB a a = some true := by unfold kitB; simp
theorem k_int_bool : kitB "int" "bool" = some false := by decide +kernel
theorem k_str_int : kitB "str" "int" = some false := by decide +kernel
theorem k_non_int : kitB "NoneType" "int" = some false := by decide +kernel
@[simp] theorem isi_int_int : bIsi m [.int i, .val (.ty "int")] = .ok (.bl true) m := by simp [bIsi, tyD, kit_tt]
@[simp] theorem isi_int_bool : bIsi m [.int i, .val (.ty "bool")] = .ok (.bl false) m := by simp [bIsi, tyD, k_int_bool]
@[simp] theorem isi_str_str : bIsi m [.str s, .val (.ty "str")] = .ok (.bl true) m := by simp [bIsi, tyD, kit_tt]
@[simp] theorem isi_tup_tup : bIsi m [.tup xs, .val (.ty "tuple")] = .ok (.bl true) m := by simp [bIsi, tyD, kit_tt]
end
@[simp] theorem oLe_int (m : Mem) (i j : Int) : oLe m (.int i) (.int j) = .ok (.bl (decide (i ≤ j))) m := rfl
@[simp] theorem oLt_int (m : Mem) (i j : Int) : oLt m (.int i) (.int j) = .ok (.bl (decide (i < j))) m := rfl
@[simp] theorem oGt_int (m : Mem) (i j : Int) : oGt m (.int i) (.int j) = .ok (.bl (decide (j < i))) m := rfl
@[simp] theorem oGe_int (m : Mem) (i j : Int) : oGe m (.int i) (.int j) = .ok (.bl (decide (j ≤ i))) m := rfl
@[simp] theorem oAdd_int (m : Mem) (i j : Int) : oAdd m (.int i) (.int j) = .ok (.int (i + j)) m := rfl
@[simp] theorem oSub_int (m : Mem) (i j : Int) : oSub m (.int i) (.int j) = .ok (.int (i - j)) m := rfl
@[simp] theorem fin_same (m : Mem) (d : D) : fin m d m = .ok d m := by simp [fin]
theorem bodyD_z (N : Nat) (f : SDen) (ds : List D) (m : Mem) : bodyD N f ds m = (f (ds.map some ++ List.replicate (N - ds.length) none) m).bind fun fl m1 => match fl with
  | .rt d => fin m d m1
  | .nx _ => fin m .non m1
  | _ => .bad := rfl
@[simp] theorem loop_nil (gd tg body e m) : loopD gd tg body [] e m = if gd m = true then .ok (.nx e) m else .bad := rfl
theorem loop_cons (gd tg body d ds e m) : loopD gd tg body (d :: ds) e m = if gd m = true then (match tg d e with
    | some e1 => (body e1 m).bind fun fl m2 => (match fl with
      | .nx e2 => loopD gd tg body ds e2 m2
      | .ct e2 => loopD gd tg body ds e2 m2
      | .bk e2 => .ok (.nx e2) m2
      | .rt d => .ok (.rt d) m2)
    | none => .bad) else .bad := rfl
end DL

namespace DL
open PySem L2
/-! data that can be compared: no bool, no cell within -/
mutual
def gdD : Nat → D → Bool
  | _, .non => true
  | _, .int _ => true
  | _, .str s => PyData.strOk s
  | 0, .tup _ => false
  | n + 1, .tup xs => gdL n xs
  | 0, .lst _ => false
  | n + 1, .lst xs => gdL n xs
  | _, .bl _ => false
  | _, .scr _ => false
  | _, .ref _ => false
  | _, .val _ => false
def gdL : Nat → List D → Bool
  | _, [] => true
  | n, d :: ds => gdD n d && gdL n ds
end
mutual
theorem gd_plain : ∀ (n : Nat) (d : D), gdD n d = true → plain d = true
  | _, .non, _ => rfl
  | _, .int _, _ => rfl
  | _, .str _, _ => rfl
  | 0, .tup _, h => by cases h
  | n + 1, .tup xs, h => gdL_plain n xs h
  | 0, .lst _, h => by cases h
  | n + 1, .lst xs, h => gdL_plain n xs h
  | _, .bl _, h => by cases h
  | _, .scr _, h => by cases h
  | _, .ref _, h => by cases h
  | _, .val _, h => by cases h
theorem gdL_plain : ∀ (n : Nat) (d : List D), gdL n d = true → plainL d = true
  | _, [], _ => rfl
  | n, d :: ds, h => by
    have h' : (gdD n d && gdL n ds) = true := h
    rw [Bool.and_eq_true] at h'
    show (plain d && plainL ds) = true
    rw [gd_plain n d h'.1, gdL_plain n ds h'.2]
    rfl
end
mutual
theorem gd_lay : ∀ (n : Nat) (d : D), gdD n d = true → PyData.canLay0 (toP d) = true ∧ (toP d).depth ≤ n
  | _, .non, _ => ⟨rfl, Nat.zero_le _⟩
  | _, .int _, _ => ⟨rfl, Nat.zero_le _⟩
  | _, .str _, h => ⟨by simpa [toP, PyData.canLay0, gdD] using h, Nat.zero_le _⟩
  | 0, .tup _, h => by cases h
  | n + 1, .tup xs, h => by
    have q := gdL_lay n xs h
    exact ⟨by simpa [toP, PyData.canLay0] using q.1, by simpa [toP, PyData.depth] using q.2⟩
  | 0, .lst _, h => by cases h
  | n + 1, .lst xs, h => by
    have q := gdL_lay n xs h
    exact ⟨by simpa [toP, PyData.canLay0] using q.1, by simpa [toP, PyData.depth] using q.2⟩
  | _, .bl _, h => by cases h
  | _, .scr _, h => by cases h
  | _, .ref _, h => by cases h
  | _, .val _, h => by cases h
theorem gdL_lay : ∀ (n : Nat) (d : List D), gdL n d = true → PyData.canLayAll0 (toPL d) = true ∧ PyData.depthAll (toPL d) ≤ n
  | _, [], _ => ⟨by simp [toPL, PyData.canLayAll0], by simp [toPL, PyData.depthAll]⟩
  | n, d :: ds, h => by
    have h' : (gdD n d && gdL n ds) = true := h
    rw [Bool.and_eq_true] at h'
    have q1 := gd_lay n d h'.1
    have q2 := gdL_lay n ds h'.2
    exact ⟨by simp [toPL, PyData.canLayAll0, q1.1, q2.1], by
      show max _ _ ≤ n
      exact Nat.max_le.mpr ⟨q1.2, q2.2⟩⟩
end
theorem gd_okP {n : Nat} {d : D} (h : gdD n d = true) (hn : n ≤ 64) : okP d = true := by
  have q := gd_lay n d h
  unfold okP SeqAt.shaped
  rw [gd_plain n d h, q.1]
  simp
  omega
mutual
theorem eqv_gd : ∀ (n k : Nat) (a b : D), gdD n a = true → gdD k b = true → PyData.eqv (toP a) (toP b) = decide (a = b)
  | _, _, .non, b, _, h => by cases b <;> first | (cases h; done) | simp [toP, PyData.eqv]
  | _, _, .int i, b, _, h => by cases b <;> first | (cases h; done) | (simp [toP, PyData.eqv]; done) | (simp [toP, PyData.eqv]; rw [Bool.eq_iff_iff]; simp)
  | _, _, .str i, b, _, h => by cases b <;> first | (cases h; done) | (simp [toP, PyData.eqv]; done) | (simp [toP, PyData.eqv]; rw [Bool.eq_iff_iff]; simp)
  | 0, _, .tup _, _, h, _ => by cases h
  | n + 1, k, .tup xs, b, h, h2 => by
    cases b with
    | tup ys =>
      match k, h2 with
      | k + 1, h2 =>
        have q := eqvL_gd n k xs ys h h2
        simp [toP, PyData.eqv, q]
    | _ => first | (cases h2; done) | simp [toP, PyData.eqv]
  | 0, _, .lst _, _, h, _ => by cases h
  | n + 1, k, .lst xs, b, h, h2 => by
    cases b with
    | lst ys =>
      match k, h2 with
      | k + 1, h2 =>
        have q := eqvL_gd n k xs ys h h2
        simp [toP, PyData.eqv, q]
    | _ => first | (cases h2; done) | simp [toP, PyData.eqv]
  | _, _, .bl _, _, h, _ => by cases h
  | _, _, .scr _, _, h, _ => by cases h
  | _, _, .ref _, _, h, _ => by cases h
  | _, _, .val _, _, h, _ => by cases h
theorem eqvL_gd : ∀ (n k : Nat) (a b : List D), gdL n a = true → gdL k b = true → PyData.eqvAll (toPL a) (toPL b) = decide (a = b)
  | _, _, [], [], _, _ => by simp [toPL, PyData.eqvAll]
  | _, _, [], _ :: _, _, _ => by simp [toPL, PyData.eqvAll]
  | _, _, _ :: _, [], _, _ => by simp [toPL, PyData.eqvAll]
  | n, k, a :: as, b :: bs, h, h2 => by
    have h' : (gdD n a && gdL n as) = true := h
    have h2' : (gdD k b && gdL k bs) = true := h2
    rw [Bool.and_eq_true] at h' h2'
    simp [toPL, PyData.eqvAll, eqv_gd n k a b h'.1 h2'.1, eqvL_gd n k as bs h'.2 h2'.2]
end
theorem gd_view {n : Nat} {d : D} {m : Mem} (h : gdD n d = true) : view m d = some d := by
  cases d <;> first | rfl | cases h
theorem oEq_gd {m : Mem} {a b : D} {n k : Nat} (h : gdD n a = true) (h2 : gdD k b = true) (hn : n ≤ 64) (hk : k ≤ 64) : oEq m a b = .ok (.bl (decide (a = b))) m := by
  unfold oEq
  rw [gd_view h, gd_view h2]
  simp only [gd_okP h hn, gd_okP h2 hk, eqv_gd n k a b h h2]
  rfl
theorem oNe_gd {m : Mem} {a b : D} {n k : Nat} (h : gdD n a = true) (h2 : gdD k b = true) (hn : n ≤ 64) (hk : k ≤ 64) : oNe m a b = .ok (.bl (!decide (a = b))) m := by
  unfold oNe
  rw [gd_view h, gd_view h2]
  simp only [gd_okP h hn, gd_okP h2 hk, eqv_gd n k a b h h2]
  rfl
@[simp] theorem oEq_int (m : Mem) (i j : Int) : oEq m (.int i) (.int j) = .ok (.bl (decide (i = j))) m := by
  rw [oEq_gd (n := 0) (k := 0) rfl rfl (by decide) (by decide)]
  simp
@[simp] theorem oNe_int (m : Mem) (i j : Int) : oNe m (.int i) (.int j) = .ok (.bl (!decide (i = j))) m := by
  rw [oNe_gd (n := 0) (k := 0) rfl rfl (by decide) (by decide)]
  simp
theorem oEq_str {m : Mem} {i j : Str} (h : PyData.strOk i = true) (k : PyData.strOk j = true) : oEq m (.str i) (.str j) = .ok (.bl (decide (i = j))) m := by
  rw [oEq_gd (n := 0) (k := 0) (by simpa [gdD] using h) (by simpa [gdD] using k) (by decide) (by decide)]
  simp
theorem oNe_str {m : Mem} {i j : Str} (h : PyData.strOk i = true) (k : PyData.strOk j = true) : oNe m (.str i) (.str j) = .ok (.bl (!decide (i = j))) m := by
  rw [oNe_gd (n := 0) (k := 0) (by simpa [gdD] using h) (by simpa [gdD] using k) (by decide) (by decide)]
  simp
@[simp] theorem gdL_nil (n : Nat) : gdL n [] = true := by unfold gdL; rfl
@[simp] theorem gdL_cons (n : Nat) (d : D) (ds : List D) : gdL n (d :: ds) = (gdD n d && gdL n ds) := by conv => lhs; unfold gdL
@[simp] theorem gd_non (n : Nat) : gdD n .non = true := by unfold gdD; rfl
@[simp] theorem gd_int (n : Nat) (i : Int) : gdD n (.int i) = true := by unfold gdD; rfl
@[simp] theorem gd_str (n : Nat) (s : Str) : gdD n (.str s) = PyData.strOk s := by unfold gdD; rfl
@[simp] theorem gd_tup (n : Nat) (xs : List D) : gdD (n + 1) (.tup xs) = gdL n xs := by conv => lhs; unfold gdD
@[simp] theorem gd_lst (n : Nat) (xs : List D) : gdD (n + 1) (.lst xs) = gdL n xs := by conv => lhs; unfold gdD
theorem gdL_all (n : Nat) : ∀ ds : List D, (∀ d ∈ ds, gdD n d = true) → gdL n ds = true
  | [], _ => gdL_nil n
  | d :: ds, h => by
    rw [gdL_cons, h d (by simp), gdL_all n ds fun d hd => h d (by simp [hd])]
    rfl
theorem gdL_of (n : Nat) : ∀ {ds : List D}, gdL n ds = true → ∀ d ∈ ds, gdD n d = true
  | [], _, d, h => by cases h
  | a :: ds, h, d, hd => by
    rw [gdL_cons, Bool.and_eq_true] at h
    rcases List.mem_cons.mp hd with rfl | hd
    · exact h.1
    · exact gdL_of n h.2 d hd
mutual
theorem gd_up {n k : Nat} (hk : n ≤ k) : ∀ d : D, gdD n d = true → gdD k d = true
  | .non, _ => gd_non k
  | .int _, _ => gd_int k _
  | .str _, h => by rw [gd_str] at h ⊢; exact h
  | .tup xs, h => by
    match n, k, hk, h with
    | 0, k, _, h => cases h
    | n + 1, k + 1, hk, h =>
      rw [gd_tup] at h ⊢
      exact gdL_up (Nat.le_of_succ_le_succ hk) xs h
  | .lst xs, h => by
    match n, k, hk, h with
    | 0, k, _, h => cases h
    | n + 1, k + 1, hk, h =>
      rw [gd_lst] at h ⊢
      exact gdL_up (Nat.le_of_succ_le_succ hk) xs h
  | .bl _, h => by simp [gdD] at h
  | .scr _, h => by simp [gdD] at h
  | .ref _, h => by simp [gdD] at h
  | .val _, h => by simp [gdD] at h
theorem gdL_up {n k : Nat} (hk : n ≤ k) : ∀ d : List D, gdL n d = true → gdL k d = true
  | [], _ => gdL_nil k
  | d :: ds, h => by
    rw [gdL_cons, Bool.and_eq_true] at h ⊢
    exact ⟨gd_up hk d h.1, gdL_up hk ds h.2⟩
end
/-! in -/
theorem inV_mem {x : D} {ds : List D} (hx : flatD x = true) (h : x ∈ ds) : inV (toV x) (ds.map toV) = true := by
  unfold inV
  rw [List.any_eq_true]
  refine ⟨toV x, List.mem_map_of_mem h, ?_⟩
  cases x <;> first | (cases hx; done) | (simp only [toV, eqV]; done) | (simp only [toV, eqV]; simp; done)
theorem inV_strs (s : Str) (ws : List Str) : inV (.str s) ((ws.map D.str).map toV) = decide (s ∈ ws) := by
  unfold inV
  induction ws with
  | nil => simp
  | cons w ws ih =>
    rw [List.map_cons, List.map_cons, List.any_cons, ih]
    have q : (w == s) = decide (s = w) := by
      rw [Bool.eq_iff_iff, beq_iff_eq, decide_eq_true_iff]
      exact eq_comm
    simp [toV, eqV, q]
theorem inV_ints (s : Int) (ws : List Int) : inV (.int s) ((ws.map D.int).map toV) = decide (s ∈ ws) := by
  unfold inV
  induction ws with
  | nil => simp
  | cons w ws ih =>
    rw [List.map_cons, List.map_cons, List.any_cons, ih]
    have q : (w == s) = decide (s = w) := by
      rw [Bool.eq_iff_iff, beq_iff_eq, decide_eq_true_iff]
      exact eq_comm
    simp [toV, eqV, q]
theorem flat_strs (ws : List Str) : (ws.map D.str).all flatD = true := by simp [flatD]
/-- strs in a seq of strs -/
theorem oIn_strs {m : Mem} {s : Str} {y : D} {ws : List Str} (neg : Bool) (hy : dSeq m y = some (ws.map D.str)) : oIn neg m (.str s) y = .ok (.bl (if neg then !decide (s ∈ ws) else decide (s ∈ ws))) m := by
  have e : toV (.str s) = .str s := rfl
  have f : flatD (.str s) = true := rfl
  cases y with
  | str z => cases hy
  | _ => simp only [oIn, hy, flat_strs, e, f, inV_strs, and_self, if_true]
theorem oIn_tstr {m : Mem} {s : Str} (neg : Bool) (ws : List Str) : oIn neg m (.str s) (.tup (ws.map D.str)) = .ok (.bl (if neg then !decide (s ∈ ws) else decide (s ∈ ws))) m := oIn_strs neg rfl
@[simp] theorem oIn_sign {m : Mem} {c : Nat} (neg : Bool) (b : Str) : oIn neg m (.str ⟨#[c]⟩) (.str b) = .ok (.bl (if neg then !decide (c ∈ b.cps.toList) else decide (c ∈ b.cps.toList))) m := rfl
/-! loops, comprehensions -/
theorem loop_inv {gd : Mem → Bool} {tg : GDen} {body : SDen} (P : Nat → Sl → Mem → Prop) : ∀ (ds : List D) (k : Nat) (e : Sl) (m : Mem), (∀ i d e m, ds[i]? = some d → P (k + i) e m → ∃ e1 e2 m2, tg d e = some e1 ∧ body e1 m = .ok (.nx e2) m2 ∧ P (k + i + 1) e2 m2) →
    (∀ i e m, P i e m → gd m = true) → P k e m → ∃ e' m', loopD gd tg body ds e m = .ok (.nx e') m' ∧ P (k + ds.length) e' m'
  | [], k, e, m, _, g, p => ⟨e, m, by rw [loop_nil, if_pos (g _ _ _ p)], p⟩
  | d :: ds, k, e, m, h, g, p => by
    obtain ⟨e1, e2, m2, h1, h2, p2⟩ := h 0 d e m rfl p
    obtain ⟨e', m', q, p'⟩ := loop_inv P ds (k + 1) e2 m2 (fun i d' e m hd p => by
      have := h (i + 1) d' e m (by simpa using hd) (by rw [show k + (i + 1) = k + 1 + i by omega]; exact p)
      rw [show k + (i + 1) + 1 = k + 1 + i + 1 by omega] at this
      exact this) g p2
    refine ⟨e', m', ?_, by rw [List.length_cons, show k + (ds.length + 1) = k + 1 + ds.length by omega]; exact p'⟩
    rw [loop_cons, if_pos (g _ _ _ p), h1]
    simp [h2, q]
/-- .. with a way out -/
theorem loop_ret {gd : Mem → Bool} {tg : GDen} {body : SDen} (P : Nat → Sl → Mem → Prop) (R : D → Mem → Prop) : ∀ (ds : List D) (k : Nat) (e : Sl) (m : Mem), (∀ i d e m, ds[i]? = some d → P (k + i) e m → ∃ e1 fl m2, tg d e = some e1 ∧ body e1 m = .ok fl m2 ∧ ((∃ e2, (fl = .nx e2 ∨ fl = .ct e2) ∧ P (k + i + 1) e2 m2) ∨ (∃ x, fl = .rt x ∧ R x m2))) →
    (∀ i e m, P i e m → gd m = true) → P k e m → ∃ fl m', loopD gd tg body ds e m = .ok fl m' ∧ ((∃ e', fl = .nx e' ∧ P (k + ds.length) e' m') ∨ ∃ x, fl = .rt x ∧ R x m')
  | [], k, e, m, _, g, p => ⟨.nx e, m, by rw [loop_nil, if_pos (g _ _ _ p)], .inl ⟨e, rfl, p⟩⟩
  | d :: ds, k, e, m, h, g, p => by
    obtain ⟨e1, fl, m2, h1, h2, p2⟩ := h 0 d e m rfl p
    rcases p2 with ⟨e2, hfl, p2⟩ | ⟨x, rfl, r⟩
    · obtain ⟨fl', m', q, p'⟩ := loop_ret P R ds (k + 1) e2 m2 (fun i d' e m hd p => by
        have := h (i + 1) d' e m (by simpa using hd) (by rw [show k + (i + 1) = k + 1 + i by omega]; exact p)
        rw [show k + (i + 1) + 1 = k + 1 + i + 1 by omega] at this
        exact this) g p2
      refine ⟨fl', m', ?_, by rw [List.length_cons, show k + (ds.length + 1) = k + 1 + ds.length by omega]; exact p'⟩
      rw [loop_cons, if_pos (g _ _ _ p), h1]
      rcases hfl with rfl | rfl <;> simp [h2, q]
    · refine ⟨.rt x, m2, ?_, .inr ⟨x, rfl, r⟩⟩
      rw [loop_cons, if_pos (g _ _ _ p), h1]
      simp [h2]
/-- a comprehension that changes nothing -/
theorem comp_map {gd : Mem → Bool} {tg : GDen} {t : TDen} {f : EDen} {e : Sl} {m : Mem} (u : D → Sl) (p : D → Bool) (g : D → D) (hg : gd m = true) : ∀ (ds acc : List D), (∀ d ∈ ds, tg d e = some (u d) ∧ t (u d) m = .ok (p d) m ∧ (p d = true → f (u d) m = .ok (g d) m)) → acc.length + ds.length ≤ 1000000 →
    compD gd tg t f e ds m acc = .ok (acc ++ (ds.filter p).map g) m
  | [], acc, _, _ => by simp [compD, hg]
  | d :: ds, acc, h, hl => by
    obtain ⟨h1, h2, h3⟩ := h d (by simp)
    have hl' : acc.length + ds.length + 1 ≤ 1000000 := by simpa [Nat.add_assoc] using hl
    unfold compD
    rw [if_pos hg, h1]
    cases q : p d with
    | false =>
      simp [h2, q, comp_map u p g hg ds acc (fun d hd => h d (by simp [hd])) (by omega)]
    | true =>
      simp [h2, q, h3 q, comp_map u p g hg ds (acc ++ [g d]) (fun d hd => h d (by simp [hd])) (by simp; omega), show acc.length < 1000000 by omega]
/-- one that changes -/
theorem comp_inv {gd : Mem → Bool} {tg : GDen} {f : EDen} {e : Sl} (I : Mem → Prop) (R : D → D → Prop) (hg : ∀ m, I m → gd m = true) : ∀ (ds acc : List D) (m : Mem), I m → (∀ d ∈ ds, ∀ m, I m → ∃ e1 y m', tg d e = some e1 ∧ f e1 m = .ok y m' ∧ I m' ∧ R d y) → acc.length + ds.length ≤ 1000000 →
    ∃ ys m', compD gd tg tYesD f e ds m acc = .ok (acc ++ ys) m' ∧ I m' ∧ ys.length = ds.length ∧ ∀ (i : Nat) (d y : D), ds[i]? = some d → ys[i]? = some y → R d y
  | [], acc, m, im, _, _ => ⟨[], m, by simp [compD, hg m im], im, rfl, fun i d y h => by simp at h⟩
  | d :: ds, acc, m, im, h, hl => by
    obtain ⟨e1, y, m1, h1, h2, i1, r1⟩ := h d (by simp) m im
    have hl' : acc.length + ds.length + 1 ≤ 1000000 := by simpa [Nat.add_assoc] using hl
    obtain ⟨ys, m', q, i', l', r'⟩ := comp_inv I R hg ds (acc ++ [y]) m1 i1 (fun d hd => h d (by simp [hd])) (by simp; omega)
    refine ⟨y :: ys, m', ?_, i', by simp [l'], fun i d' y' hd hy => ?_⟩
    · unfold compD
      rw [if_pos (hg m im), h1]
      simp [h2, show acc.length < 1000000 by omega, q]
    · cases i with
      | zero =>
        simp at hd hy
        subst hd hy
        exact r1
      | succ i => exact r' i d' y' (by simpa using hd) (by simpa using hy)
/-! the end of a def with one cell more -/
@[simp] theorem fin_non1 (m x : Mem) : fin m .non (m ++ x) = .ok .non m := by
  unfold fin
  by_cases h : (m ++ x).length ≤ m.length
  · have e : x = [] := by
      rw [List.length_append] at h
      cases x with
      | nil => rfl
      | cons a b =>
        rw [List.length_cons] at h
        omega
    subst e
    simp
  · rw [if_neg h]
    simp [unref]
mutual
theorem low_unref (k : Nat) (m : Mem) : ∀ d : D, low k d = true → unref k m d = some d
  | .non, _ => rfl
  | .bl _, _ => rfl
  | .int _, _ => rfl
  | .str _, _ => rfl
  | .tup xs, h => by
    have q := low_unrefL k m xs h
    simp [unref, q]
  | .lst xs, h => by
    have q := low_unrefL k m xs h
    simp [unref, q]
  | .scr _, _ => rfl
  | .ref n, h => by
    have h' : n < k := of_decide_eq_true h
    simp [unref, h']
  | .val _, _ => rfl
theorem low_unrefL (k : Nat) (m : Mem) : ∀ d : List D, lowL k d = true → unrefL k m d = some d
  | [], _ => rfl
  | d :: ds, h => by
    have h' : (low k d && lowL k ds) = true := h
    rw [Bool.and_eq_true] at h'
    simp [unrefL, low_unref k m d h'.1, low_unrefL k m ds h'.2]
end
mutual
theorem gd_low (k : Nat) : ∀ (n : Nat) (d : D), gdD n d = true → low k d = true
  | _, .non, _ => rfl
  | _, .int _, _ => rfl
  | _, .str _, _ => rfl
  | 0, .tup _, h => by cases h
  | n + 1, .tup xs, h => gdL_low k n xs h
  | 0, .lst _, h => by cases h
  | n + 1, .lst xs, h => gdL_low k n xs h
  | _, .bl _, _ => rfl
  | _, .scr _, _ => rfl
  | _, .ref _, h => by cases h
  | _, .val _, _ => rfl
theorem gdL_low (k : Nat) : ∀ (n : Nat) (d : List D), gdL n d = true → lowL k d = true
  | _, [], _ => rfl
  | n, d :: ds, h => by
    have h' : (gdD n d && gdL n ds) = true := h
    rw [Bool.and_eq_true] at h'
    show (low k d && lowL k ds) = true
    rw [gd_low k n d h'.1, gdL_low k n ds h'.2]
    rfl
end
/-- an answer without cells; the cells made within go -/
theorem fin_gd {m x : Mem} {d : D} {n : Nat} (h : gdD n d = true) : fin m d (m ++ x) = .ok d m := by
  unfold fin
  by_cases hl : (m ++ x).length ≤ m.length
  · have e : x = [] := by
      rw [List.length_append] at hl
      cases x with
      | nil => rfl
      | cons a b =>
        rw [List.length_cons] at hl
        omega
    subst e
    simp
  · rw [if_neg hl]
    simp [low_unref _ _ d (gd_low _ n d h)]
/-- .. where cells that stood before were changed -/
theorem fin_low {m m' x : Mem} {d : D} (hd : low m.length d = true) (hl : m'.length = m.length) (h : m'.all (lowM m.length) = true) : fin m d (m' ++ x) = .ok d m' := by
  unfold fin
  by_cases hq : (m' ++ x).length ≤ m.length
  · have e : x = [] := by
      rw [List.length_append, hl] at hq
      cases x with
      | nil => rfl
      | cons a b =>
        rw [List.length_cons] at hq
        omega
    subst e
    simp [hl]
  · rw [if_neg hq, low_unref _ _ d hd]
    have t : (m' ++ x).take m.length = m' := by rw [← hl]; simp
    simp only [t, h]
    by_cases hm : m' = m
    · rw [if_pos hm, hm]
    · rw [if_neg hm]
      rfl
end DL

namespace DL
open PySem L2
/-! ## decks as data -/
structure CondT where
  n : Int
  w : Str
  s : Option Int
structure CardT where
  nm : Str
  bg : Str
  gd : Str
  bd : Str
structure StepT where
  fl : Str
  cs : List CondT
  ks : List CardT
def optD : Option Int → D
  | none => .non
  | some i => .int i
def CondT.d (c : CondT) : D := .tup [.int c.n, .str c.w, optD c.s]
def CardT.d (c : CardT) : D := .tup [.str c.nm, .str c.bg, .str c.gd, .str c.bd]
def StepT.d (s : StepT) : D := .tup [.str s.fl, .tup (s.cs.map CondT.d), .tup (s.ks.map CardT.d)]
def wFlags : List Str := ["plain", "even", "only"]
def wWords : List Str := ["gt", "ge", "eq", "ne", "le", "lt"]
def wBegins : List Str := ["old", "shr", "new", "mod"]
def wGoods : List Str := ["keep", "drop", "pass"]
def wBads : List Str := ["keep", "drop"]
def abc : Str := "abcdefghijklmnopqrstuvwxyz"
def nameOk (s : Str) : Bool := decide (1 ≤ s.length ∧ s.length ≤ 4) && s.cps.toList.all fun c => decide (c ∈ abc.cps.toList)
structure CondT.ok (c : CondT) (k : Int) : Prop where
  n0 : 0 ≤ c.n
  n9 : c.n ≤ 9
  w : c.w ∈ wWords
  s : ∀ i, c.s = some i → 0 ≤ i ∧ i < k
structure CardT.ok (c : CardT) : Prop where
  nm : nameOk c.nm = true
  bg : c.bg ∈ wBegins
  gd : c.gd ∈ wGoods
  bd : c.bd ∈ wBads
structure StepT.ok (s : StepT) (k : Int) : Prop where
  fl : s.fl ∈ wFlags
  lc : s.cs.length ≤ 3
  lk : s.ks.length ≤ 4
  cs : ∀ c ∈ s.cs, c.ok k
  ks : ∀ c ∈ s.ks, c.ok
  nd : (s.ks.map (·.nm)).Nodup
structure DeckOk (dk : List StepT) : Prop where
  ne : dk ≠ []
  le : dk.length ≤ 6
  st : ∀ (i : Nat) (s : StepT), dk[i]? = some s → s.ok i
/-! the checks let them by -/
theorem z_is_number (i lo hi : Int) (m : Mem) : d_is_number [.int i, .int lo, .int hi] m = .ok (.bl (decide (lo ≤ i) && decide (i ≤ hi))) m := by
  unfold d_is_number
  rw [bodyD_z]
  simp [s_is_number]
  by_cases h : lo ≤ i <;> simp [h]
theorem z_is_one_of (s : Str) (ws : List Str) (m : Mem) : d_is_one_of [.str s, .tup (ws.map D.str)] m = .ok (.bl (decide (s ∈ ws))) m := by
  unfold d_is_one_of
  rw [bodyD_z]
  simp [s_is_one_of, oIn_tstr]
theorem strOk_abc {s : Str} (h : nameOk s = true) : PyData.strOk s = true := by
  unfold nameOk at h
  rw [Bool.and_eq_true, List.all_eq_true] at h
  unfold PyData.strOk
  rw [Array.all_eq_true_iff_forall_mem]
  intro c hc
  have q := of_decide_eq_true (h.2 c (by simpa using hc))
  have e : ∀ c ∈ abc.cps.toList, c < 0x110000 := by decide +kernel
  exact decide_eq_true (e c q)
@[simp] theorem len_str (m : Mem) (s : Str) (h : s.length ≤ 1000000) : bLen m [.str s] = .ok (.int s.length) m := by simp [bLen, h]
@[simp] theorem len_tup (m : Mem) (xs : List D) : bLen m [.tup xs] = .ok (.int xs.length) m := rfl
@[simp] theorem len_lst (m : Mem) (xs : List D) : bLen m [.lst xs] = .ok (.int xs.length) m := rfl
theorem z_is_name {s : Str} (h : nameOk s = true) (m : Mem) : d_is_name [.str s] m = .ok (.bl true) m := by
  have h0 := h
  unfold nameOk at h
  rw [Bool.and_eq_true, List.all_eq_true, decide_eq_true_iff] at h
  obtain ⟨⟨h1, h2⟩, h3⟩ := h
  have hl : s.length ≤ 1000000 := by omega
  unfold d_is_name
  rw [bodyD_z]
  have hc : compD free (gV 1) (tVal (eBin (oIn true) (eVar 1) (eC (.str "abcdefghijklmnopqrstuvwxyz")))) (eVar 1) [some (.str s), none] (signsD s) m [] = .ok [] m := by
    rw [comp_map (fun d => [some (.str s), some d]) (fun _ => false) (fun d => d) rfl]
    · simp
    · intro d hd
      unfold signsD at hd
      obtain ⟨c, hc, rfl⟩ := List.mem_map.mp hd
      have q := of_decide_eq_true (h3 c hc)
      refine ⟨rfl, ?_, fun z => by cases z⟩
      simp
      exact Array.mem_toList_iff.mp q
    · unfold signsD
      have e : s.cps.toList.length = s.length := by simp [Str.length]
      simp only [List.length_map, List.length_nil, e]
      omega
  have g1 : (1 : Int) ≤ (s.length : Int) := by omega
  have g2 : (s.length : Int) ≤ 4 := by omega
  have q : oEq m (.lst []) (.lst []) = .ok (.bl true) m := by
    rw [oEq_gd (n := 1) (k := 1) (by simp) (by simp) (by decide) (by decide)]
    simp
  simp [s_is_name, hl, g1, g2, hc, wipeD, q]
theorem z_is_row (xs : List D) (n : Int) (m : Mem) : d_is_row [.tup xs, .int n] m = .ok (.bl (decide ((xs.length : Int) ≤ n))) m := by
  unfold d_is_row
  rw [bodyD_z]
  simp [s_is_row]
@[simp] theorem oIx_tup (m : Mem) (xs : List D) (i : Int) : oIx m (.tup xs) (.int i) = match atI xs i with
  | some d => .ok d m
  | none => .bad := rfl
@[simp] theorem oIx_lst (m : Mem) (xs : List D) (i : Int) : oIx m (.lst xs) (.int i) = match atI xs i with
  | some d => .ok d m
  | none => .bad := rfl
@[simp] theorem atI_nat {α : Type} (xs : List α) (i : Nat) : atI xs (i : Int) = xs[i]? := by
  unfold atI ixN
  rw [if_pos (by omega)]
  by_cases h : i < xs.length
  · rw [if_pos (by omega)]
    simp
  · rw [if_neg (by omega)]
    simp
    omega
@[simp] theorem atI_lit0 {α : Type} (xs : List α) : atI xs 0 = xs[0]? := atI_nat xs 0
@[simp] theorem atI_lit1 {α : Type} (xs : List α) : atI xs 1 = xs[1]? := atI_nat xs 1
@[simp] theorem atI_lit2 {α : Type} (xs : List α) : atI xs 2 = xs[2]? := atI_nat xs 2
@[simp] theorem atI_lit3 {α : Type} (xs : List α) : atI xs 3 = xs[3]? := atI_nat xs 3
@[simp] theorem oIs_non (m : Mem) : oIs m .non .non = .ok (.bl true) m := rfl
@[simp] theorem oIs_int (m : Mem) (i : Int) : oIs m (.int i) .non = .ok (.bl false) m := rfl
@[simp] theorem oIs_tup (m : Mem) (i : List D) : oIs m (.tup i) .non = .ok (.bl false) m := rfl
@[simp] theorem oIsN_non (m : Mem) : oIsNot m .non .non = .ok (.bl false) m := rfl
@[simp] theorem oIsN_int (m : Mem) (i : Int) : oIsNot m (.int i) .non = .ok (.bl true) m := rfl
@[simp] theorem oIsN_tup (m : Mem) (i : List D) : oIsNot m (.tup i) .non = .ok (.bl true) m := rfl
theorem z_is_cond {c : CondT} {k : Int} (h : c.ok k) (m : Mem) : d_is_cond [c.d, .int k] m = .ok (.bl true) m := by
  have w : d_is_one_of [.str c.w, .tup [.str "gt", .str "ge", .str "eq", .str "ne", .str "le", .str "lt"]] m = .ok (.bl (decide (c.w ∈ wWords))) m := z_is_one_of c.w wWords m
  have h0 := h.n0
  have h9 := h.n9
  unfold d_is_cond
  rw [bodyD_z]
  cases q : c.s with
  | none => simp [s_is_cond, CondT.d, q, optD, z_is_number, w, h.w, h0, h9]
  | some i =>
    have hs := h.s i q
    simp [s_is_cond, CondT.d, q, optD, z_is_number, w, h.w, h0, h9]
    omega
theorem z_is_card {c : CardT} (h : c.ok) {ns : List Str} {n : Nat} {m : Mem} (hm : m[n]? = some (.lst (ns.map D.str))) (hn : c.nm ∉ ns) : d_is_card [c.d, .ref n] m = .ok (.bl true) m := by
  have w1 : d_is_one_of [.str c.bg, .tup [.str "old", .str "shr", .str "new", .str "mod"]] m = .ok (.bl (decide (c.bg ∈ wBegins))) m := z_is_one_of c.bg wBegins m
  have w2 : d_is_one_of [.str c.gd, .tup [.str "keep", .str "drop", .str "pass"]] m = .ok (.bl (decide (c.gd ∈ wGoods))) m := z_is_one_of c.gd wGoods m
  have w3 : d_is_one_of [.str c.bd, .tup [.str "keep", .str "drop"]] m = .ok (.bl (decide (c.bd ∈ wBads))) m := z_is_one_of c.bd wBads m
  have i1 : oIn false m (.str c.nm) (.ref n) = .ok (.bl false) m := by
    rw [oIn_strs (ws := ns) false (by simp [dSeq, hm])]
    simp [hn]
  unfold d_is_card
  rw [bodyD_z]
  simp [s_is_card, CardT.d, w1, w2, w3, h.bg, h.gd, h.bd, z_is_name h.nm, i1]

/-! need_step_form .. -/
@[simp] theorem mem_last (m : Mem) (c : MO) : (m ++ [c])[m.length]? = some c := by simp
@[simp] theorem set_last (m : Mem) (c c' : MO) : (m ++ [c]).set m.length c' = m ++ [c'] := by
  rw [List.set_append_right _ _ (Nat.le_refl _)]
  simp
theorem strOk_mem {s : Str} {ws : List Str} (h : s ∈ ws) (hw : ws.all PyData.strOk = true) : PyData.strOk s = true := List.all_eq_true.mp hw s h
theorem enumD_map {α : Type} (f : α → D) : ∀ (xs : List α) (n i : Nat) (d : D), (enumD n (xs.map f))[i]? = some d → ∃ x, xs[i]? = some x ∧ d = .tup [.int ((n + i : Nat) : Int), f x]
  | [], n, i, d, h => by simp [enumD] at h
  | x :: xs, n, 0, d, h => by
    simp [enumD] at h
    exact ⟨x, rfl, h.symm⟩
  | x :: xs, n, i + 1, d, h => by
    have h' : (enumD (n + 1) (xs.map f))[i]? = some d := by simpa [enumD] using h
    obtain ⟨y, q1, q2⟩ := enumD_map f xs (n + 1) i d h'
    refine ⟨y, by simpa using q1, ?_⟩
    rw [q2]
    congr 3
    omega
theorem z_need_step_form {s : StepT} {k : Int} (h : s.ok k) (m : Mem) : d_need_step_form [.int k, s.d] m = .ok .non m := by
  have w : d_is_one_of [.str s.fl, .tup [.str "plain", .str "even", .str "only"]] m = .ok (.bl (decide (s.fl ∈ wFlags))) m := z_is_one_of s.fl wFlags m
  have lc := h.lc
  have lk := h.lk
  have r1 : ((s.cs.length : Nat) : Int) ≤ 3 := by omega
  have r2 : ((s.ks.length : Nat) : Int) ≤ 4 := by omega
  obtain ⟨e1, m1, q1, x1, y1, rfl, rfl⟩ := loop_inv (gd := free) (tg := gT [2, 3]) (body := sIf (tNotD (tVal (eDef 2 d_is_cond (aCons (eVar 3) (aCons (eVar 0) (aNil)))))) (sBad) (sNext))
    (fun _ e m' => ∃ x y, e = [some (.int k), some s.d, x, y, none, none] ∧ m = m') (enumD 0 (s.cs.map CondT.d)) 0 [some (.int k), some s.d, none, none, none, none] m
    (fun i d e m' hd ⟨x, y, he, hm⟩ => by
      subst he hm
      obtain ⟨c, hc, rfl⟩ := enumD_map CondT.d s.cs 0 i d hd
      refine ⟨_, [some (.int k), some s.d, some (.int (0 + i : Nat)), some c.d, none, none], m, rfl, ?_, _, _, rfl, rfl⟩
      simp [z_is_cond (h.cs c (List.mem_of_getElem? hc))]) (fun _ _ _ _ => rfl) ⟨_, _, rfl, rfl⟩
  obtain ⟨e2, m2, q2, x2, y2, rfl, rfl⟩ := loop_inv (gd := free) (tg := gT [2, 5]) (body := sSeq (sIf (tNotD (tVal (eDef 2 d_is_card (aCons (eVar 5) (aCons (eVar 4) (aNil)))))) (sBad) (sNext)) (
    sDrop (eMet "list" mApp (eVar 4) (aCons (eBin oIx (eVar 5) (eC (.int 0))) (aNil)))))
    (fun n e m' => ∃ x y, e = [some (.int k), some s.d, x, y1, some (.ref m.length), y] ∧ m' = m ++ [.lst (((s.ks.take n).map (·.nm)).map D.str)]) (enumD 0 (s.ks.map CardT.d)) 0 [some (.int k), some s.d, x1, y1, some (.ref m.length), none] (m ++ [.lst []])
    (fun i d e m' hd ⟨x, y, he, hm⟩ => by
      subst he hm
      obtain ⟨c, hc, rfl⟩ := enumD_map CardT.d s.ks 0 i d hd
      have hi := (List.getElem?_eq_some_iff.mp hc).1
      have nn : c.nm ∉ (s.ks.take i).map (·.nm) := by
        intro z
        obtain ⟨j, hj, e⟩ := List.getElem_of_mem z
        rw [List.length_map, List.length_take] at hj
        have nd := List.pairwise_iff_getElem.mp h.nd j i (by rw [List.length_map]; omega) (by rw [List.length_map]; exact hi) (by omega)
        apply nd
        simp only [List.getElem_map, List.getElem_take] at e ⊢
        rw [e]
        rw [List.getElem?_eq_getElem hi] at hc
        cases hc
        rfl
      have hl : ((s.ks.take i).map (·.nm)).length < 1000000 := by
        rw [List.length_map, List.length_take]
        omega
      refine ⟨_, [some (.int k), some s.d, some (.int (0 + i : Nat)), y1, some (.ref m.length), some c.d], m ++ [.lst (((s.ks.take (0 + i + 1)).map (·.nm)).map D.str)], rfl, ?_, _, _, rfl, rfl⟩
      have zc := z_is_card (h.ks c (List.mem_of_getElem? hc)) (m := m ++ [.lst (((s.ks.take (0 + i)).map (·.nm)).map D.str)]) (n := m.length) (ns := (s.ks.take (0 + i)).map (·.nm)) (by simp) (by rw [Nat.zero_add]; exact nn)
      have tk : s.ks.take (i + 1) = s.ks.take i ++ [c] := by rw [List.take_add_one, hc]; rfl
      simp only [Nat.zero_add] at zc ⊢
      simp [zc, tyM, dList, mApp, dOwn, CardT.d, tk]
      simp [CardT.d] at zc
      simp [zc]
      rw [if_pos (by omega)]
      rfl) (fun _ _ _ _ => rfl) ⟨_, _, rfl, rfl⟩
  have fl := strOk_mem h.fl (by decide +kernel)
  unfold d_need_step_form
  rw [bodyD_z]
  have q1' : loopD free (gT [2, 3]) (sIf (tNotD (tVal (eDef 2 d_is_cond (aCons (eVar 3) (aCons (eVar 0) (aNil)))))) (sBad) (sNext)) (enumD 0 (s.cs.map CondT.d)) [some (.int k), some (.tup [.str s.fl, .tup (s.cs.map CondT.d), .tup (s.ks.map CardT.d)]), none, none, none, none] m = _ := q1
  simp only [StepT.d] at q1 q2
  simp [s_need_step_form, StepT.d, w, h.fl, z_is_row, r1, r2, q1, q2]
end DL

namespace DL
open PySem L2

theorem gd_cond {c : CondT} {k : Int} (h : c.ok k) (n : Nat) : gdD (n + 1) c.d = true := by
  have w := strOk_mem h.w (by decide +kernel)
  unfold CondT.d
  cases c.s <;> simp [optD, w]
theorem gd_card {c : CardT} (h : c.ok) (n : Nat) : gdD (n + 1) c.d = true := by
  have w1 := strOk_abc h.nm
  have w2 := strOk_mem h.bg (by decide +kernel)
  have w3 := strOk_mem h.gd (by decide +kernel)
  have w4 := strOk_mem h.bd (by decide +kernel)
  simp [CardT.d, w1, w2, w3, w4]
theorem gd_step {s : StepT} {k : Int} (h : s.ok k) (n : Nat) : gdD (n + 3) s.d = true := by
  have w := strOk_mem h.fl (by decide +kernel)
  have w1 : gdL (n + 1) (s.cs.map CondT.d) = true := gdL_all _ _ fun d hd => by
    obtain ⟨c, hc, rfl⟩ := List.mem_map.mp hd
    exact gd_cond (h.cs c hc) n
  have w2 : gdL (n + 1) (s.ks.map CardT.d) = true := gdL_all _ _ fun d hd => by
    obtain ⟨c, hc, rfl⟩ := List.mem_map.mp hd
    exact gd_card (h.ks c hc) n
  simp [StepT.d, w, w1, w2]
def deckD (dk : List StepT) : D := .tup (dk.map StepT.d)
theorem DeckOk.mem {dk : List StepT} (h : DeckOk dk) {s : StepT} (hs : s ∈ dk) : ∃ k : Int, s.ok k := by
  obtain ⟨i, hi, e⟩ := List.getElem_of_mem hs
  exact ⟨i, h.st i s (by rw [List.getElem?_eq_getElem hi, e])⟩
theorem gd_deck {dk : List StepT} (h : DeckOk dk) (n : Nat) : gdD (n + 4) (deckD dk) = true := by
  have w1 : gdL (n + 3) (dk.map StepT.d) = true := gdL_all _ _ fun d hd => by
    obtain ⟨c, hc, rfl⟩ := List.mem_map.mp hd
    obtain ⟨k, hk⟩ := h.mem hc
    exact gd_step hk n
  unfold deckD
  rw [show n + 4 = n + 3 + 1 from rfl, gd_tup]
  exact w1
theorem z_need_deck {dk : List StepT} (h : DeckOk dk) (m : Mem) : d_need_deck [deckD dk] m = .ok .non m := by
  have le := h.le
  have r1 : ((dk.length : Nat) : Int) ≤ 6 := by omega
  have ne : oEq m (deckD dk) (.tup []) = .ok (.bl false) m := by
    rw [oEq_gd (n := 4) (k := 1) (gd_deck h 0) (by simp) (by decide) (by decide)]
    have q := h.ne
    simp [deckD, q]
  obtain ⟨e1, m1, q1, x1, y1, rfl, rfl⟩ := loop_inv (gd := free) (tg := gT [1, 2]) (body := sDrop (eDef 2 d_need_step_form (aCons (eVar 1) (aCons (eVar 2) (aNil)))))
    (fun _ e m' => ∃ x y, e = [some (deckD dk), x, y] ∧ m = m') (enumD 0 (dk.map StepT.d)) 0 [some (deckD dk), none, none] m
    (fun i d e m' hd ⟨x, y, he, hm⟩ => by
      subst he hm
      obtain ⟨c, hc, rfl⟩ := enumD_map StepT.d dk 0 i d hd
      refine ⟨_, [some (deckD dk), some (.int (0 + i : Nat)), some c.d], m, rfl, ?_, _, _, rfl, rfl⟩
      rw [Nat.zero_add]
      simp [z_need_step_form (h.st i c hc)]) (fun _ _ _ _ => rfl) ⟨_, _, rfl, rfl⟩
  unfold d_need_deck
  rw [bodyD_z]
  simp only [deckD] at q1 ne
  simp [s_need_deck, deckD, z_is_row, r1, ne, q1]
end DL

namespace DL
open PySem L2
/-! files -/
structure FileT where
  nm : Str
  rows : List Int
def FileT.d (f : FileT) : D := .tup [.str f.nm, .tup (f.rows.map D.int)]
structure FileT.ok (f : FileT) : Prop where
  nm : nameOk f.nm = true
  le : f.rows.length ≤ 60
  rows : ∀ r ∈ f.rows, -6 ≤ r ∧ r ≤ 5
def ascS : Str → List FileT → Prop
  | _, [] => True
  | p, f :: r => p.cps.toList < f.nm.cps.toList ∧ ascS f.nm r
structure FilesOk (fs : List FileT) : Prop where
  le : fs.length ≤ 12
  all : ∀ f ∈ fs, f.ok
  asc : ascS "" fs
def filesD (fs : List FileT) : D := .lst (fs.map FileT.d)
/-! endings -/
def endOk (e : Option Int) : Prop := ∀ i, e = some i → 0 ≤ i ∧ i ≤ 9
def endsD (es : List (Option Int)) : D := .tup (es.map optD)
theorem rngD_get {lo : Int} {n i : Nat} {d : D} (h : (rngD lo n)[i]? = some d) : i < n ∧ d = .int (lo + i) := by
  have hi := (List.getElem?_eq_some_iff.mp h).1
  have hl : (rngD lo n).length = n := by unfold rngD; simp
  rw [hl] at hi
  unfold rngD at h
  rw [List.getElem?_map, List.getElem?_range hi] at h
  simp at h
  exact ⟨hi, h.symm⟩
end DL

namespace DL
open PySem L2
theorem char_inj {c d : Char} (h : c.toNat = d.toNat) : c = d := by
  exact Char.ext (UInt32.toNat_inj.mp h)
@[simp] theorem ofStr_inj (a b : String) : (Str.ofString a = Str.ofString b) ↔ a = b := by
  refine ⟨fun h => ?_, fun h => by rw [h]⟩
  rw [Str.ofString_eq_toList, Str.ofString_eq_toList] at h
  have h1 := Str.mk.inj h
  have h2 : a.toList.map Char.toNat = b.toList.map Char.toNat := by
    have := congrArg Array.toList h1
    simpa using this
  have h3 : a.toList = b.toList := List.map_inj_right (fun x y h => char_inj h) |>.mp h2
  exact String.toList_inj.mp h3
@[simp] theorem strOk_of (a : String) : PyData.strOk (Str.ofString a) = true := by
  rw [Str.ofString_eq_toList]
  unfold PyData.strOk
  rw [Array.all_eq_true_iff_forall_mem]
  intro c hc
  simp at hc
  obtain ⟨x, _, rfl⟩ := hc
  have := x.valid
  rcases this with h | h
  · exact decide_eq_true (show x.val.toNat < 0x110000 by omega)
  · exact decide_eq_true h.2
@[simp] theorem oEq_lit (m : Mem) (a b : String) : oEq m (.str (Str.ofString a)) (.str (Str.ofString b)) = .ok (.bl (decide (a = b))) m := by
  rw [oEq_str (strOk_of a) (strOk_of b)]
  simp
@[simp] theorem oNe_lit (m : Mem) (a b : String) : oNe m (.str (Str.ofString a)) (.str (Str.ofString b)) = .ok (.bl (!decide (a = b))) m := by
  rw [oNe_str (strOk_of a) (strOk_of b)]
  simp
/-! the store behind a place -/
@[simp] theorem mem_off (m x : Mem) (i : Nat) : (m ++ x)[m.length + i]? = x[i]? := by
  rw [List.getElem?_append_right (Nat.le_add_right _ _)]
  congr 1
  omega
@[simp] theorem mem_off0 (m : Mem) (c : MO) (x : Mem) : (m ++ c :: x)[m.length]? = some c := by
  have := mem_off m (c :: x) 0
  simpa using this
@[simp] theorem set_off (m x : Mem) (i : Nat) (c : MO) : (m ++ x).set (m.length + i) c = m ++ x.set i c := by
  rw [List.set_append_right _ _ (Nat.le_add_right _ _)]
  congr 2
  omega
@[simp] theorem set_off0 (m : Mem) (c c' : MO) (x : Mem) : (m ++ c :: x).set m.length c' = m ++ c' :: x := by
  have := set_off m (c :: x) 0 c'
  simpa using this
theorem fin_app {m x : Mem} {d : D} (h : low m.length d = true) : fin m d (m ++ x) = .ok d m := by
  unfold fin
  by_cases hl : (m ++ x).length ≤ m.length
  · have e : x = [] := by
      rw [List.length_append] at hl
      cases x with
      | nil => rfl
      | cons a b =>
        rw [List.length_cons] at hl
        omega
    subst e
    simp
  · rw [if_neg hl]
    simp [low_unref _ _ d h]
theorem fin_len {m m' : Mem} {d : D} (h : m'.length = m.length) : fin m d m' = .ok d m' := by
  unfold fin
  rw [if_pos (by omega)]
@[simp] theorem low_bl (k : Nat) (b : Bool) : low k (.bl b) = true := rfl
@[simp] theorem low_int (k : Nat) (b : Int) : low k (.int b) = true := rfl
@[simp] theorem low_non (k : Nat) : low k .non = true := rfl
@[simp] theorem low_str (k : Nat) (b : Str) : low k (.str b) = true := rfl
@[simp] theorem lowL_nil (k : Nat) : lowL k [] = true := rfl
@[simp] theorem lowL_cons (k : Nat) (d : D) (ds : List D) : lowL k (d :: ds) = (low k d && lowL k ds) := rfl
@[simp] theorem low_tup (k : Nat) (ds : List D) : low k (.tup ds) = lowL k ds := rfl
@[simp] theorem low_lst (k : Nat) (ds : List D) : low k (.lst ds) = lowL k ds := rfl
@[simp] theorem fin_bl (m x : Mem) (b : Bool) : fin m (.bl b) (m ++ x) = .ok (.bl b) m := fin_app rfl
@[simp] theorem fin_int (m x : Mem) (b : Int) : fin m (.int b) (m ++ x) = .ok (.int b) m := fin_app rfl
/-! dicts of one kind of key -/
section
variable {κ α : Type} [DecidableEq κ]
def encF (kf : κ → Key) (vf : α → D) (l : List (κ × α)) : List (Key × D) := l.map fun p => (kf p.1, vf p.2)
def getA : List (κ × α) → κ → Option α
  | [], _ => none
  | (k', d) :: r, k => if k' = k then some d else getA r k
def hasA (l : List (κ × α)) (k : κ) : Bool := (getA l k).isSome
def putA (kvs : List (κ × α)) (k : κ) (d : α) : List (κ × α) :=
  if (kvs.any fun kv => decide (kv.1 = k)) = true then kvs.map (fun kv => if kv.1 = k then (kv.1, d) else kv) else kvs ++ [(k, d)]
def dropA (kvs : List (κ × α)) (k : κ) : List (κ × α) := kvs.filter fun kv => decide (kv.1 ≠ k)
variable {kf : κ → Key} {vf : α → D} (hi : ∀ a b, kf a = kf b ↔ a = b)
include hi
theorem valD_enc (l : List (κ × α)) (k : κ) : valD (encF kf vf l) (kf k) = (getA l k).map vf := by
  induction l with
  | nil => rfl
  | cons p l ih =>
    obtain ⟨k', d⟩ := p
    show (if kf k' = kf k then some (vf d) else valD (encF kf vf l) (kf k)) = Option.map vf (if k' = k then some d else getA l k)
    by_cases h : k' = k
    · rw [if_pos h, if_pos (by rw [h])]
      rfl
    · rw [if_neg h, if_neg (fun q => h ((hi _ _).mp q)), ih]
theorem putD_enc (l : List (κ × α)) (k : κ) (d : α) : putD (encF kf vf l) (kf k) (vf d) = encF kf vf (putA l k d) := by
  have e : ((encF kf vf l).any fun kv => decide (kv.1 = kf k)) = (l.any fun kv => decide (kv.1 = k)) := by
    unfold encF
    rw [List.any_map]
    congr 1
    funext p
    simp [hi]
  unfold putD putA
  rw [e]
  by_cases h : (l.any fun kv => decide (kv.1 = k)) = true
  · rw [if_pos h, if_pos h]
    unfold encF
    rw [List.map_map, List.map_map]
    apply List.map_congr_left
    intro p _
    simp only [Function.comp]
    by_cases q : p.1 = k
    · rw [if_pos q, if_pos (by rw [q])]
    · rw [if_neg q, if_neg (fun z => q ((hi _ _).mp z))]
  · rw [if_neg h, if_neg h]
    simp [encF]
theorem dropD_enc (l : List (κ × α)) (k : κ) : dropD (encF kf vf l) (kf k) = encF kf vf (dropA l k) := by
  unfold dropD dropA encF
  rw [List.filter_map]
  congr 1
  apply List.filter_congr
  intro p _
  simp [hi]
end
theorem inr_inj (a b : Str) : ((Sum.inr a : Key) = Sum.inr b) ↔ a = b := by simp
theorem inl_inj (a b : Int) : ((Sum.inl a : Key) = Sum.inl b) ↔ a = b := by simp
/-! sorted -/
theorem sorted_eq {is js : List Int} (p : is.Perm js) (h1 : is.Pairwise (· ≤ ·)) (h2 : js.Pairwise (· ≤ ·)) : is = js :=
  List.Perm.eq_of_pairwise (fun a b _ _ x y => Int.le_antisymm x y) h1 h2 p
theorem srtI_id {is : List Int} (h : is.Pairwise (· < ·)) : srtI is = is :=
  sorted_eq (srtI_perm is) (srtI_sorted is) (h.imp fun h => Int.le_of_lt h)
theorem keysI_enc {α : Type} (vf : α → D) (l : List (Int × α)) : keysI (encF Sum.inl vf l) = some (l.map (·.1)) := by
  induction l with
  | nil => rfl
  | cons p l ih =>
    show Option.map _ (keysI (encF Sum.inl vf l)) = _
    rw [ih]
    rfl
theorem keysS_enc {α : Type} (vf : α → D) (l : List (Str × α)) : keysS (encF Sum.inr vf l) = some (l.map (·.1)) := by
  induction l with
  | nil => rfl
  | cons p l ih =>
    show Option.map _ (keysS (encF Sum.inr vf l)) = _
    rw [ih]
    rfl
theorem sortI_dict {α : Type} {vf : α → D} {l : List (Int × α)} {m : Mem} {n : Nat} (hm : m[n]? = some (.dct (encF Sum.inl vf l))) (hl : l.length < 64) : bSortD m [.ref n] = .ok (.lst ((srtI (l.map (·.1))).map D.int)) m := by
  simp [bSortD, dDict, hm, keysI_enc, hl]
theorem sortS_dict {α : Type} {vf : α → D} {l : List (Str × α)} {m : Mem} {n : Nat} (hm : m[n]? = some (.dct (encF Sum.inr vf l))) (hl : l.length < 64) : bSortD m [.ref n] = .ok (.lst ((srtS (l.map (·.1))).map D.str)) m := by
  cases l with
  | nil => simp [bSortD, dDict, hm, encF, keysI, srtI, srtS]
  | cons p l =>
    have e : keysI (encF Sum.inr vf (p :: l)) = none := rfl
    simp only [bSortD, dDict, hm, e, keysS_enc]
    rw [if_pos (by rw [List.length_map]; exact hl)]
@[simp] theorem kCons_z (e : Sl) (m : Mem) (k v : EDen) (r : PDen) : kCons k v r e m = (k e m).bind fun x m1 => (v e m1).bind fun y m2 => (r e m2).bind fun ps m3 => match keyD x with
  | some k => .ok ((k, y) :: ps) m3
  | none => .bad := rfl
@[simp] theorem kNil_z (e : Sl) (m : Mem) : kNil e m = .ok [] m := rfl
@[simp] theorem eDisp_z (e : Sl) (m : Mem) (f : PDen) : eDisp f e m = (f e m).bind fun ps m1 => if ps.length ≤ 15 then .ok (.ref m1.length) (m1 ++ [.dct (mergeD [] ps)]) else .bad := rfl
@[simp] theorem sFldD_z (c f : Str) (fo fe : EDen) (e : Sl) (m : Mem) : sFldD c f fo fe e m = (fe e m).bind fun d m1 => (fo e m1).bind fun x m2 => match x with
  | .ref n => match m2[n]? with
    | some (.ins c' fs) => if c' = c ∧ fs.length < 1000 then .ok (.nx e) (m2.set n (.ins c' (putFD f d fs))) else .bad
    | _ => .bad
  | _ => .bad := rfl
@[simp] theorem sPutD_z (fd fk fe : EDen) (e : Sl) (m : Mem) : sPutD fd fk fe e m = (fe e m).bind fun d m1 => (fd e m1).bind fun x m2 => (fk e m2).bind fun y m3 => match dDict m3 x, keyD y with
  | some (n, kvs), some k => if kvs.length < 1000000 then .ok (.nx e) (m3.set n (.dct (putD kvs k d))) else .bad
  | _, _ => .bad := rfl
@[simp] theorem sSetL_z (fo fi fe : EDen) (e : Sl) (m : Mem) : sSetL fo fi fe e m = (fe e m).bind fun d m1 => (fo e m1).bind fun x m2 => (fi e m2).bind fun y m3 => match dOwn m3 x, y with
  | some (n, ds), .int k => match ixN ds.length k with
    | some j => .ok (.nx e) (m3.set n (.lst (ds.set j d)))
    | none => .bad
  | _, _ => .bad := rfl
@[simp] theorem eMake_z (c : Str) (n : Nat) (den : List D → Mem → Res D) (fa : ADen) (e : Sl) (m : Mem) : eMake c n den fa e m = (fa e m).bind fun ds m1 => if ds.length + 1 = n then (den (.ref m1.length :: ds) (m1 ++ [.ins c []])).bind fun d m2 => (match d with
  | .non => .ok (.ref m1.length) m2
  | _ => .bad) else .bad := rfl
@[simp] theorem eDGet2_z (fd fk fx : EDen) (e : Sl) (m : Mem) : eDGet2 fd fk fx e m = (fd e m).bind fun x m1 => match dDict m1 x with
  | none => .bad
  | some _ => (fk e m1).bind fun y m2 => (fx e m2).bind fun z m3 => match dDict m3 x, keyD y with
    | some (_, kvs), some k => match valD kvs k with
      | some d => .ok d m3
      | none => .ok z m3
    | _, _ => .bad := rfl
@[simp] theorem eDPop2_z (fd fk fx : EDen) (e : Sl) (m : Mem) : eDPop2 fd fk fx e m = (fd e m).bind fun x m1 => match dDict m1 x with
  | none => .bad
  | some _ => (fk e m1).bind fun y m2 => (fx e m2).bind fun z m3 => match dDict m3 x, keyD y with
    | some (n, kvs), some k => match valD kvs k with
      | some d => .ok d (m3.set n (.dct (dropD kvs k)))
      | none => .ok z m3
    | _, _ => .bad := rfl
@[simp] theorem eDPop1_z (fd fk : EDen) (e : Sl) (m : Mem) : eDPop1 fd fk e m = (fd e m).bind fun x m1 => match dDict m1 x with
  | none => .bad
  | some _ => (fk e m1).bind fun y m2 => match dDict m2 x, keyD y with
    | some (n, kvs), some k => match valD kvs k with
      | some d => .ok d (m2.set n (.dct (dropD kvs k)))
      | none => .bad
    | _, _ => .bad := rfl
@[simp] theorem eDNew_z (e : Sl) (m : Mem) : eDNew e m = .ok (.ref m.length) (m ++ [.dct []]) := rfl
@[simp] theorem keyD_str (s : Str) : keyD (.str s) = some (.inr s) := rfl
@[simp] theorem keyD_int (s : Int) : keyD (.int s) = some (.inl s) := rfl
@[simp] theorem bodyN_z (N : Nat) (f : SDen) (ds : List D) (m : Mem) : bodyN N f ds m = (f (ds.map some ++ List.replicate (N - ds.length) none) m).bind fun fl m1 => match fl with
  | .rt d => .ok d m1
  | .nx _ => .ok .non m1
  | _ => .bad := rfl
/-! comparing -/
def holdB (w : Str) (a b : Int) : Bool := if w = "gt" then decide (b < a) else if w = "ge" then decide (b ≤ a) else if w = "eq" then decide (a = b) else if w = "ne" then !decide (a = b) else if w = "le" then decide (a ≤ b) else decide (a < b)
end DL

namespace DL
open PySem L2
theorem comp_mapT {α : Type} {gd : Mem → Bool} {tg : GDen} {t : TDen} {f : EDen} {e : Sl} {m : Mem} (F : α → D) (u : α → Sl) (p : α → Bool) (g : α → D) (hg : gd m = true) : ∀ (xs : List α) (acc : List D), (∀ a ∈ xs, tg (F a) e = some (u a) ∧ t (u a) m = .ok (p a) m ∧ (p a = true → f (u a) m = .ok (g a) m)) → acc.length + xs.length ≤ 1000000 →
    compD gd tg t f e (xs.map F) m acc = .ok (acc ++ (xs.filter p).map g) m
  | [], acc, _, _ => by simp [compD, hg]
  | d :: ds, acc, h, hl => by
    obtain ⟨h1, h2, h3⟩ := h d (by simp)
    have hl' : acc.length + ds.length + 1 ≤ 1000000 := by simpa [Nat.add_assoc] using hl
    rw [List.map_cons]
    unfold compD
    rw [if_pos hg, h1]
    cases q : p d with
    | false =>
      simp [h2, q, comp_mapT F u p g hg ds acc (fun d hd => h d (by simp [hd])) (by omega)]
    | true =>
      simp [h2, q, h3 q, comp_mapT F u p g hg ds (acc ++ [g d]) (fun d hd => h d (by simp [hd])) (by simp; omega), show acc.length < 1000000 by omega]
/-! ## a run -/
inductive OutT where
  | ahead
  | after
  | only
  | cond (k : Nat)
  | lacks (k : Nat)
  | there (k : Nat)
  | fails
  | ran (e : Int)
deriving DecidableEq
def OutT.d : OutT → D
  | .ahead => .tup [.str "ahead"]
  | .after => .tup [.str "after"]
  | .only => .tup [.str "only"]
  | .cond k => .tup [.str "cond", .int k]
  | .lacks k => .tup [.str "lacks", .int k]
  | .there k => .tup [.str "there", .int k]
  | .fails => .tup [.str "fails"]
  | .ran e => .tup [.str "ran", .int e]
structure RS where
  files : List (Str × (List Int × Bool))
  codes : List (Int × Int)
  bad : Bool
  outs : List OutT
  seen : List (Int × Str × List Int)
def rowsD (r : List Int) : D := .tup (r.map D.int)
def fileV (v : List Int × Bool) : D := .tup [rowsD v.1, .bl v.2]
def seenD (x : Int × Str × List Int) : D := .tup [.int x.1, .str x.2.1, rowsD x.2.2]
def filesC (l : List (Str × (List Int × Bool))) : List (Key × D) := encF Sum.inr fileV l
def codesC (l : List (Int × Int)) : List (Key × D) := encF Sum.inl D.int l
def runF (k : Nat) (dk : D) (bad : Bool) : MO := .ins "Run" [("deck", dk), ("files", .ref (k + 1)), ("codes", .ref (k + 2)), ("is_failed", .bl bad), ("outcomes", .ref (k + 3)), ("seen", .ref (k + 4))]
def rmem (m : Mem) (dk : D) (s : RS) : Mem := m ++ [runF m.length dk s.bad, .dct (filesC s.files), .dct (codesC s.codes), .lst (s.outs.map OutT.d), .lst (s.seen.map seenD)]
section
variable (m : Mem) (dk : D) (s : RS)
@[simp] theorem rm0 : (rmem m dk s)[m.length]? = some (runF m.length dk s.bad) := by simp [rmem]
@[simp] theorem rm1 : (rmem m dk s)[m.length + 1]? = some (.dct (filesC s.files)) := by unfold rmem; rw [mem_off]; rfl
@[simp] theorem rm2 : (rmem m dk s)[m.length + 2]? = some (.dct (codesC s.codes)) := by unfold rmem; rw [mem_off]; rfl
@[simp] theorem rm3 : (rmem m dk s)[m.length + 3]? = some (.lst (s.outs.map OutT.d)) := by unfold rmem; rw [mem_off]; rfl
@[simp] theorem rm4 : (rmem m dk s)[m.length + 4]? = some (.lst (s.seen.map seenD)) := by unfold rmem; rw [mem_off]; rfl
theorem rmlen : (rmem m dk s).length = m.length + 5 := by simp [rmem]
theorem fld_files : (eFld "Run" "files" (fun _ m' => .ok (.ref m.length) m')) [] (rmem m dk s) = .ok (.ref (m.length + 1)) (rmem m dk s) := by
  simp [runF, lookF]
end
def selC (codes : List (Int × Int)) (c : CondT) : List (Int × Int) := codes.filter fun kv => decide (c.s = none ∨ c.s = some kv.1)
def condHit (codes : List (Int × Int)) (c : CondT) : Bool := !decide (((selC codes c).map (·.2)).filter (holdB c.w c.n) = [])
structure CodesOk (codes : List (Int × Int)) : Prop where
  up : (codes.map (·.1)).Pairwise (· < ·)
  le : codes.length < 64
theorem getA_mem {l : List (Int × Int)} (h : (l.map (·.1)).Pairwise (· < ·)) : ∀ kv ∈ l, getA l kv.1 = some kv.2 := by
  induction l with
  | nil => intro kv h; cases h
  | cons p l ih =>
    obtain ⟨k, v⟩ := p
    obtain ⟨h1, h2⟩ := List.pairwise_cons.mp h
    intro kv hkv
    rcases List.mem_cons.mp hkv with rfl | hm
    · simp [getA]
    · have hlt : k < kv.1 := h1 kv.1 (List.mem_map_of_mem hm)
      unfold getA
      rw [if_neg (fun z : k = kv.1 => absurd z (Int.ne_of_lt hlt))]
      exact ih h2 kv hm
theorem oIn_step (m : Mem) (o : Option Int) (i : Int) : oIn false m (optD o) (.tup [.non, .int i]) = .ok (.bl (decide (o = none ∨ o = some i))) m := by
  cases o with
  | none => simp [oIn, optD, dSeq, flatD, inV, toV, eqV]
  | some j =>
    have e : (i == j) = decide (j = i) := by
      rw [Bool.eq_iff_iff, beq_iff_eq, decide_eq_true_iff]
      exact eq_comm
    simp [oIn, optD, dSeq, flatD, inV, toV, eqV, e]
theorem gdL_ints (n : Nat) (xs : List Int) : gdL n (xs.map D.int) = true := gdL_all _ _ fun d hd => by
  obtain ⟨i, _, rfl⟩ := List.mem_map.mp hd
  simp
end DL

namespace DL
open PySem L2
def optN : Option Nat → D
  | none => .non
  | some i => .int i
def passT (s : RS) (st : StepT) : Option OutT := if s.bad = true ∧ st.fl = "plain" then some .after else if s.bad = false ∧ st.fl = "only" then some .only else (st.cs.findIdx? (condHit s.codes)).map .cond
def optO : Option OutT → D
  | none => .non
  | some o => o.d
def barL (has : Str → Bool) : Nat → List CardT → Option OutT
  | _, [] => none
  | n, c :: r => if (c.bg = "old" ∨ c.bg = "shr") ∧ has c.nm = false then some (.lacks n) else if c.bg = "new" ∧ has c.nm = true then some (.there n) else barL has (n + 1) r
abbrev barBody : SDen := (sSeq (sAsg (gV 4) (eDIn false (eBin oIx (eVar 3) (eC (.int 0))) (eFld "Run" "files" (eVar 0)))) (
    sSeq (sIf (tAndD (tVal (eBin (oIn false) (eBin oIx (eVar 3) (eC (.int 1))) (eTup (aCons (eC (.str "old")) (aCons (eC (.str "shr")) (aNil)))))) (tNotD (tVal (eVar 4)))) (sRet (eTup (aCons (eC (.str "lacks")) (aCons (eVar 2) (aNil))))) (sNext)) (
    sIf (tAndD (tVal (eBin oEq (eBin oIx (eVar 3) (eC (.int 1))) (eC (.str "new")))) (tVal (eVar 4))) (sRet (eTup (aCons (eC (.str "there")) (aCons (eVar 2) (aNil))))) (sNext))))
theorem in_oldshr (m : Mem) (s : Str) : oIn false m (.str s) (.tup [.str "old", .str "shr"]) = .ok (.bl (decide (s = "old" ∨ s = "shr"))) m := by
  have := oIn_tstr (m := m) (s := s) false ["old", "shr"]
  simp at this
  rw [this]
  simp
theorem bar_loop (m : Mem) (dk : D) (s : RS) (a1 : Option D) : ∀ (ks : List CardT) (n : Nat) (x2 x3 x4 : Option D), (∀ c ∈ ks, c.ok) →
    ∃ fl, loopD free (gT [2, 3]) barBody (enumD n (ks.map CardT.d)) [some (.ref m.length), a1, x2, x3, x4] (rmem m dk s) = .ok fl (rmem m dk s) ∧ (match barL (hasA s.files) n ks with
      | none => ∃ e, fl = .nx e
      | some o => fl = .rt o.d)
  | [], n, x2, x3, x4, _ => ⟨_, rfl, _, rfl⟩
  | c :: ks, n, x2, x3, x4, h => by
    have ok := h c (by simp)
    have e2 : oEq (rmem m dk s) (.str c.bg) (.str "new") = .ok (.bl (decide (c.bg = "new"))) (rmem m dk s) := oEq_str (strOk_mem ok.bg (by decide +kernel)) (by decide +kernel)
    have body : barBody [some (.ref m.length), a1, some (.int n), some c.d, x4] (rmem m dk s) = .ok (if (c.bg = "old" ∨ c.bg = "shr") ∧ hasA s.files c.nm = false then .rt (OutT.lacks n).d else if c.bg = "new" ∧ hasA s.files c.nm = true then .rt (OutT.there n).d else .nx [some (.ref m.length), a1, some (.int n), some c.d, some (.bl (hasA s.files c.nm))]) (rmem m dk s) := by
      have e3 : valD (filesC s.files) (Sum.inr c.nm) = (getA s.files c.nm).map fileV := valD_enc inr_inj s.files c.nm
      have e4 : ((getA s.files c.nm).map fileV).isSome = hasA s.files c.nm := by simp [hasA]
      have hb := ok.bg
      simp [wBegins] at hb
      clear e2
      rcases hb with e | e | e | e <;> cases hh : hasA s.files c.nm <;> simp [CardT.d, runF, lookF, dDict, e3, e4, e, hh, in_oldshr, OutT.d]
    rw [List.map_cons]
    unfold enumD
    rw [loop_cons, if_pos (show free (rmem m dk s) = true from rfl)]
    simp only [gT_z, gVs_cons, gVs_nil, List.set_cons_succ, List.set_cons_zero]
    rw [body]
    unfold barL
    by_cases h1 : (c.bg = "old" ∨ c.bg = "shr") ∧ hasA s.files c.nm = false
    · rw [if_pos h1, if_pos h1]
      exact ⟨_, rfl, rfl⟩
    · rw [if_neg h1, if_neg h1]
      by_cases h2 : c.bg = "new" ∧ hasA s.files c.nm = true
      · rw [if_pos h2, if_pos h2]
        exact ⟨_, rfl, rfl⟩
      · rw [if_neg h2, if_neg h2]
        exact bar_loop m dk s a1 ks (n + 1) _ _ _ (fun c hc => h c (by simp [hc]))
end DL

namespace DL
open PySem L2
@[simp] theorem fin_rm (m : Mem) (dk : D) (s s' : RS) (d : D) : fin (rmem m dk s) d (rmem m dk s') = .ok d (rmem m dk s') := fin_len (by rw [rmlen, rmlen])
theorem rms1 (m : Mem) (dk : D) (s : RS) (l : List (Str × (List Int × Bool))) : (rmem m dk s).set (m.length + 1) (.dct (filesC l)) = rmem m dk { s with files := l } := by
  unfold rmem
  rw [set_off]
  rfl
theorem rms2 (m : Mem) (dk : D) (s : RS) (l : List (Int × Int)) : (rmem m dk s).set (m.length + 2) (.dct (codesC l)) = rmem m dk { s with codes := l } := by
  unfold rmem
  rw [set_off]
  rfl
theorem rms3 (m : Mem) (dk : D) (s : RS) (l : List OutT) : (rmem m dk s).set (m.length + 3) (.lst (l.map OutT.d)) = rmem m dk { s with outs := l } := by
  unfold rmem
  rw [set_off]
  rfl
theorem rms4 (m : Mem) (dk : D) (s : RS) (l : List (Int × Str × List Int)) : (rmem m dk s).set (m.length + 4) (.lst (l.map seenD)) = rmem m dk { s with seen := l } := by
  unfold rmem
  rw [set_off]
  rfl
theorem rms0 (m : Mem) (dk : D) (s : RS) (b : Bool) : (rmem m dk s).set m.length (runF m.length dk b) = rmem m dk { s with bad := b } := by
  unfold rmem
  rw [set_off0]
theorem app3 (m : Mem) (dk : D) (s : RS) (o : OutT) (h : s.outs.length < 1000000) : mApp (rmem m dk s) (.ref (m.length + 3)) [o.d] = .ok .non (rmem m dk { s with outs := s.outs ++ [o] }) := by
  have e : s.outs.map OutT.d ++ [o.d] = (s.outs ++ [o]).map OutT.d := by simp
  simp only [mApp, dOwn, rm3]
  rw [if_pos (by rw [List.length_map]; exact h), e, rms3]
theorem app4 (m : Mem) (dk : D) (s : RS) (o : Int × Str × List Int) (h : s.seen.length < 1000000) : mApp (rmem m dk s) (.ref (m.length + 4)) [seenD o] = .ok .non (rmem m dk { s with seen := s.seen ++ [o] }) := by
  have e : s.seen.map seenD ++ [seenD o] = (s.seen ++ [o]).map seenD := by simp
  simp only [mApp, dOwn, rm4]
  rw [if_pos (by rw [List.length_map]; exact h), e, rms4]
def fileAt (l : List (Str × (List Int × Bool))) (n : Str) : List Int × Bool := (getA l n).getD ([], false)
def lastW (good : Bool) (c : CardT) : Str := if good = true then c.gd else c.bd
def rowsN (num : Int) (good : Bool) (c : CardT) (r : List Int) : List Int := if c.bg = "shr" then r else r ++ [if good = true then num else -1 - num]
def sees (l : List (Str × (List Int × Bool))) (c : CardT) : Bool := decide (c.bg = "old" ∨ c.bg = "shr") || (decide (c.bg = "mod") && hasA l c.nm)
def useT (num : Int) (good : Bool) (s : RS) (c : CardT) : RS :=
  { s with
    seen := if sees s.files c = true then s.seen ++ [(num, c.nm, (fileAt s.files c.nm).1)] else s.seen
    files := if lastW good c = "drop" then dropA s.files c.nm else putA s.files c.nm (rowsN num good c (fileAt s.files c.nm).1, (fileAt s.files c.nm).2 || decide (lastW good c = "keep")) }
abbrev useE : SDen := sSeq (sAsg (gV 10) (eIf (tVal (eVar 3)) (eVar 6) (eVar 7))) (
    sIf (tVal (eBin oEq (eVar 10) (eC (.str "drop")))) (sDrop (eDPop2 (eFld "Run" "files" (eVar 0)) (eVar 4) (eC .non))) (sPutD (eFld "Run" "files" (eVar 0)) (eVar 4) (eTup (aCons (eVar 8) (aCons (eOr (eVar 9) (eBin oEq (eVar 10) (eC (.str "keep")))) (aNil))))))
theorem dropA_no {κ α : Type} [DecidableEq κ] : ∀ (l : List (κ × α)) (k : κ), getA l k = none → dropA l k = l
  | [], _, _ => rfl
  | (k', d) :: r, k, h => by
    unfold getA at h
    by_cases q : k' = k
    · rw [if_pos q] at h
      cases h
    · rw [if_neg q] at h
      have := dropA_no r k h
      unfold dropA at this ⊢
      rw [List.filter_cons, if_pos (by simpa using q), this]
theorem use_end (m : Mem) (dk : D) (s : RS) (c : CardT) (hc : c.ok) (num : Int) (good : Bool) (rows : List Int) (kept : Bool) (x10 : Option D) (hf : s.files.length < 1000000) :
    ∃ e, useE [some (.ref m.length), some (.int num), some c.d, some (.bl good), some (.str c.nm), some (.str c.bg), some (.str c.gd), some (.str c.bd), some (rowsD rows), some (.bl kept), x10] (rmem m dk s) =
      .ok (.nx e) (rmem m dk { s with files := if lastW good c = "drop" then dropA s.files c.nm else putA s.files c.nm (rows, kept || decide (lastW good c = "keep")) }) := by
  have w : lastW good c ∈ wGoods := by
    unfold lastW
    cases good with
    | true => exact hc.gd
    | false =>
      have := hc.bd
      simp [wBads] at this
      simp [wGoods]
      rcases this with h | h <;> simp [h]
  have hl : (filesC s.files).length < 1000000 := by simpa [filesC, encF] using hf
  have p1 : ∀ v, (filesC s.files).length < 1000000 → putD (filesC s.files) (.inr c.nm) (fileV v) = filesC (putA s.files c.nm v) := fun v _ => putD_enc inr_inj s.files c.nm v
  have p2 : dropD (filesC s.files) (.inr c.nm) = filesC (dropA s.files c.nm) := dropD_enc inr_inj s.files c.nm
  have p3 : valD (filesC s.files) (.inr c.nm) = (getA s.files c.nm).map fileV := valD_enc inr_inj s.files c.nm
  have sel : (eIf (tVal (eVar 3)) (eVar 6) (eVar 7)) [some (.ref m.length), some (.int num), some c.d, some (.bl good), some (.str c.nm), some (.str c.bg), some (.str c.gd), some (.str c.bd), some (rowsD rows), some (.bl kept), x10] (rmem m dk s) = .ok (.str (lastW good c)) (rmem m dk s) := by
    cases good <;> simp [lastW]
  refine ⟨[some (.ref m.length), some (.int num), some c.d, some (.bl good), some (.str c.nm), some (.str c.bg), some (.str c.gd), some (.str c.bd), some (rowsD rows), some (.bl kept), some (.str (lastW good c))], ?_⟩
  unfold useE
  rw [sSeq_z, sAsg_z, sel]
  simp [wGoods] at w
  rcases w with e | e | e
  · have k := p1 (rows, kept || true) hl
    unfold fileV at k
    cases kept <;> simp [e, runF, lookF, dDict, hl] at k ⊢ <;> rw [k, rms1]
  · cases g : getA s.files c.nm with
    | none =>
      rw [g] at p3
      simp [e, runF, lookF, dDict, p3]
      rw [dropA_no _ _ g]
    | some v =>
      rw [g] at p3
      simp [e, runF, lookF, dDict, p3]
      rw [p2, rms1]
  · have k := p1 (rows, kept || false) hl
    unfold fileV at k
    cases kept <;> simp [e, runF, lookF, dDict, hl] at k ⊢ <;> rw [k, rms1]
end DL

namespace DL
open PySem L2
structure RSb (n : Nat) (s : RS) : Prop where
  files : s.files.length ≤ n
  rows : ∀ f ∈ s.files, f.2.1.length ≤ n
  seen : s.seen.length ≤ n
  outs : s.outs.length ≤ n
theorem getA_in {κ α : Type} [DecidableEq κ] : ∀ {l : List (κ × α)} {k : κ} {v : α}, getA l k = some v → (k, v) ∈ l
  | [], _, _, h => by cases h
  | (k', d) :: r, k, v, h => by
    unfold getA at h
    by_cases q : k' = k
    · rw [if_pos q] at h
      cases h
      subst q
      exact List.mem_cons_self
    · rw [if_neg q] at h
      exact List.mem_cons_of_mem _ (getA_in h)
theorem fileAt_le {s : RS} {k : Nat} (h : RSb k s) (n : Str) : (fileAt s.files n).1.length ≤ k := by
  unfold fileAt
  cases g : getA s.files n with
  | none => simp
  | some v => exact h.rows _ (getA_in g)

theorem putA_len {κ α : Type} [DecidableEq κ] (l : List (κ × α)) (k : κ) (v : α) : (putA l k v).length ≤ l.length + 1 := by
  unfold putA
  split <;> simp
theorem putA_mem {κ α : Type} [DecidableEq κ] {l : List (κ × α)} {k : κ} {v : α} {p : κ × α} (h : p ∈ putA l k v) : p ∈ l ∨ p.2 = v := by
  unfold putA at h
  split at h
  · obtain ⟨q, hq, e⟩ := List.mem_map.mp h
    by_cases z : q.1 = k
    · rw [if_pos z] at e
      exact .inr (by rw [← e])
    · rw [if_neg z] at e
      exact .inl (by rw [← e]; exact hq)
  · rcases List.mem_append.mp h with h | h
    · exact .inl h
    · simp at h
      exact .inr (by rw [h])
theorem useT_b {n : Nat} {s : RS} (h : RSb n s) (num : Int) (good : Bool) (c : CardT) : RSb (n + 1) (useT num good s c) := by
  have h1 := h.files
  have h2 := h.seen
  have h3 := h.outs
  have hr := fileAt_le h c.nm
  refine ⟨?_, fun f hf => ?_, ?_, by simpa [useT] using Nat.le_succ_of_le h3⟩
  · have a := putA_len s.files c.nm (rowsN num good c (fileAt s.files c.nm).1, (fileAt s.files c.nm).2 || decide (lastW good c = "keep"))
    have b : (dropA s.files c.nm).length ≤ s.files.length := List.length_filter_le _ _
    simp only [useT]
    split <;> omega
  · simp only [useT] at hf
    split at hf
    · have := h.rows f (List.mem_filter.mp hf).1
      omega
    · rcases putA_mem hf with hf | e
      · have := h.rows f hf
        omega
      · rw [e]
        simp only [rowsN]
        split
        · omega
        · simp
          omega
  · simp only [useT]
    split
    · simp
      omega
    · omega
theorem useT_keep (num : Int) (good : Bool) (s : RS) (c : CardT) : (useT num good s c).codes = s.codes ∧ (useT num good s c).bad = s.bad ∧ (useT num good s c).outs = s.outs := ⟨rfl, rfl, rfl⟩
theorem fold_keep (num : Int) (good : Bool) : ∀ (ks : List CardT) (s : RS), (ks.foldl (useT num good) s).codes = s.codes ∧ (ks.foldl (useT num good) s).bad = s.bad ∧ (ks.foldl (useT num good) s).outs = s.outs
  | [], s => ⟨rfl, rfl, rfl⟩
  | c :: ks, s => by
    have := fold_keep num good ks (useT num good s c)
    exact this
theorem fold_b {num : Int} {good : Bool} : ∀ (ks : List CardT) {n : Nat} {s : RS}, RSb n s → RSb (n + ks.length) (ks.foldl (useT num good) s)
  | [], n, s, h => h
  | c :: ks, n, s, h => by
    have := fold_b (num := num) (good := good) ks (useT_b h num good c)
    rw [List.length_cons, show n + (ks.length + 1) = n + 1 + ks.length by omega]
    exact this
theorem oIsN_opt (m : Mem) (e : Option Int) : oIsNot m (optD e) .non = .ok (.bl e.isSome) m := by cases e <;> rfl
theorem oIs_opt (m : Mem) (e : Option Int) : oIs m (optD e) .non = .ok (.bl e.isNone) m := by cases e <;> rfl
def stepP (num : Int) (st : StepT) (e : Option Int) (s : RS) : OutT × RS :=
  match passT s st with
  | some o => (o, s)
  | none => match barL (hasA s.files) 0 st.ks with
    | some o => (o, { s with bad := true })
    | none => match e with
      | none => (.fails, { st.ks.foldl (useT num false) s with bad := true })
      | some v => (.ran v, { st.ks.foldl (useT num true) s with codes := putA s.codes num v })
def outT (p : OutT × RS) : RS := { p.2 with outs := p.2.outs ++ [p.1] }
def stepT (num : Int) (st : StepT) (e : Option Int) (s : RS) : RS := outT (stepP num st e s)
theorem oIs_optO (m : Mem) (e : Option OutT) : oIs m (optO e) .non = .ok (.bl e.isNone) m := by
  cases e with
  | none => rfl
  | some o => cases o <;> rfl
theorem oIsN_optO (m : Mem) (e : Option OutT) : oIsNot m (optO e) .non = .ok (.bl e.isSome) m := by
  cases e with
  | none => rfl
  | some o => cases o <;> rfl
theorem fldBad (m : Mem) (dk : D) (s : RS) (e : Sl) (h0 : e[0]? = some (some (.ref m.length))) : (sFldD "Run" "is_failed" (eVar 0) (eC (.bl true))) e (rmem m dk s) = .ok (.nx e) (rmem m dk { s with bad := true }) := by
  have := rms0 m dk s true
  unfold runF at this
  simp [h0, runF, putFD, this]
theorem putCodes (m : Mem) (dk : D) (s : RS) (e : Sl) (i v : Int) (h0 : e[0]? = some (some (.ref m.length))) (h1 : e[1]? = some (some (.int i))) (h2 : e[2]? = some (some (.int v))) (hl : s.codes.length < 1000000) : (sPutD (eFld "Run" "codes" (eVar 0)) (eVar 1) (eVar 2)) e (rmem m dk s) = .ok (.nx e) (rmem m dk { s with codes := putA s.codes i v }) := by
  have p : putD (codesC s.codes) (.inl i) (.int v) = codesC (putA s.codes i v) := putD_enc inl_inj s.codes i v
  have l : (codesC s.codes).length < 1000000 := by simpa [codesC, encF] using hl
  simp [h0, h1, h2, runF, lookF, dDict, l, p, rms2]
end DL

namespace DL
open PySem L2
theorem stepP_outs (i : Int) (st : StepT) (en : Option Int) (s : RS) : (stepP i st en s).2.outs = s.outs := by
  unfold stepP
  cases passT s st with
  | some o => rfl
  | none =>
    cases barL (hasA s.files) 0 st.ks with
    | some o => rfl
    | none =>
      cases en with
      | none => exact (fold_keep i false st.ks s).2.2
      | some v => exact (fold_keep i true st.ks s).2.2
/-! what is left: kept files in order -/
def leftT (files : List (Str × (List Int × Bool))) : List (Str × List Int) := ((srtS (files.map (·.1))).filter fun n => (fileAt files n).2).map fun n => (n, (fileAt files n).1)
def leftD (x : Str × List Int) : D := .tup [.str x.1, rowsD x.2]
theorem getA_has {κ α : Type} [DecidableEq κ] : ∀ {l : List (κ × α)} {k : κ}, k ∈ l.map (·.1) → ∃ v, getA l k = some v
  | (k', d) :: r, k, h => by
    unfold getA
    by_cases q : k' = k
    · exact ⟨d, by rw [if_pos q]⟩
    · rw [if_neg q]
      rcases List.mem_cons.mp h with e | h
      · exact absurd e.symm q
      · exact getA_has h
theorem left_comp (m : Mem) (dk : D) (s : RS) (hl : s.files.length < 64) (gd : Mem → Bool) (hg : gd (rmem m dk s) = true) :
    compD gd (gV 1) (tVal (eBin oIx (eDGet (eFld "Run" "files" (eVar 0)) (eVar 1)) (eC (.int 1)))) (eTup (aCons (eVar 1) (aCons (eBin oIx (eDGet (eFld "Run" "files" (eVar 0)) (eVar 1)) (eC (.int 0))) (aNil)))) [some (.ref m.length), none] ((srtS (s.files.map (·.1))).map D.str) (rmem m dk s) [] = .ok ((leftT s.files).map leftD) (rmem m dk s) := by
  rw [comp_mapT D.str (fun n => [some (.ref m.length), some (.str n)]) (fun n => (fileAt s.files n).2) (fun n => leftD (n, (fileAt s.files n).1)) hg]
  · simp [leftT, List.map_map, Function.comp_def]
  · intro n hn
    obtain ⟨v, hv⟩ := getA_has ((srtS_perm _).subset hn)
    have p3 : valD (filesC s.files) (.inr n) = (getA s.files n).map fileV := valD_enc inr_inj s.files n
    rw [hv] at p3
    refine ⟨rfl, ?_, fun _ => ?_⟩
    · simp [runF, lookF, dDict, p3, fileV, fileAt, hv]
    · simp [runF, lookF, dDict, p3, fileV, fileAt, hv, leftD]
  · rw [(srtS_perm _).length_eq]
    simp
    omega
/-! a new run -/
def newRun (fs : List FileT) : RS := { files := fs.map fun f => (f.nm, (f.rows, true)), codes := [], bad := false, outs := [], seen := [] }
theorem merge_new {α : Type} (vf : α → D) : ∀ (l : List (Str × α)) (acc : List (Key × D)), (l.map (·.1)).Nodup → (∀ p ∈ l, ∀ q ∈ acc, q.1 ≠ .inr p.1) → mergeD acc (encF Sum.inr vf l) = acc ++ encF Sum.inr vf l
  | [], acc, _, _ => by simp [encF, mergeD]
  | (k, v) :: l, acc, nd, h => by
    have nd' : (k :: l.map (·.1)).Nodup := nd
    obtain ⟨n1, n2⟩ := List.nodup_cons.mp nd'
    have e : putD acc (.inr k) (vf v) = acc ++ [(.inr k, vf v)] := by
      unfold putD
      rw [if_neg]
      intro z
      obtain ⟨q, hq, e⟩ := List.any_eq_true.mp z
      exact h (k, v) (by simp) q hq (of_decide_eq_true e)
    have ih := merge_new vf l (acc ++ [(.inr k, vf v)]) n2 (fun p hp q hq => by
      rcases List.mem_append.mp hq with hq | hq
      · exact h p (by simp [hp]) q hq
      · simp at hq
        subst hq
        intro z
        have z' : k = p.1 := by simpa using z
        exact n1 (by rw [z']; exact List.mem_map_of_mem hp))
    have e2 : mergeD acc (encF Sum.inr vf ((k, v) :: l)) = mergeD (putD acc (.inr k) (vf v)) (encF Sum.inr vf l) := rfl
    rw [e2, e, ih]
    simp [encF]
theorem pairs_enc {α : Type} (vf : α → D) : ∀ (l : List (Str × α)), pairsD (l.map fun p => .tup [.str p.1, vf p.2]) = some (encF Sum.inr vf l)
  | [] => rfl
  | (k, v) :: l => by
    simp [pairsD, pairs_enc vf l, encF]
theorem asc_nodup : ∀ {fs : List FileT} {p : Str}, ascS p fs → (fs.map (·.nm)).Nodup ∧ ∀ f ∈ fs, p.cps.toList < f.nm.cps.toList
  | [], _, _ => ⟨by simp, fun f h => by cases h⟩
  | f :: fs, p, h => by
    obtain ⟨h1, h2⟩ := h
    obtain ⟨a, b⟩ := asc_nodup h2
    refine ⟨?_, fun g hg => ?_⟩
    · rw [List.map_cons, List.nodup_cons]
      refine ⟨fun z => ?_, a⟩
      obtain ⟨g, hg, e⟩ := List.mem_map.mp z
      have := b g hg
      rw [e] at this
      exact List.lt_irrefl _ this
    · rcases List.mem_cons.mp hg with rfl | hg
      · exact h1
      · exact List.lt_trans h1 (b g hg)
end DL

namespace DL
open PySem L2
/-- files that a run may begin with -/
structure FilesW (fs : List FileT) : Prop where
  le : fs.length ≤ 36
  rows : ∀ f ∈ fs, f.rows.length ≤ 100
  nd : (fs.map (·.nm)).Nodup
  nm : ∀ f ∈ fs, PyData.strOk f.nm = true
theorem FilesOk.w {fs : List FileT} (h : FilesOk fs) : FilesW fs := ⟨by have := h.le; omega, fun f hf => by have := (h.all f hf).le; omega, (asc_nodup h.asc).1, fun f hf => strOk_abc (h.all f hf).nm⟩
instance {fs : List FileT} : Coe (FilesOk fs) (FilesW fs) := ⟨FilesOk.w⟩
/-! all steps -/
def goRun (at_ : Int) : Nat → List StepT → List (Option Int) → RS → RS
  | i, st :: r, en :: es, s => goRun at_ (i + 1) r es (if (i : Int) < at_ then outT (.ahead, s) else stepT i st en s)
  | _, _, _, s => s
structure CB (i : Nat) (codes : List (Int × Int)) : Prop where
  up : (codes.map (·.1)).Pairwise (· < ·)
  lt : ∀ kv ∈ codes, kv.1 < i
  le : codes.length ≤ i
theorem CB.ok {i : Nat} {codes : List (Int × Int)} (h : CB i codes) (hi : i < 64) : CodesOk codes := ⟨h.up, Nat.lt_of_le_of_lt h.le hi⟩
theorem CB.next {i : Nat} {codes : List (Int × Int)} (h : CB i codes) : CB (i + 1) codes := ⟨h.up, fun kv hk => by have := h.lt kv hk; omega, Nat.le_succ_of_le h.le⟩
theorem CB.put_eq {i : Nat} {codes : List (Int × Int)} (h : CB i codes) (v : Int) : putA codes i v = codes ++ [((i : Int), v)] := by
  unfold putA
  rw [if_neg]
  intro z
  obtain ⟨q, hq, e⟩ := List.any_eq_true.mp z
  have := h.lt q hq
  have e' := of_decide_eq_true e
  omega
theorem CB.put {i : Nat} {codes : List (Int × Int)} (h : CB i codes) (v : Int) : CB (i + 1) (putA codes i v) := by
  rw [h.put_eq]
  refine ⟨?_, fun kv hk => ?_, ?_⟩
  · rw [List.map_append, List.pairwise_append]
    refine ⟨h.up, by simp, fun a ha b hb => ?_⟩
    obtain ⟨kv, hkv, rfl⟩ := List.mem_map.mp ha
    simp at hb
    subst hb
    exact h.lt kv hkv
  · rcases List.mem_append.mp hk with hk | hk
    · have := h.lt kv hk
      omega
    · simp at hk
      subst hk
      show (i : Int) < _
      omega
  · have := h.le
    simp
    omega
theorem useT_files (num : Int) (good : Bool) (s : RS) (c : CardT) : (useT num good s c).files.length ≤ s.files.length + 1 := by
  have a := putA_len s.files c.nm (rowsN num good c (fileAt s.files c.nm).1, (fileAt s.files c.nm).2 || decide (lastW good c = "keep"))
  have b : (dropA s.files c.nm).length ≤ s.files.length := List.length_filter_le _ _
  simp only [useT]
  split <;> omega
theorem fold_files (num : Int) (good : Bool) : ∀ (ks : List CardT) (s : RS), (ks.foldl (useT num good) s).files.length ≤ s.files.length + ks.length
  | [], s => Nat.le_refl _
  | c :: ks, s => by
    have a := useT_files num good s c
    have b := fold_files num good ks (useT num good s c)
    rw [List.length_cons]
    show (ks.foldl (useT num good) (useT num good s c)).files.length ≤ _
    omega
structure RSI (i : Nat) (s : RS) : Prop where
  cb : CB i s.codes
  rb : RSb (100 + 5 * i) s
  fl : s.files.length ≤ 36 + 4 * i
theorem RSb.up {n k : Nat} {s : RS} (h : RSb n s) (hk : n ≤ k) : RSb k s := ⟨Nat.le_trans h.files hk, fun f hf => Nat.le_trans (h.rows f hf) hk, Nat.le_trans h.seen hk, Nat.le_trans h.outs hk⟩
theorem outT_b {n : Nat} {o : OutT} {s : RS} (h : RSb n s) : RSb (n + 1) (outT (o, s)) := by
  have := h.up (Nat.le_succ n)
  refine ⟨this.files, this.rows, this.seen, ?_⟩
  have := h.outs
  simp [outT]
  omega
theorem stepP_I {i : Nat} {s : RS} (h : RSI i s) {st : StepT} (hst : st.ok i) (en : Option Int) : CB (i + 1) (stepP i st en s).2.codes ∧ RSb (100 + 5 * i + 4) (stepP i st en s).2 ∧ (stepP i st en s).2.files.length ≤ 36 + 4 * i + 4 := by
  have lk := hst.lk
  have f := h.fl
  unfold stepP
  cases passT s st with
  | some o => exact ⟨h.cb.next, h.rb.up (by omega), by simpa using (by omega : s.files.length ≤ 36 + 4 * i + 4)⟩
  | none =>
    cases barL (hasA s.files) 0 st.ks with
    | some o => 
      have r := h.rb.up (k := 100 + 5 * i + 4) (by omega)
      exact ⟨h.cb.next, ⟨r.files, r.rows, r.seen, r.outs⟩, by simpa using (by omega : s.files.length ≤ 36 + 4 * i + 4)⟩
    | none =>
      cases en with
      | none =>
        have fk := fold_keep i false st.ks s
        have ff := fold_files i false st.ks s
        have fb := (fold_b (num := i) (good := false) st.ks h.rb).up (k := 100 + 5 * i + 4) (by omega)
        exact ⟨by simpa [fk.1] using h.cb.next, ⟨fb.files, fb.rows, fb.seen, fb.outs⟩, by simpa using (by omega : (st.ks.foldl (useT i false) s).files.length ≤ 36 + 4 * i + 4)⟩
      | some v =>
        have ff := fold_files i true st.ks s
        have fb := (fold_b (num := i) (good := true) st.ks h.rb).up (k := 100 + 5 * i + 4) (by omega)
        exact ⟨h.cb.put v, ⟨fb.files, fb.rows, fb.seen, fb.outs⟩, by simpa using (by omega : (st.ks.foldl (useT i true) s).files.length ≤ 36 + 4 * i + 4)⟩
theorem stepT_I {i : Nat} {s : RS} (h : RSI i s) {st : StepT} (hst : st.ok i) (en : Option Int) : RSI (i + 1) (stepT i st en s) := by
  obtain ⟨a, b, c⟩ := stepP_I h hst en
  have d := outT_b (o := (stepP i st en s).1) b
  exact ⟨a, d.up (by omega), by simpa [stepT, outT] using (by omega : (stepP i st en s).2.files.length ≤ 36 + 4 * (i + 1))⟩
theorem aheadT_I {i : Nat} {s : RS} (h : RSI i s) : RSI (i + 1) (outT (.ahead, s)) := by
  have f := h.fl
  exact ⟨h.cb.next, (outT_b h.rb).up (by omega), by simpa [outT] using (by omega : s.files.length ≤ 36 + 4 * (i + 1))⟩
theorem newRun_I {fs : List FileT} (h : FilesW fs) : RSI 0 (newRun fs) := by
  have le := h.le
  refine ⟨⟨List.Pairwise.nil, fun _ h => (by cases h), Nat.le_refl _⟩, ⟨?_, fun f hf => ?_, Nat.zero_le _, Nat.zero_le _⟩, ?_⟩
  · simp [newRun]
    omega
  · obtain ⟨g, hg, rfl⟩ := List.mem_map.mp hf
    have := h.rows g hg
    simpa using this
  · simpa [newRun] using le
theorem rngD_succ (lo : Int) (n : Nat) : rngD lo (n + 1) = .int lo :: rngD (lo + 1) n := by
  unfold rngD
  rw [List.range_succ_eq_map, List.map_cons, List.map_map]
  congr 1
  · simp
  · apply List.map_congr_left
    intro i _
    simp [Function.comp_def]
    omega
theorem goRun_I {deck : List StepT} (hd : DeckOk deck) (at_ : Int) : ∀ (rest : List StepT) (es : List (Option Int)) (i : Nat) (s : RS), deck.drop i = rest → es.length = rest.length → RSI i s → RSI (i + rest.length) (goRun at_ i rest es s)
  | [], es, i, s, _, _, h => by cases es <;> exact h
  | st :: rest, [], i, s, _, hl, _ => by cases hl
  | st :: rest, en :: es, i, s, h1, hl, hI => by
    have d1 : deck[i]? = some st := by
      have := congrArg (fun l => l[0]?) h1
      simpa [List.getElem?_drop] using this
    have e1 : deck.drop (i + 1) = rest := by rw [← List.tail_drop, h1]; rfl
    have := goRun_I hd at_ rest es (i + 1) (if (i : Int) < at_ then outT (.ahead, s) else stepT i st en s) e1 (by simpa using hl) (by
      by_cases hi : (i : Int) < at_
      · rw [if_pos hi]
        exact aheadT_I hI
      · rw [if_neg hi]
        exact stepT_I hI (hd.st i st d1) en)
    rw [List.length_cons, show i + (rest.length + 1) = i + 1 + rest.length by omega]
    exact this
/-- the run of a deck -/
def runT (deck : List StepT) (fs : List FileT) (ends : List (Option Int)) (at_ : Int) : RS := goRun at_ 0 deck ends (newRun fs)
end DL

namespace DL
open PySem L2
/-! ## the law's own draws -/
def hst (cells : List Int) (mix at_ : Int) : Mem := [.lst (cells.map D.int), .lst [.int mix, .ref 0, .int at_]]
def HM (rest m : Mem) : Prop := ∃ cells mix at_, m = hst cells mix at_ ++ rest
theorem HM.len {rest m : Mem} (h : HM rest m) : m.length = 2 + rest.length := by
  obtain ⟨c, x, a, rfl⟩ := h
  simp [hst]
  omega
theorem HM.get {rest l m : Mem} (h : HM (rest ++ l) m) (i : Nat) : m[2 + rest.length + i]? = l[i]? := by
  obtain ⟨c, x, a, rfl⟩ := h
  rw [List.getElem?_append_right (by simp [hst]; omega)]
  rw [show 2 + rest.length + i - (hst c x a).length = rest.length + i by simp [hst]; omega]
  exact mem_off rest l i
theorem HM.set {rest l m : Mem} (h : HM (rest ++ l) m) (i : Nat) (c : MO) : HM (rest ++ l.set i c) (m.set (2 + rest.length + i) c) := by
  obtain ⟨cs, x, a, rfl⟩ := h
  refine ⟨cs, x, a, ?_⟩
  rw [List.set_append_right _ _ (by simp [hst]; omega)]
  rw [show 2 + rest.length + i - (hst cs x a).length = rest.length + i by simp [hst]; omega]
  rw [set_off]
theorem HM.new {rest m : Mem} (h : HM rest m) (c : MO) : HM (rest ++ [c]) (m ++ [c]) := by
  obtain ⟨cs, x, a, rfl⟩ := h
  exact ⟨cs, x, a, by simp⟩
def LowR (rest : Mem) : Prop := rest.all (lowM (2 + rest.length)) = true
theorem lowM_up {k n : Nat} (h : k ≤ n) : ∀ {c : MO}, lowM k c = true → lowM n c = true := by
  have key : ∀ d : D, low k d = true → low n d = true := by
    intro d
    induction d using D.rec (motive_2 := fun ds => lowL k ds = true → lowL n ds = true) with
    | ref i => intro q; exact decide_eq_true (Nat.lt_of_lt_of_le (of_decide_eq_true q) h)
    | tup xs ih => exact ih
    | lst xs ih => exact ih
    | nil => rfl
    | cons d ds i1 i2 =>
      rename_i q
      rw [lowL_cons, Bool.and_eq_true] at q ⊢
      exact ⟨i1 q.1, i2 q.2⟩
    | _ => intro _; rfl
  have keyL : ∀ ds : List D, lowL k ds = true → lowL n ds = true := by
    intro ds
    induction ds with
    | nil => intro _; rfl
    | cons d ds ih =>
      intro q
      rw [lowL_cons, Bool.and_eq_true] at q ⊢
      exact ⟨key d q.1, ih q.2⟩
  intro c
  cases c with
  | lst ds => exact keyL ds
  | dct kvs => exact keyL _
  | ins c fs => exact keyL _
  | dead => intro _; rfl
theorem lowL_ints (k : Nat) (xs : List Int) : lowL k (xs.map D.int) = true := by
  induction xs with
  | nil => rfl
  | cons x xs ih => simp [ih]
/-- the end of a def that drew -/
theorem HM.fin {rest m0 m : Mem} (h0 : HM rest m0) {l : Mem} (h : HM (rest ++ l) m) (hr : LowR rest) {d : D} {n : Nat} (hd : gdD n d = true) : ∃ m', fin m0 d m = .ok d m' ∧ HM rest m' := by
  have hl := h0.len
  obtain ⟨cs, x, a, rfl⟩ := h
  refine ⟨hst cs x a ++ rest, ?_, cs, x, a, rfl⟩
  rw [← List.append_assoc]
  refine fin_low (gd_low _ n d hd) ?_ ?_
  · rw [hl]
    simp [hst]
    omega
  · rw [hl]
    unfold LowR at hr
    simp only [List.all_append, hr, Bool.and_true]
    simp [hst, lowM, lowL_ints, low]
    omega
theorem oNe_ref {m : Mem} {n : Nat} {xs : List D} {b : D} {k j : Nat} (hm : m[n]? = some (.lst xs)) (h : gdL k xs = true) (h2 : gdD j b = true) (hk : k < 64) (hj : j ≤ 64) : oNe m (.ref n) b = .ok (.bl (!decide (.lst xs = b))) m := by
  have v : view m (.ref n) = some (.lst xs) := by simp [view, hm]
  have g : gdD (k + 1) (.lst xs) = true := by rw [gd_lst]; exact h
  unfold oNe
  rw [v, gd_view h2]
  simp only [gd_okP g hk, gd_okP h2 hj, eqv_gd _ _ _ _ g h2]
  rfl
theorem oPow_18 (m : Mem) : oPow m (.int 10) (.int 18) = .ok (.int 1000000000000000000) m := by
  have e : ((10 : Int) ^ (18 : Int).toNat) = 1000000000000000000 := by decide
  simp [oPow, e]
theorem ixN_nat {n i : Nat} (h : i < n) : ixN n (i : Int) = some i := by
  unfold ixN
  rw [if_pos (by omega), if_pos (by omega)]
  simp
@[simp] theorem ixN_0 (n : Nat) : ixN (n + 1) 0 = some 0 := ixN_nat (n := n + 1) (i := 0) (by omega)
@[simp] theorem ixN_2 (n : Nat) : ixN (n + 3) 2 = some 2 := ixN_nat (n := n + 3) (i := 2) (by omega)
theorem mod_nat {a b : Int} (h : 0 < b) : ∃ r : Nat, a % b = r ∧ (r : Int) < b := by
  have h1 := Int.emod_nonneg a (by omega : b ≠ 0)
  have h2 := Int.emod_lt_of_pos a h
  exact ⟨(a % b).toNat, by omega, by omega⟩
theorem z_next {rest m : Mem} (h : HM rest m) {many : Int} (h0 : 0 < many) (h1 : many < 1073741824) : ∃ (r : Nat) (m' : Mem), d_law_next [.ref 1, .int many] m = .ok (.int r) m' ∧ HM rest m' ∧ (r : Int) < many := by
  obtain ⟨cells, mix, at_, rfl⟩ := h
  have g0 : (hst cells mix at_ ++ rest)[0]? = some (.lst (cells.map D.int)) := rfl
  have g1 : (hst cells mix at_ ++ rest)[1]? = some (.lst [.int mix, .ref 0, .int at_]) := rfl
  have ne : oNe (hst cells mix at_ ++ rest) (.ref 0) (.lst []) = .ok (.bl (!decide (cells = []))) (hst cells mix at_ ++ rest) := by
    rw [oNe_ref (k := 0) (j := 1) g0 (gdL_ints _ _) (by simp) (by decide) (by decide)]
    simp
  have len0 : bLen (hst cells mix at_ ++ rest) [.ref 0] = .ok (.int cells.length) (hst cells mix at_ ++ rest) := by
    simp [bLen, dSeq, g0]
  have ix1 : oIx (hst cells mix at_ ++ rest) (.ref 1) (.int 1) = .ok (.ref 0) (hst cells mix at_ ++ rest) := by
    simp [oIx, dSeq, g1]
  have ix2 : oIx (hst cells mix at_ ++ rest) (.ref 1) (.int 2) = .ok (.int at_) (hst cells mix at_ ++ rest) := by
    simp [oIx, dSeq, g1]
  obtain ⟨k, hk, hk2⟩ := mod_nat (a := at_) (b := (if (cells.length : Int) > 1 then (cells.length : Int) else 1)) (by split <;> omega)
  have hp : (0 : Int) < (if (cells.length : Int) > 1 then (cells.length : Int) else 1) := by split <;> omega
  -- the cell
  obtain ⟨cell, hcell, hset⟩ : ∃ cell : Int, (if cells = [] then cell = 0 else cells[k]? = some cell) ∧ (cells ≠ [] → k < cells.length) := by
    by_cases hc : cells = []
    · exact ⟨0, by rw [if_pos hc], fun z => absurd hc z⟩
    · have hl : k < cells.length := by
        have : 0 < cells.length := List.length_pos_iff.mpr hc
        split at hk2 <;> omega
      exact ⟨cells[k], by rw [if_neg hc]; exact List.getElem?_eq_getElem hl, fun _ => hl⟩
  have s1 : (sAsg (gV 2) (eBin oMod (eBin oIx (eVar 0) (eC (.int 2))) (eCall bMax (aCons (eC (.int 1)) (aCons (eCall bLen (aCons (eBin oIx (eVar 0) (eC (.int 1))) (aNil))) (aNil)))))) [some (.ref 1), some (.int many), none, none] (hst cells mix at_ ++ rest) = .ok (.nx [some (.ref 1), some (.int many), some (.int k), none]) (hst cells mix at_ ++ rest) := by
    simp [ix1, ix2, len0, bMax, oMod]
    rw [if_pos (by simpa using hp)]
    simp only [gt_iff_lt] at hk
    simp [hk]
  have s2 : (sAsg (gV 3) (eIf (tVal (eBin oNe (eBin oIx (eVar 0) (eC (.int 1))) (eLst (aNil)))) (eBin oIx (eBin oIx (eVar 0) (eC (.int 1))) (eVar 2)) (eC (.int 0)))) [some (.ref 1), some (.int many), some (.int k), none] (hst cells mix at_ ++ rest) = .ok (.nx [some (.ref 1), some (.int many), some (.int k), some (.int cell)]) (hst cells mix at_ ++ rest) := by
    by_cases hc : cells = []
    · rw [if_pos hc] at hcell
      simp [ix1, ne, hc, hcell]
      simp [hc] at ix1 ne
      simp [ix1, ne]
    · rw [if_neg hc] at hcell
      have ix0 : oIx (hst cells mix at_ ++ rest) (.ref 0) (.int k) = .ok (.int cell) (hst cells mix at_ ++ rest) := by
        simp [oIx, dSeq, g0, hcell]
      simp [ix1, ne, hc, ix0]
  have s3 : (eBin oGe (eVar 3) (eBin oPow (eC (.int 10)) (eC (.int 18)))) [some (.ref 1), some (.int many), some (.int k), some (.int cell)] (hst cells mix at_ ++ rest) = .ok (.bl (decide ((1000000000000000000 : Int) ≤ cell))) (hst cells mix at_ ++ rest) := by
    simp [oPow_18]
  have ix0 : oIx (hst cells mix at_ ++ rest) (.ref 1) (.int 0) = .ok (.int mix) (hst cells mix at_ ++ rest) := by
    simp [oIx, dSeq, g1]
  by_cases big : (1000000000000000000 : Int) ≤ cell
  · have hc : cells ≠ [] := by
      intro z
      rw [if_pos z] at hcell
      omega
    have hkl := hset hc
    obtain ⟨r, hr, hr2⟩ := mod_nat (a := cell) h0
    refine ⟨r, hst (cells.set k (cell / many)) mix at_ ++ rest, ?_, ⟨_, _, _, rfl⟩, hr2⟩
    have st : (hst cells mix at_ ++ rest).set 0 (.lst ((cells.map D.int).set k (.int (cell / many)))) = hst (cells.set k (cell / many)) mix at_ ++ rest := by
      simp [hst, List.map_set]
    have hx : ixN cells.length (k : Int) = some k := ixN_nat hkl
    have lens : (hst (cells.set k (cell / many)) mix at_ ++ rest).length = (hst cells mix at_ ++ rest).length := by simp [hst]
    unfold d_law_next
    rw [bodyD_z]
    show (s_law_next [some (.ref 1), some (.int many), none, none] (hst cells mix at_ ++ rest)).bind _ = _
    unfold s_law_next
    rw [sSeq_z, s1]
    simp only [bind_ok]
    rw [sSeq_z, s2]
    simp only [bind_ok]
    rw [sSeq_z, sIf_z, tVal_z, s3]
    simp [big, oDiv, h0, h1, ix1, dOwn, g0, hx, st, oMod, hr, fin_len lens]
  · refine ⟨((((mix * 48271 + cell * 69621 + 11) % 2147483647) / 7) % many).toNat, hst cells ((mix * 48271 + cell * 69621 + 11) % 2147483647) (at_ + 1) ++ rest, ?_, ⟨_, _, _, rfl⟩, ?_⟩
    · have e : (((((mix * 48271 + cell * 69621 + 11) % 2147483647) / 7) % many).toNat : Int) = (((mix * 48271 + cell * 69621 + 11) % 2147483647) / 7) % many := Int.toNat_of_nonneg (Int.emod_nonneg _ (by omega))
      rw [e]
      have st : (hst cells mix at_ ++ rest).set 1 (.lst [.int ((mix * 48271 + cell * 69621 + 11) % 2147483647), .ref 0, .int at_]) = hst cells ((mix * 48271 + cell * 69621 + 11) % 2147483647) at_ ++ rest := by simp [hst]
      have lens : (hst cells ((mix * 48271 + cell * 69621 + 11) % 2147483647) (at_ + 1) ++ rest).length = (hst cells mix at_ ++ rest).length := by simp [hst]
      have st2 : (hst cells ((mix * 48271 + cell * 69621 + 11) % 2147483647) at_ ++ rest).set 1 (.lst [.int ((mix * 48271 + cell * 69621 + 11) % 2147483647), .ref 0, .int (at_ + 1)]) = hst cells ((mix * 48271 + cell * 69621 + 11) % 2147483647) (at_ + 1) ++ rest := by simp [hst]
      have jx2 : oIx (hst cells ((mix * 48271 + cell * 69621 + 11) % 2147483647) at_ ++ rest) (.ref 1) (.int 2) = .ok (.int at_) (hst cells ((mix * 48271 + cell * 69621 + 11) % 2147483647) at_ ++ rest) := by
        simp [oIx, dSeq, hst]
      have jx0 : oIx (hst cells ((mix * 48271 + cell * 69621 + 11) % 2147483647) (at_ + 1) ++ rest) (.ref 1) (.int 0) = .ok (.int ((mix * 48271 + cell * 69621 + 11) % 2147483647)) (hst cells ((mix * 48271 + cell * 69621 + 11) % 2147483647) (at_ + 1) ++ rest) := by
        simp [oIx, dSeq, hst]
      have k1 : (hst cells ((mix * 48271 + cell * 69621 + 11) % 2147483647) at_ ++ rest)[1]? = some (.lst [.int ((mix * 48271 + cell * 69621 + 11) % 2147483647), .ref 0, .int at_]) := rfl
      unfold d_law_next
      rw [bodyD_z]
      show (s_law_next [some (.ref 1), some (.int many), none, none] (hst cells mix at_ ++ rest)).bind _ = _
      unfold s_law_next
      rw [sSeq_z, s1]
      simp only [bind_ok]
      rw [sSeq_z, s2]
      simp only [bind_ok]
      rw [sSeq_z, sIf_z, tVal_z, s3]
      simp [big, ix0, oMul, oMod, dOwn, g1, st]
      simp [jx2, k1, st2, jx0, oDiv, h0, fin_len lens]
    · have a := Int.emod_nonneg ((((mix * 48271 + cell * 69621 + 11) % 2147483647) / 7)) (by omega : many ≠ 0)
      have b := Int.emod_lt_of_pos ((((mix * 48271 + cell * 69621 + 11) % 2147483647) / 7)) h0
      omega
theorem z_mix_k (xs : List Int) (k : Int) : ∃ m', d_law_mix [.scr xs, .int k] [] = .ok (.ref 1) m' ∧ HM [] m' := by
  obtain ⟨e1, m1, q1, x, y, rfl, rfl⟩ := loop_inv (gd := free) (tg := gV 3) (body := sAsg (gV 2) (eBin oMod (eBin oAdd (eBin oAdd (eBin oMul (eVar 2) (eC (.int 48271))) (eBin oMod (eVar 3) (eC (.int 2147483629)))) (eC (.int 1))) (eC (.int 2147483647))))
    (fun _ e m' => ∃ x y, e = [some (.scr xs), some (.int k), some (.int x), y] ∧ [] = m') (xs.map D.int) 0 [some (.scr xs), some (.int k), some (.int k), none] []
    (fun i d e m' hd ⟨x, y, he, hm⟩ => by
      subst he hm
      rw [List.getElem?_map] at hd
      obtain ⟨c, _, rfl⟩ := Option.map_eq_some_iff.mp hd
      exact ⟨_, [some (.scr xs), some (.int k), some (.int ((x * 48271 + c % 2147483629 + 1) % 2147483647)), some (.int c)], _, rfl, by simp [oMul, oMod], _, _, rfl, rfl⟩) (fun _ _ _ _ => rfl) ⟨_, _, rfl, rfl⟩
  refine ⟨hst xs x 0, ?_, xs, x, 0, by simp⟩
  unfold d_law_mix
  rw [bodyN_z]
  simp [s_law_mix, q1, bListN, dSeq, hst]
theorem z_mix (xs : List Int) : ∃ m', d_law_mix [.scr xs, .int 7] [] = .ok (.ref 1) m' ∧ HM [] m' := z_mix_k xs 7
end DL

namespace DL
open PySem L2
abbrev eDraw (n : Int) : EDen := eDef 2 d_law_next (aCons (eVar 0) (aCons (eC (.int n)) aNil))
theorem z_draw {rest m : Mem} (h : HM rest m) {e : Sl} (he : e[0]? = some (some (.ref 1))) {n : Int} (h0 : 0 < n) (h1 : n < 1073741824) : ∃ (r : Nat) (m' : Mem), eDraw n e m = .ok (.int r) m' ∧ HM rest m' ∧ (r : Int) < n := by
  obtain ⟨r, m', q, a, b⟩ := z_next h h0 h1
  exact ⟨r, m', by simp [he, q], a, b⟩
/-- a draw from a list of words -/
theorem z_pick {rest m : Mem} (h : HM rest m) {e : Sl} (he : e[0]? = some (some (.ref 1))) {fl : EDen} {ds : List D} {n : Int} (hf : ∀ m, fl e m = .ok (.lst ds) m) (hn : n = ds.length) (h0 : ds ≠ []) (h1 : ds.length < 1000000) : ∃ (d : D) (m' : Mem), eBin oIx fl (eDraw n) e m = .ok d m' ∧ HM rest m' ∧ d ∈ ds := by
  have hp : 0 < ds.length := List.length_pos_iff.mpr h0
  obtain ⟨r, m', q, a, b⟩ := z_draw h he (n := n) (by omega) (by omega)
  have hr : r < ds.length := by omega
  refine ⟨ds[r], m', ?_, a, List.getElem_mem hr⟩
  rw [eBin_z, hf, bind_ok, q, bind_ok]
  simp [hr]
theorem nodup_le : ∀ (l t : List Str), l.Nodup → (∀ x ∈ l, x ∈ t) → l.length ≤ t.length
  | [], _, _, _ => Nat.zero_le _
  | x :: l, t, nd, h => by
    obtain ⟨n1, n2⟩ := List.nodup_cons.mp nd
    have hx := h x (by simp)
    have := nodup_le l (t.erase x) n2 fun y hy => by
      have hne : y ≠ x := fun z => n1 (by rw [← z]; exact hy)
      exact (List.mem_erase_of_ne hne).mpr (h y (by simp [hy]))
    rw [List.length_erase_of_mem hx] at this
    have := List.length_pos_of_mem hx
    rw [List.length_cons]
    omega
def names8 : List Str := ["a", "b", "cc", "d", "efgh", "gg", "k", "z"]
theorem names8_ok : ∀ n ∈ names8, nameOk n = true := by decide +kernel
theorem filt_two {α : Type} (p : α → Bool) : ∀ l : List α, l.length = (l.filter p).length + (l.filter fun x => !p x).length
  | [] => rfl
  | x :: l => by
    have := filt_two p l
    cases h : p x <;> simp [h] <;> omega
theorem aCons_ok {a : EDen} {r : ADen} {e : Sl} {m m1 m2 : Mem} {x : D} {xs : List D} (h1 : a e m = .ok x m1) (h2 : r e m1 = .ok xs m2) : aCons a r e m = .ok (x :: xs) m2 := by rw [aCons_z, h1, bind_ok, h2, bind_ok]
theorem eTup_ok {a : ADen} {e : Sl} {m m1 : Mem} {xs : List D} (h1 : a e m = .ok xs m1) (hl : xs.length ≤ 1000 := by simp) : eTup a e m = .ok (.tup xs) m1 := by rw [eTup_z, h1, bind_ok, if_pos hl]
theorem eLst_ok {a : ADen} {e : Sl} {m m1 : Mem} {xs : List D} (h1 : a e m = .ok xs m1) (hl : xs.length ≤ 1000 := by simp) : eLst a e m = .ok (.lst xs) m1 := by rw [eLst_z, h1, bind_ok, if_pos hl]
theorem eBin_ok {f : Op2} {a b : EDen} {e : Sl} {m m1 m2 : Mem} {x y : D} {r : Res D} (h1 : a e m = .ok x m1) (h2 : b e m1 = .ok y m2) (h3 : f m2 x y = r) : eBin f a b e m = r := by rw [eBin_z, h1, bind_ok, h2, bind_ok, h3]
theorem eDef_ok {n : Nat} {f : List D → Mem → Res D} {a : ADen} {e : Sl} {m m1 : Mem} {xs : List D} {r : Res D} (h1 : a e m = .ok xs m1) (hl : xs.length = n) (h : f xs m1 = r) : eDef n f a e m = r := by rw [eDef_z, h1, bind_ok, if_pos hl, h]
theorem asg_ok {g : GDen} {f : EDen} {e e1 : Sl} {m m1 : Mem} {d : D} (h : f e m = .ok d m1) (hg : g d e = some e1) : sAsg g f e m = .ok (.nx e1) m1 := by rw [sAsg_z, h, bind_ok, hg]
theorem seq_ok {f g : SDen} {e e1 : Sl} {m m1 : Mem} {r : Res Flw} (h : f e m = .ok (.nx e1) m1) (k : g e1 m1 = r) : sSeq f g e m = r := by rw [sSeq_z, h, bind_ok]; exact k
theorem ret_ok {f : EDen} {e : Sl} {m m1 : Mem} {d : D} (h : f e m = .ok d m1) : sRet f e m = .ok (.rt d) m1 := by rw [sRet_z, h, bind_ok]
theorem drop_ok {f : EDen} {e : Sl} {m m1 : Mem} {d : D} (h : f e m = .ok d m1) : sDrop f e m = .ok (.nx e) m1 := by rw [sDrop_z, h, bind_ok]
theorem if_t {c : TDen} {f g : SDen} {e : Sl} {m m1 : Mem} {r : Res Flw} (h : c e m = .ok true m1) (k : f e m1 = r) : sIf c f g e m = r := by rw [sIf_z, h, bind_ok, if_pos rfl, k]
theorem if_f {c : TDen} {f g : SDen} {e : Sl} {m m1 : Mem} {r : Res Flw} (h : c e m = .ok false m1) (k : g e m1 = r) : sIf c f g e m = r := by rw [sIf_z, h, bind_ok, if_neg (by decide), k]
theorem tVal_ok {f : EDen} {e : Sl} {m m1 : Mem} {b : Bool} (h : f e m = .ok (.bl b) m1) : tVal f e m = .ok b m1 := by rw [tVal_z, h, bind_ok]
theorem eIf_t {c : TDen} {a b : EDen} {e : Sl} {m m1 : Mem} {r : Res D} (h : c e m = .ok true m1) (k : a e m1 = r) : eIf c a b e m = r := by rw [eIf_z, h, bind_ok, if_pos rfl, k]
theorem eIf_f {c : TDen} {a b : EDen} {e : Sl} {m m1 : Mem} {r : Res D} (h : c e m = .ok false m1) (k : b e m1 = r) : eIf c a b e m = r := by rw [eIf_z, h, bind_ok, if_neg (by decide), k]
theorem call_ok {g : Mem → List D → Res D} {a : ADen} {e : Sl} {m m1 : Mem} {xs : List D} {r : Res D} (h1 : a e m = .ok xs m1) (h : g m1 xs = r) : eCall g a e m = r := by rw [eCall_z, h1, bind_ok, h]
theorem body_rt {N : Nat} {f : SDen} {ds : List D} {m m1 : Mem} {d : D} {r : Res D} (h : f (ds.map some ++ List.replicate (N - ds.length) none) m = .ok (.rt d) m1) (k : fin m d m1 = r) : bodyD N f ds m = r := by
  rw [bodyD_z, h]
  exact k
theorem body_nx {N : Nat} {f : SDen} {ds : List D} {m m1 : Mem} {e : Sl} {r : Res D} (h : f (ds.map some ++ List.replicate (N - ds.length) none) m = .ok (.nx e) m1) (k : fin m .non m1 = r) : bodyD N f ds m = r := by
  rw [bodyD_z, h]
  exact k
theorem for_ok {it : IDen} {tg : GDen} {body : SDen} {e : Sl} {m m1 : Mem} {p : Its} {r : Res Flw} (h : it e m = .ok p m1) (k : loopD p.gd tg body p.ds e m1 = r) : sFor it tg body e m = r := by rw [sFor_z, h, bind_ok, k]
theorem filt_len (l t : List Str) (nd : l.Nodup) : l.length ≤ (l.filter fun x => !decide (x ∈ t)).length + t.length := by
  have h1 := nodup_le (l.filter fun x => decide (x ∈ t)) t (nd.filter _) fun x hx => of_decide_eq_true (List.mem_filter.mp hx).2
  have h2 := filt_two (fun x => decide (x ∈ t)) l
  omega
theorem names8_nd : names8.Nodup := by decide +kernel
@[simp] theorem eSlice_z (fa : EDen) (fl fh : ODen) (e : Sl) (m : Mem) : eSlice fa fl fh e m = (fa e m).bind fun x m1 => (fl e m1).bind fun lo m2 => (fh e m2).bind fun hi m3 => match x with
  | .tup ds => .ok (.tup (cutD ds lo hi)) m3
  | .str z => if z.length ≤ 1000000 then .ok (.str (cutS z lo hi)) m3 else .bad
  | x => match dList m3 x with
    | some ds => .ok (.lst (cutD ds lo hi)) m3
    | none => .bad := rfl
@[simp] theorem pNone_z (e : Sl) (m : Mem) : pNone e m = .ok none m := rfl
@[simp] theorem pSome_z (f : EDen) (e : Sl) (m : Mem) : pSome f e m = (f e m).bind fun d m1 => match d with
  | .int i => .ok (some i) m1
  | _ => .bad := rfl
theorem cut5 (xs : List D) : cutD xs none (some 5) = xs.take 5 := by
  have e : HT.sIx xs.length xs.length (some 5) = min 5 xs.length := HT.sIx_nat xs.length xs.length 5
  unfold cutD
  rw [HT.sIx_none, e, List.drop_zero, Nat.sub_zero]
  by_cases h : 5 ≤ xs.length
  · rw [Nat.min_eq_left h]
  · rw [Nat.min_eq_right (by omega), List.take_of_length_le (Nat.le_refl _), List.take_of_length_le (by omega)]
theorem z_law_card {rest m : Mem} (h : HM rest m) (taken : List Str) (ht : taken.length ≤ 5) : ∃ (c : CardT) (m' : Mem), d_law_card [.ref 1, .lst (taken.map D.str)] m = .ok c.d m' ∧ HM rest m' ∧ (c.ok ∧ c.nm ∈ names8) ∧ c.nm ∉ taken := by
  have hc : compD (lGuard (.lst (names8.map D.str)) (names8.map D.str)) (gV 5) (tVal (eBin (oIn true) (eVar 5) (eVar 1))) (eVar 5) [some (.ref 1), some (.lst (taken.map D.str)), none, none, none, none] (names8.map D.str) m [] = .ok ((names8.filter fun x => !decide (x ∈ taken)).map D.str) m := by
    rw [comp_mapT D.str (fun n => [some (.ref 1), some (.lst (taken.map D.str)), none, none, none, some (.str n)]) (fun x => !decide (x ∈ taken)) D.str rfl]
    · rfl
    · intro n hn
      refine ⟨rfl, ?_, fun _ => rfl⟩
      have q := oIn_strs (m := m) (s := n) (y := .lst (taken.map D.str)) (ws := taken) true rfl
      simp [q]
    · decide
  have ne := filt_len names8 taken names8_nd
  have l8 : names8.length = 8 := rfl
  generalize hfree : (names8.filter fun x => !decide (x ∈ taken)) = free at hc ne
  have mem : ∀ n ∈ free, (nameOk n = true ∧ n ∈ names8) ∧ n ∉ taken := fun n hn => by
    rw [← hfree] at hn
    obtain ⟨a, b⟩ := List.mem_filter.mp hn
    exact ⟨⟨names8_ok n a, a⟩, by simpa using b⟩
  have lf : free.length ≤ 8 := by
    rw [← hfree]
    exact List.length_filter_le _ _
  obtain ⟨r1, m1, q1, h1, b1⟩ := z_next h (many := 3) (by decide) (by decide)
  -- names
  obtain ⟨ns, hns, hlen⟩ : ∃ ns : List Str, (if (r1 : Int) > 0 then (free.take 5) else free) = ns ∧ ns ≠ [] ∧ ns.length ≤ 8 ∧ ∀ n ∈ ns, n ∈ free := by
    have fp : free ≠ [] := fun z => by
      rw [z] at ne
      simp at ne
      omega
    refine ⟨_, rfl, ?_⟩
    split
    · refine ⟨fun z => ?_, ?_, fun n hn => List.mem_of_mem_take hn⟩
      · rw [List.take_eq_nil_iff] at z
        rcases z with z | z
        · cases z
        · exact fp z
      · rw [List.length_take]
        omega
    · exact ⟨fp, lf, fun n hn => hn⟩
  obtain ⟨hne, hl8, hsub⟩ := hlen
  obtain ⟨d2, m2, q2, h2, b2⟩ := z_pick h1 (e := [some (.ref 1), some (.lst (taken.map D.str)), some (.lst (ns.map D.str)), none, none, none]) rfl (fl := eLst (aCons (eC (.str "old")) (aCons (eC (.str "shr")) (aCons (eC (.str "new")) (aCons (eC (.str "mod")) (aNil)))))) (ds := wBegins.map D.str) (n := 4) (fun _ => by simp [wBegins]) rfl (by decide) (by decide)
  obtain ⟨bg, hbg, rfl⟩ := List.mem_map.mp b2
  obtain ⟨d3, m3, q3, h3, b3⟩ := z_pick h2 (e := [some (.ref 1), some (.lst (taken.map D.str)), some (.lst (ns.map D.str)), some (.str bg), none, none]) rfl (fl := eLst (aCons (eC (.str "keep")) (aCons (eC (.str "drop")) (aCons (eC (.str "pass")) (aCons (eC (.str "keep")) (aNil)))))) (ds := (["keep", "drop", "pass", "keep"] : List Str).map D.str) (n := 4) (fun _ => by simp) rfl (by decide) (by decide)
  obtain ⟨gd, hgd, rfl⟩ := List.mem_map.mp b3
  obtain ⟨d4, m4, q4, h4, b4⟩ := z_pick h3 (e := [some (.ref 1), some (.lst (taken.map D.str)), some (.lst (ns.map D.str)), some (.str bg), some (.str gd), none]) rfl (fl := eVar 2) (ds := ns.map D.str) (n := (ns.map D.str).length) (fun _ => rfl) rfl (by simpa using hne) (by rw [List.length_map]; omega)
  obtain ⟨nm, hnm, rfl⟩ := List.mem_map.mp b4
  obtain ⟨d5, m5, q5, h5, b5⟩ := z_pick h4 (e := [some (.ref 1), some (.lst (taken.map D.str)), some (.lst (ns.map D.str)), some (.str bg), some (.str gd), none]) rfl (fl := eLst (aCons (eC (.str "keep")) (aCons (eC (.str "drop")) (aNil)))) (ds := wBads.map D.str) (n := 2) (fun _ => by simp [wBads]) rfl (by decide) (by decide)
  obtain ⟨bd, hbd, rfl⟩ := List.mem_map.mp b5
  have hm := mem nm (hsub nm hnm)
  refine ⟨⟨nm, bg, gd, bd⟩, m5, ?_, h5, ⟨⟨hm.1.1, hbg, ?_, hbd⟩, hm.1.2⟩, hm.2⟩
  · have lens : m5.length = m.length := by rw [h5.len, h.len]
    have s1 : (sAsg (gV 2) (eComp (iSeqD (eLst (aCons (eC (.str "a")) (aCons (eC (.str "b")) (aCons (eC (.str "cc")) (aCons (eC (.str "d")) (aCons (eC (.str "efgh")) (aCons (eC (.str "gg")) (aCons (eC (.str "k")) (aCons (eC (.str "z")) (aNil))))))))))) (gV 5) (tVal (eBin (oIn true) (eVar 5) (eVar 1))) (eVar 5) [5])) [some (.ref 1), some (.lst (taken.map D.str)), none, none, none, none] m = .ok (.nx [some (.ref 1), some (.lst (taken.map D.str)), some (.lst (free.map D.str)), none, none, none]) m := by
      simp [names8] at hc
      simp [dList, wipeD, hc]
    have s2 : (sAsg (gV 2) (eIf (tVal (eBin oGt (eDef 2 d_law_next (aCons (eVar 0) (aCons (eC (.int 3)) (aNil)))) (eC (.int 0)))) (eSlice (eVar 2) (pNone) (pSome (eC (.int 5)))) (eVar 2))) [some (.ref 1), some (.lst (taken.map D.str)), some (.lst (free.map D.str)), none, none, none] m = .ok (.nx [some (.ref 1), some (.lst (taken.map D.str)), some (.lst (ns.map D.str)), none, none, none]) m1 := by
      by_cases hr : (r1 : Int) > 0
      · rw [if_pos hr] at hns
        have hr' : 0 < r1 := by omega
        simp [q1, hr', dList, cut5, ← hns, List.map_take]
      · rw [if_neg hr] at hns
        have hr' : r1 = 0 := by omega
        simp [q1, hr', hns]
    have q4' : (eBin oIx (eVar 2) (eDef 2 d_law_next (aCons (eVar 0) (aCons (eCall bLen (aCons (eVar 2) (aNil))) (aNil))))) [some (.ref 1), some (.lst (taken.map D.str)), some (.lst (ns.map D.str)), some (.str bg), some (.str gd), none] m3 = .ok (.str nm) m4 := by
      simp at q4 ⊢
      exact q4
    unfold d_law_card
    rw [bodyD_z]
    show (s_law_card [some (.ref 1), some (.lst (taken.map D.str)), none, none, none, none] m).bind _ = _
    unfold s_law_card
    rw [sSeq_z, s1]
    simp only [bind_ok]
    rw [sSeq_z, s2]
    simp only [bind_ok]
    rw [sSeq_z, sAsg_z, q2]
    simp only [bind_ok, gV_z, List.set_cons_succ, List.set_cons_zero]
    rw [sSeq_z, sAsg_z, q3]
    simp only [bind_ok, gV_z, List.set_cons_succ, List.set_cons_zero]
    rw [ret_ok (eTup_ok (aCons_ok q4' (aCons_ok rfl (aCons_ok rfl (aCons_ok q5 rfl)))))]
    simp [fin_len lens, CardT.d]
  · simp at hgd
    simp [wGoods]
    rcases hgd with e | e | e | e <;> simp [e]
end DL

namespace DL
open PySem L2
theorem met_ok {T : String} {g : Mem → D → List D → Res D} {fo : EDen} {fa : ADen} {e : Sl} {m m1 m2 : Mem} {x : D} {xs : List D} {r : Res D} (h1 : fo e m = .ok x m1) (h2 : tyM T m1 x = true) (h3 : fa e m1 = .ok xs m2) (h4 : g m2 x xs = r) : eMet T g fo fa e m = r := by
  rw [eMet_z, h1, bind_ok, if_pos h2, h3, bind_ok, h4]
theorem tyM_ref {m : Mem} {n : Nat} {ds : List D} (h : m[n]? = some (.lst ds)) : tyM "list" m (.ref n) = true := by simp [tyM, dList, h]
theorem HM.app {rest l m : Mem} (h : HM (rest ++ l) m) {i : Nat} {ds : List D} (hi : l[i]? = some (.lst ds)) (hl : ds.length < 1000000) (y : D) : ∃ m', mApp m (.ref (2 + rest.length + i)) [y] = .ok .non m' ∧ HM (rest ++ l.set i (.lst (ds ++ [y]))) m' := by
  have g := h.get i
  rw [hi] at g
  exact ⟨_, by simp [mApp, dOwn, g, hl], h.set i _⟩
theorem rngD_get0 {n i : Nat} {d : D} (h : (rngD 0 n)[i]? = some d) : i < n ∧ d = .int i := by
  obtain ⟨a, b⟩ := rngD_get h
  rw [Int.zero_add] at b
  exact ⟨a, b⟩
theorem lift_list {α : Type} (F : α → D) (Pr : Nat → α → Prop) : ∀ (ys : List D) (k : Nat), (∀ i y, ys[i]? = some y → ∃ a, y = F a ∧ Pr (k + i) a) → ∃ xs : List α, ys = xs.map F ∧ ∀ i a, xs[i]? = some a → Pr (k + i) a
  | [], k, _ => ⟨[], rfl, fun i a h => by simp at h⟩
  | y :: ys, k, h => by
    obtain ⟨a, rfl, ha⟩ := h 0 y rfl
    obtain ⟨xs, rfl, hx⟩ := lift_list F Pr ys (k + 1) fun i y hy => by
      have := h (i + 1) y (by simpa using hy)
      rw [show k + (i + 1) = k + 1 + i by omega] at this
      exact this
    refine ⟨a :: xs, rfl, fun i b hb => ?_⟩
    cases i with
    | zero =>
      simp at hb
      subst hb
      exact ha
    | succ i =>
      rw [show k + (i + 1) = k + 1 + i by omega]
      exact hx i b (by simpa using hb)
theorem z_law_step {rest m : Mem} (h : HM rest m) (hr : LowR rest) (k : Nat) (hk : k < 1000000) : ∃ (s : StepT) (m' : Mem), d_law_step [.ref 1, .int k] m = .ok s.d m' ∧ HM rest m' ∧ s.ok k ∧ ∀ c ∈ s.ks, c.nm ∈ names8 := by
  have hm := h.len
  -- the conditions' number
  have h1 : HM (rest ++ [.lst []]) (m ++ [.lst []]) := h.new _
  obtain ⟨r4, m2, q2, h2, b2⟩ := z_draw h1 (e := [some (.ref 1), some (.int k), some (.ref (2 + rest.length)), none, none, none, none]) rfl (n := 4) (by decide) (by decide)
  obtain ⟨r3, m3, q3, h3, b3⟩ := z_draw h2 (e := [some (.ref 1), some (.int k), some (.ref (2 + rest.length)), none, none, none, none]) rfl (n := 3) (by decide) (by decide)
  obtain ⟨nc, hnc, hnc3⟩ : ∃ nc : Nat, ([D.int 0, .int 1, .int r4] : List D)[r3]? = some (.int nc) ∧ nc ≤ 3 := by
    match r3, b3 with
    | 0, _ => exact ⟨0, rfl, by decide⟩
    | 1, _ => exact ⟨1, rfl, by decide⟩
    | 2, _ => exact ⟨r4, rfl, by omega⟩
    | n + 3, b => omega
  obtain ⟨e4, m4, q4, cs, x3, x4, rfl, h4, lc, okc⟩ := loop_inv (gd := free) (tg := gV 3) (body := (sSeq (sAsg (gV 4) (eIf (tOrD (tVal (eBin oEq (eVar 1) (eC (.int 0)))) (tVal (eBin oEq (eDef 2 d_law_next (aCons (eVar 0) (aCons (eC (.int 4)) (aNil)))) (eC (.int 0))))) (eC .non) (eDef 2 d_law_next (aCons (eVar 0) (aCons (eVar 1) (aNil)))))) (
    sDrop (eMet "list" mApp (eVar 2) (aCons (eTup (aCons (eDef 2 d_law_next (aCons (eVar 0) (aCons (eC (.int 10)) (aNil)))) (aCons (eBin oIx (eLst (aCons (eC (.str "gt")) (aCons (eC (.str "ge")) (aCons (eC (.str "eq")) (aCons (eC (.str "ne")) (aCons (eC (.str "le")) (aCons (eC (.str "lt")) (aNil)))))))) (eDef 2 d_law_next (aCons (eVar 0) (aCons (eC (.int 6)) (aNil))))) (aCons (eVar 4) (aNil))))) (aNil))))))
    (fun j e m' => ∃ (cs : List CondT) (x3 x4 : Option D), e = [some (.ref 1), some (.int k), some (.ref (2 + rest.length)), x3, x4, none, none] ∧ HM (rest ++ [.lst (cs.map CondT.d)]) m' ∧ cs.length = j ∧ ∀ c ∈ cs, c.ok k) (rngD 0 nc) 0 [some (.ref 1), some (.int k), some (.ref (2 + rest.length)), none, none, none, none] m3
    (fun i d e m' hd ⟨cs, x3, x4, he, hM, hl, hok⟩ => by
      subst he
      obtain ⟨hi, rfl⟩ := rngD_get0 hd
      -- the step
      obtain ⟨st, ma, qa, ha, hst⟩ : ∃ (st : Option Int) (ma : Mem), (eIf (tOrD (tVal (eBin oEq (eVar 1) (eC (.int 0)))) (tVal (eBin oEq (eDef 2 d_law_next (aCons (eVar 0) (aCons (eC (.int 4)) (aNil)))) (eC (.int 0))))) (eC .non) (eDef 2 d_law_next (aCons (eVar 0) (aCons (eVar 1) (aNil))))) [some (.ref 1), some (.int k), some (.ref (2 + rest.length)), some (.int i), x4, none, none] m' = .ok (optD st) ma ∧ HM (rest ++ [.lst (cs.map CondT.d)]) ma ∧ ∀ j, st = some j → 0 ≤ j ∧ j < (k : Int) := by
        by_cases hk0 : k = 0
        · exact ⟨none, m', by simp [hk0, optD], hM, fun j z => by cases z⟩
        · obtain ⟨r, mb, qb, hb, bb⟩ := z_next hM (many := 4) (by decide) (by decide)
          by_cases hr0 : r = 0
          · exact ⟨none, mb, by simp [hk0, qb, hr0, optD], hb, fun j z => by cases z⟩
          · obtain ⟨r', mc, qc, hc, bc⟩ := z_next hb (many := k) (by omega) (by omega)
            exact ⟨some r', mc, by simp [hk0, qb, hr0, qc, optD], hc, fun j z => by cases z; omega⟩
      have e1 : ∀ e : Sl, e = [some (D.ref 1), some (.int k), some (.ref (2 + rest.length)), some (.int i), some (optD st), none, none] → e[0]? = some (some (.ref 1)) := fun e z => by rw [z]; rfl
      obtain ⟨rn, mb, qb, hb, bb⟩ := z_draw ha (e := [some (D.ref 1), some (.int k), some (.ref (2 + rest.length)), some (.int i), some (optD st), none, none]) rfl (n := 10) (by decide) (by decide)
      obtain ⟨dw, mc, qc, hc, bc⟩ := z_pick hb (e := [some (D.ref 1), some (.int k), some (.ref (2 + rest.length)), some (.int i), some (optD st), none, none]) rfl (fl := eLst (aCons (eC (.str "gt")) (aCons (eC (.str "ge")) (aCons (eC (.str "eq")) (aCons (eC (.str "ne")) (aCons (eC (.str "le")) (aCons (eC (.str "lt")) (aNil)))))))) (ds := wWords.map D.str) (n := 6) (fun _ => by simp [wWords]) rfl (by decide) (by decide)
      obtain ⟨w, hw, rfl⟩ := List.mem_map.mp bc
      have hcs : cs.length < 1000000 := by omega
      obtain ⟨md, qd, hd'⟩ := hc.app (i := 0) (ds := cs.map CondT.d) rfl (by rw [List.length_map]; exact hcs) (CondT.d ⟨rn, w, st⟩)
      have g2 : ma[2 + rest.length]? = some (.lst (cs.map CondT.d)) := ha.get 0
      refine ⟨_, [some (D.ref 1), some (.int k), some (.ref (2 + rest.length)), some (.int i), some (optD st), none, none], md, rfl, ?_, cs ++ [⟨rn, w, st⟩], some (.int i), some (optD st), rfl, by simpa using hd', by simp [hl], fun c hc' => ?_⟩
      · refine seq_ok (asg_ok qa rfl) (drop_ok (met_ok rfl (tyM_ref g2) (aCons_ok (eTup_ok (aCons_ok qb (aCons_ok qc (aCons_ok rfl rfl)))) rfl) qd))
      · rcases List.mem_append.mp hc' with z | z
        · exact hok c z
        · simp at z
          subst z
          exact ⟨by simp, by simp; omega, hw, hst⟩) (fun _ _ _ _ => rfl) ⟨[], none, none, rfl, h3, rfl, fun c z => by cases z⟩
  have hnl : (rngD 0 nc).length = nc := by unfold rngD; simp
  rw [hnl, Nat.zero_add] at lc
  -- the cards
  have h5 : HM (rest ++ [.lst (cs.map CondT.d), .lst []]) (m4 ++ [.lst []]) := by
    have := h4.new (.lst [])
    simpa using this
  have l4 := h4.len
  obtain ⟨dn, m6, q6, h6, b6⟩ := z_pick h5 (e := [some (.ref 1), some (.int k), some (.ref (2 + rest.length)), x3, x4, some (.ref (2 + rest.length + 1)), none]) rfl (fl := eLst (aCons (eC (.int 3)) (aCons (eC (.int 5)) (aNil)))) (ds := [.int 3, .int 5]) (n := 2) (fun _ => by simp) rfl (by decide) (by decide)
  obtain ⟨nn, hnn, hn0, hn5⟩ : ∃ nn : Int, dn = .int nn ∧ 0 < nn ∧ nn ≤ 5 := by
    simp at b6
    rcases b6 with rfl | rfl
    · exact ⟨3, rfl, by decide, by decide⟩
    · exact ⟨5, rfl, by decide, by decide⟩
  subst hnn
  obtain ⟨nk, m7, q7, h7, b7⟩ := z_next h6 (many := nn) hn0 (by omega)
  obtain ⟨e8, m8, q8, ks, y3, y6, rfl, h8, lk, okk, ndk⟩ := loop_inv (gd := free) (tg := gV 3) (body := (sDrop (eMet "list" mApp (eVar 5) (aCons (eDef 2 d_law_card (aCons (eVar 0) (aCons (eComp (iSeqD (eVar 5)) (gV 6) (tYesD) (eBin oIx (eVar 6) (eC (.int 0))) [6]) (aNil)))) (aNil)))))
    (fun j e m' => ∃ (ks : List CardT) (x3 x6 : Option D), e = [some (.ref 1), some (.int k), some (.ref (2 + rest.length)), x3, x4, some (.ref (2 + rest.length + 1)), x6] ∧ HM (rest ++ [.lst (cs.map CondT.d), .lst (ks.map CardT.d)]) m' ∧ ks.length = j ∧ (∀ c ∈ ks, c.ok ∧ c.nm ∈ names8) ∧ (ks.map (·.nm)).Nodup) (rngD 0 nk) 0 [some (.ref 1), some (.int k), some (.ref (2 + rest.length)), x3, x4, some (.ref (2 + rest.length + 1)), none] m7
    (fun i d e m' hd ⟨ks, x3, x6, he, hM, hl, hok, hnd⟩ => by
      subst he
      obtain ⟨hi, rfl⟩ := rngD_get0 hd
      have g1 : m'[2 + rest.length + 1]? = some (.lst (ks.map CardT.d)) := hM.get 1
      have hks : ks.length ≤ 4 := by omega
      have qc : (eComp (iSeqD (eVar 5)) (gV 6) (tYesD) (eBin oIx (eVar 6) (eC (.int 0))) [6]) [some (.ref 1), some (.int k), some (.ref (2 + rest.length)), some (.int i), x4, some (.ref (2 + rest.length + 1)), x6] m' = .ok (.lst ((ks.map (·.nm)).map D.str)) m' := by
        have gg : lGuard (.ref (2 + rest.length + 1)) (ks.map CardT.d) m' = true := by
          simp [lGuard, g1, D.beq_selfL]
        have cm := comp_mapT (gd := lGuard (.ref (2 + rest.length + 1)) (ks.map CardT.d)) (tg := gV 6) (t := tYesD) (f := eBin oIx (eVar 6) (eC (.int 0))) (e := [some (.ref 1), some (.int k), some (.ref (2 + rest.length)), some (.int i), x4, some (.ref (2 + rest.length + 1)), none]) (m := m') CardT.d (fun c => [some (.ref 1), some (.int k), some (.ref (2 + rest.length)), some (.int i), x4, some (.ref (2 + rest.length + 1)), some c.d]) (fun _ => true) (fun c => .str c.nm) gg ks [] (fun c hc => ⟨rfl, rfl, fun _ => by simp [CardT.d]⟩) (by simp; omega)
        have ft : ks.filter (fun _ => true) = ks := by simp
        simp [dList, g1, wipeD, cm, ft, List.map_map, Function.comp_def]
      obtain ⟨c, ma, qa, ha, hcok, hcn⟩ := z_law_card hM (ks.map (·.nm)) (by rw [List.length_map]; omega)
      obtain ⟨mb, qb, hb⟩ := ha.app (i := 1) (ds := ks.map CardT.d) rfl (by rw [List.length_map]; omega) c.d
      refine ⟨_, [some (.ref 1), some (.int k), some (.ref (2 + rest.length)), some (.int i), x4, some (.ref (2 + rest.length + 1)), x6], mb, rfl, ?_, ks ++ [c], some (.int i), x6, rfl, by simpa using hb, by simp [hl], fun c' hc' => ?_, ?_⟩
      · exact drop_ok (met_ok rfl (tyM_ref g1) (aCons_ok (eDef_ok (aCons_ok rfl (aCons_ok qc rfl)) rfl qa) rfl) qb)
      · rcases List.mem_append.mp hc' with z | z
        · exact hok c' z
        · simp at z
          subst z
          exact hcok
      · rw [List.map_append, List.nodup_append]
        refine ⟨hnd, by simp, fun a ha b hb => ?_⟩
        simp at hb
        subst hb
        intro z
        subst z
        exact hcn ha) (fun _ _ _ _ => rfl) ⟨[], x3, none, rfl, h7, rfl, fun c z => (by cases z), by simp⟩
  have hnl2 : (rngD 0 nk).length = nk := by unfold rngD; simp
  rw [hnl2, Nat.zero_add] at lk
  obtain ⟨df, m9, q9, h9, b9⟩ := z_pick h8 (e := [some (.ref 1), some (.int k), some (.ref (2 + rest.length)), y3, x4, some (.ref (2 + rest.length + 1)), y6]) rfl (fl := eLst (aCons (eC (.str "plain")) (aCons (eC (.str "plain")) (aCons (eC (.str "even")) (aCons (eC (.str "only")) (aNil)))))) (ds := (["plain", "plain", "even", "only"] : List Str).map D.str) (n := 4) (fun _ => by simp) rfl (by decide) (by decide)
  obtain ⟨fl, hfl, rfl⟩ := List.mem_map.mp b9
  have ok : (StepT.mk fl cs ks).ok k := by
    refine ⟨?_, by simpa [lc] using hnc3, by simp; omega, okc, fun c hc => (okk c hc).1, ndk⟩
    simp at hfl
    simp [wFlags]
    rcases hfl with e | e | e <;> simp [e]
  obtain ⟨m', qf, hf⟩ := HM.fin h h9 hr (gd_step ok 0)
  refine ⟨⟨fl, cs, ks⟩, m', ?_, hf, ok, fun c hc => (okk c hc).2⟩
  have g8 : m9[2 + rest.length]? = some (.lst (cs.map CondT.d)) := h9.get 0
  have g9 : m9[2 + rest.length + 1]? = some (.lst (ks.map CardT.d)) := h9.get 1
  have hs : s_law_step [some (.ref 1), some (.int k), none, none, none, none, none] m = .ok (.rt (StepT.d ⟨fl, cs, ks⟩)) m9 := by
    unfold s_law_step
    refine seq_ok (e1 := [some (.ref 1), some (.int k), some (.ref (2 + rest.length)), none, none, none, none]) (m1 := m ++ [.lst []]) (by simp [hm]) ?_
    refine seq_ok (for_ok (p := ⟨rngD 0 nc, free⟩) (m1 := m3) ?_ q4) ?_
    · have : (eBin oIx (eLst (aCons (eC (.int 0)) (aCons (eC (.int 1)) (aCons (eDef 2 d_law_next (aCons (eVar 0) (aCons (eC (.int 4)) (aNil)))) (aNil))))) (eDef 2 d_law_next (aCons (eVar 0) (aCons (eC (.int 3)) (aNil))))) [some (.ref 1), some (.int k), some (.ref (2 + rest.length)), none, none, none, none] (m ++ [.lst []]) = .ok (.int nc) m3 :=
        eBin_ok (eLst_ok (aCons_ok rfl (aCons_ok rfl (aCons_ok q2 rfl)))) q3 (by simp [hnc])
      have l1 : (-1000000 : Int) ≤ (nc : Int) ∧ (nc : Int) ≤ 1000000 := by omega
      rw [iRangeD_z, aCons_ok this rfl]
      simp [l1]
    refine seq_ok (e1 := [some (.ref 1), some (.int k), some (.ref (2 + rest.length)), x3, x4, some (.ref (2 + rest.length + 1)), none]) (m1 := m4 ++ [.lst []]) (by simp [l4]; omega) ?_
    refine seq_ok (for_ok (p := ⟨rngD 0 nk, free⟩) (m1 := m7) ?_ q8) ?_
    · have l1 : (-1000000 : Int) ≤ (nk : Int) ∧ (nk : Int) ≤ 1000000 := by omega
      have : (eDef 2 d_law_next (aCons (eVar 0) (aCons (eBin oIx (eLst (aCons (eC (.int 3)) (aCons (eC (.int 5)) (aNil)))) (eDef 2 d_law_next (aCons (eVar 0) (aCons (eC (.int 2)) (aNil))))) (aNil)))) [some (.ref 1), some (.int k), some (.ref (2 + rest.length)), x3, x4, some (.ref (2 + rest.length + 1)), none] (m4 ++ [.lst []]) = .ok (.int nk) m7 := eDef_ok (aCons_ok rfl (aCons_ok q6 rfl)) rfl q7
      rw [iRangeD_z, aCons_ok this rfl]
      simp [l1]
    refine ret_ok (eTup_ok (aCons_ok q9 (aCons_ok (call_ok (m := m9) (m1 := m9) (aCons_ok rfl rfl) ?_) (aCons_ok (call_ok (m := m9) (m1 := m9) (aCons_ok rfl rfl) ?_) rfl))))
    · simp [bTuple, dSeq, g8]
    · simp [bTuple, dSeq, g9]
  exact body_rt hs qf
end DL

namespace DL
open PySem L2
theorem z_law_deck8 {rest m : Mem} (h : HM rest m) (hr : LowR rest) : ∃ (dk : List StepT) (m' : Mem), d_law_deck [.ref 1] m = .ok (deckD dk) m' ∧ HM rest m' ∧ DeckOk dk ∧ ∀ s ∈ dk, ∀ c ∈ s.ks, c.nm ∈ names8 := by
  obtain ⟨r, m1, q1, h1, b1⟩ := z_draw h (e := [some (.ref 1), none]) rfl (n := 6) (by decide) (by decide)
  obtain ⟨ys, m2, q2, h2, hl, hR⟩ := comp_inv (gd := free) (tg := gV 1) (f := eDef 2 d_law_step (aCons (eVar 0) (aCons (eVar 1) (aNil)))) (e := [some (.ref 1), none]) (HM rest) (fun d y => ∃ (i : Nat) (s : StepT), d = .int i ∧ y = s.d ∧ s.ok i ∧ ∀ c ∈ s.ks, c.nm ∈ names8) (fun _ _ => rfl) (rngD 0 (1 + r)) [] m1 h1 (fun d hd m hm => by
    obtain ⟨i, hi, rfl⟩ := List.getElem_of_mem hd
    have q := rngD_get0 (List.getElem?_eq_getElem hi)
    obtain ⟨s, m', qs, hs, hok⟩ := z_law_step hm hr i (by omega)
    refine ⟨[some (.ref 1), some (.int i)], s.d, m', ?_, eDef_ok (aCons_ok rfl (aCons_ok rfl rfl)) rfl qs, hs, i, s, q.2, rfl, hok⟩
    rw [q.2]
    rfl) (by
      have hnl : (rngD 0 (1 + r)).length = 1 + r := by unfold rngD; simp
      rw [hnl]
      simp
      omega)
  have hnl : (rngD 0 (1 + r)).length = 1 + r := by unfold rngD; simp
  rw [hnl] at hl
  obtain ⟨dk, rfl, hdk⟩ := lift_list StepT.d (fun i s => s.ok i ∧ ∀ c ∈ s.ks, c.nm ∈ names8) ys 0 (fun i y hy => by
    have hi : i < 1 + r := by
      rw [← hl]
      exact (List.getElem?_eq_some_iff.mp hy).1
    have hd : (rngD 0 (1 + r))[i]? = some (.int i) := by
      have hx : i < (rngD 0 (1 + r)).length := by rw [hnl]; exact hi
      rw [List.getElem?_eq_getElem hx]
      have := (rngD_get0 (List.getElem?_eq_getElem hx)).2
      rw [this]
    obtain ⟨j, s, e1, e2, e3⟩ := hR i _ y hd hy
    have ej : (j : Int) = i := (D.int.inj e1).symm
    refine ⟨s, e2, ?_⟩
    rw [Nat.zero_add, ← ej]
    exact e3)
  rw [List.length_map] at hl
  have ok : DeckOk dk := ⟨fun z => by rw [z] at hl; simp at hl; omega, by omega, fun i s hs => by simpa using (hdk i s hs).1⟩
  refine ⟨dk, m2, ?_, h2, ok, fun s hs => by
    obtain ⟨i, hi, e⟩ := List.getElem_of_mem hs
    exact (hdk i s (by rw [List.getElem?_eq_getElem hi, e])).2⟩
  have lens : m2.length = m.length := by rw [h2.len, h.len]
  have l1 : (-1000000 : Int) ≤ (1 + r : Int) ∧ (1 + r : Int) ≤ 1000000 := by omega
  have hn : ((1 + r : Int)).toNat = 1 + r := by omega
  have it : iRangeD (aCons (eBin oAdd (eC (.int 1)) (eDef 2 d_law_next (aCons (eVar 0) (aCons (eC (.int 6)) (aNil))))) (aNil)) [some (.ref 1), none] m = .ok ⟨rngD 0 (1 + r), free⟩ m1 := by
    rw [iRangeD_z, aCons_ok (eBin_ok rfl q1 rfl) rfl]
    simp [l1, hn]
  have co : (eComp (iRangeD (aCons (eBin oAdd (eC (.int 1)) (eDef 2 d_law_next (aCons (eVar 0) (aCons (eC (.int 6)) (aNil))))) (aNil))) (gV 1) (tYesD) (eDef 2 d_law_step (aCons (eVar 0) (aCons (eVar 1) (aNil)))) [1]) [some (.ref 1), none] m = .ok (.lst (dk.map StepT.d)) m2 := by
    rw [eComp_z, it, bind_ok]
    simp only [wipeD, List.set_cons_succ, List.set_cons_zero]
    rw [q2]
    rfl
  refine body_rt (d := deckD dk) (m1 := m2) (ret_ok (call_ok (m1 := m2) (aCons_ok co rfl) ?_)) (fin_len lens)
  simp [bTuple, dSeq, deckD]
theorem z_law_deck {rest m : Mem} (h : HM rest m) (hr : LowR rest) : ∃ (dk : List StepT) (m' : Mem), d_law_deck [.ref 1] m = .ok (deckD dk) m' ∧ HM rest m' ∧ DeckOk dk := by
  obtain ⟨dk, m', a, b, c, _⟩ := z_law_deck8 h hr
  exact ⟨dk, m', a, b, c⟩
end DL

namespace DL
open PySem L2
/-! ## alike -/
@[simp] theorem eIsiT_z (fx : EDen) (ts : List String) (e : Sl) (m : Mem) : eIsiT fx ts e m = (fx e m).bind fun x m1 => match tyD m1 x with
  | some a => match kitAnyB a ts with
    | some k => .ok (.bl k) m1
    | none => .bad
  | none => .bad := rfl
theorem ka_tup : kitAnyB "tuple" ["tuple", "list"] = some true := by decide +kernel
theorem ka_lst : kitAnyB "list" ["tuple", "list"] = some true := by decide +kernel
theorem ka_int : kitAnyB "int" ["tuple", "list"] = some false := by decide +kernel
theorem ka_str : kitAnyB "str" ["tuple", "list"] = some false := by decide +kernel
theorem ka_non : kitAnyB "NoneType" ["tuple", "list"] = some false := by decide +kernel
theorem kb_tl : kitB "tuple" "list" = some false := by decide +kernel
theorem kb_ll : kitB "list" "list" = some true := by decide +kernel
theorem kb_is : kitB "int" "str" = some false := by decide +kernel
theorem kb_ss : kitB "str" "str" = some true := by decide +kernel
inductive Sees (m : Mem) : D → D → Prop
  | same (d : D) : Sees m d d
  | ref (k : Nat) (ds : List D) (h : m[k]? = some (.lst ds)) : Sees m (.ref k) (.lst ds)
  | tup (xs ds : List D) (hl : xs.length = ds.length) (h : ∀ (i : Nat) (x d : D), xs[i]? = some x → ds[i]? = some d → Sees m x d) : Sees m (.tup xs) (.tup ds)
theorem oIx_seq {m : Mem} {x : D} {xs : List D} (h : dSeq m x = some xs) (i : Nat) (d : D) (hd : xs[i]? = some d) : oIx m x (.int i) = .ok d m := by
  cases x <;> first | (cases h; done) | skip
  all_goals
    simp only [oIx, h]
    simp [hd]
theorem bLen_seq {m : Mem} {x : D} {xs : List D} (h : dSeq m x = some xs) : bLen m [x] = .ok (.int xs.length) m := by
  cases x <;> first | (cases h; done) | skip
  all_goals simp only [bLen, h]
theorem alike_seq (rec : List D → Mem → Res D) (m : Mem) (x y : D) (xs ys : List D) (t : String) (hx : dSeq m x = some xs) (hy : dSeq m y = some ys) (tx : tyD m x = some t) (ty : tyD m y = some t) (ht : t = "tuple" ∨ t = "list") (hl : xs.length = ys.length) (hn : ys.length ≤ 1000)
    (hr : ∀ (i : Nat) (a b : D), xs[i]? = some a → ys[i]? = some b → rec [a, b] m = .ok (.bl true) m) : s_law_alike rec [some x, some y, none] m = .ok (.rt (.bl true)) m := by
  have ka : kitAnyB t ["tuple", "list"] = some true := by
    rcases ht with rfl | rfl
    · exact ka_tup
    · exact ka_lst
  obtain ⟨kb, hkb⟩ : ∃ kb, kitB t "list" = some kb := by
    rcases ht with rfl | rfl
    · exact ⟨_, kb_tl⟩
    · exact ⟨_, kb_ll⟩
  have b1 : bIsi m [x, .val (.ty "list")] = .ok (.bl kb) m := by simp [bIsi, tx, hkb]
  have b2 : bIsi m [y, .val (.ty "list")] = .ok (.bl kb) m := by simp [bIsi, ty, hkb]
  have ne : oNe m (.bl kb) (.bl kb) = .ok (.bl false) m := by cases kb <;> rfl
  have l1 := bLen_seq hx
  have l2 := bLen_seq hy
  have cm : compD free (gV 2) (tNotD (tVal (eDef 2 rec (aCons (eBin oIx (eVar 0) (eVar 2)) (aCons (eBin oIx (eVar 1) (eVar 2)) (aNil)))))) (eVar 2) [some x, some y, none] (rngD 0 ys.length) m [] = .ok [] m := by
    rw [comp_map (fun d => [some x, some y, some d]) (fun _ => false) (fun d => d) rfl]
    · simp
    · intro d hd
      obtain ⟨i, hi, rfl⟩ := List.getElem_of_mem hd
      obtain ⟨hi', e⟩ := rngD_get0 (List.getElem?_eq_getElem hi)
      refine ⟨rfl, ?_, fun z => by cases z⟩
      rw [e]
      have q := hr i xs[i] ys[i] (List.getElem?_eq_getElem (by omega)) (List.getElem?_eq_getElem hi')
      have i1 := oIx_seq hx i xs[i] (List.getElem?_eq_getElem (by omega))
      have i2 := oIx_seq hy i ys[i] (List.getElem?_eq_getElem hi')
      simp [i1, i2, q]
    · have hnl : (rngD 0 ys.length).length = ys.length := by unfold rngD; simp
      rw [hnl]
      simp
      omega
  have lq : (-1000000 : Int) ≤ (ys.length : Int) ∧ (ys.length : Int) ≤ 1000000 := by omega
  have ee : oEq m (.lst []) (.lst []) = .ok (.bl true) m := by
    rw [oEq_gd (n := 1) (k := 1) (by simp) (by simp) (by decide) (by decide)]
    simp
  simp [s_law_alike, tx, ty, ka, b1, b2, ne, l1, l2, hl, lq, wipeD, cm, ee]
mutual
def shD : D → Bool
  | .tup xs => decide (xs.length ≤ 1000) && shL xs
  | .lst xs => decide (xs.length ≤ 1000) && shL xs
  | _ => true
def shL : List D → Bool
  | [] => true
  | d :: ds => shD d && shL ds
end
theorem shL_of : ∀ {ds : List D}, shL ds = true → ∀ d ∈ ds, shD d = true
  | [], _, d, h => by cases h
  | a :: ds, h, d, hd => by
    have h' : (shD a && shL ds) = true := h
    rw [Bool.and_eq_true] at h'
    rcases List.mem_cons.mp hd with rfl | hd
    · exact h'.1
    · exact shL_of h'.2 d hd
theorem shL_all : ∀ {ds : List D}, (∀ d ∈ ds, shD d = true) → shL ds = true
  | [], _ => rfl
  | a :: ds, h => by
    show (shD a && shL ds) = true
    rw [h a (by simp), shL_all fun d hd => h d (by simp [hd])]
    rfl
theorem alike_ok (m : Mem) : ∀ (N n : Nat) (x d : D), n < N → Sees m x d → gdD n d = true → shD d = true → d_law_alike N [x, d] m = .ok (.bl true) m
  | 0, n, x, d, h, _, _, _ => by omega
  | N + 1, n, x, d, h, hs, hg, hz => by
    have fr : ∀ xs ds : List D, xs.length = ds.length → (∀ (i : Nat) (x d : D), xs[i]? = some x → ds[i]? = some d → Sees m x d) → ∀ k, k < N → gdL k ds = true → shL ds = true → ∀ (i : Nat) (a b : D), xs[i]? = some a → ds[i]? = some b → d_law_alike N [a, b] m = .ok (.bl true) m := fun xs ds hl hS k hk hgl hsl i a b ha hb =>
      alike_ok m N k a b hk (hS i a b ha hb) (gdL_of k hgl b (List.mem_of_getElem? hb)) (shL_of hsl b (List.mem_of_getElem? hb))
    have same : ∀ ds : List D, ∀ (i : Nat) (x d : D), ds[i]? = some x → ds[i]? = some d → Sees m x d := fun ds i x d hx hd => by
      rw [hx] at hd
      cases hd
      exact .same _
    show bodyD 3 (s_law_alike (d_law_alike N)) [x, d] m = _
    refine body_rt (d := .bl true) (m1 := m) ?_ (fin_same _ _)
    show s_law_alike (d_law_alike N) [some x, some d, none] m = _
    cases d with
    | non =>
      cases hs
      simp [s_law_alike, tyD, ka_non]
    | int i =>
      cases hs
      simp [s_law_alike, tyD, ka_int, bIsi, kb_is, k_int_bool, kit_tt]
    | str s =>
      cases hs
      have q : oEq m (.str s) (.str s) = .ok (.bl true) m := by
        rw [gd_str] at hg
        rw [oEq_str hg hg]
        simp
      simp [s_law_alike, tyD, ka_str, bIsi, kb_ss, q, show ∀ M, oIs M (.str s) .non = .ok (.bl false) M from fun _ => rfl]
    | tup ds =>
      match n, hg with
      | k + 1, hg =>
        rw [gd_tup] at hg
        have hz' : (decide (ds.length ≤ 1000) && shL ds) = true := hz
        rw [Bool.and_eq_true, decide_eq_true_iff] at hz'
        cases hs with
        | same => exact alike_seq _ m _ _ ds ds "tuple" rfl rfl rfl rfl (.inl rfl) rfl hz'.1 (fr ds ds rfl (same ds) k (by omega) hg hz'.2)
        | tup xs _ hl hS => exact alike_seq _ m _ _ xs ds "tuple" rfl rfl rfl rfl (.inl rfl) hl hz'.1 (fr xs ds hl hS k (by omega) hg hz'.2)
    | lst ds =>
      match n, hg with
      | k + 1, hg =>
        rw [gd_lst] at hg
        have hz' : (decide (ds.length ≤ 1000) && shL ds) = true := hz
        rw [Bool.and_eq_true, decide_eq_true_iff] at hz'
        cases hs with
        | same => exact alike_seq _ m _ _ ds ds "list" rfl rfl rfl rfl (.inr rfl) rfl hz'.1 (fr ds ds rfl (same ds) k (by omega) hg hz'.2)
        | ref j _ hj => exact alike_seq _ m _ _ ds ds "list" (by simp [dSeq, hj]) rfl (by simp [tyD, hj]) rfl (.inr rfl) rfl hz'.1 (fr ds ds rfl (same ds) k (by omega) hg hz'.2)
    | bl b => simp [gdD] at hg
    | scr b => simp [gdD] at hg
    | ref b => simp [gdD] at hg
    | val b => simp [gdD] at hg
end DL

namespace DL
open PySem L2
/-- what a run tells -/
def doneT (s : RS) : D := .tup [.lst (s.outs.map OutT.d), .lst ((leftT s.files).map leftD), .lst (s.seen.map seenD)]
theorem gd_out (o : OutT) (n : Nat) : gdD (n + 1) o.d = true := by cases o <;> simp [OutT.d]
theorem gdL_map {α : Type} (F : α → D) (n : Nat) (l : List α) (h : ∀ a ∈ l, gdD n (F a) = true) : gdL n (l.map F) = true := gdL_all _ _ fun d hd => by
  obtain ⟨a, ha, rfl⟩ := List.mem_map.mp hd
  exact h a ha
def seenOk (s : RS) : Prop := ∀ x ∈ s.seen, PyData.strOk x.2.1 = true
theorem gd_seen {x : Int × Str × List Int} (h : PyData.strOk x.2.1 = true) (n : Nat) : gdD (n + 2) (seenD x) = true := by
  simp [seenD, rowsD, h, gdL_ints]

structure NI (s : RS) : Prop where
  f : ∀ p ∈ s.files, PyData.strOk p.1 = true
  s : seenOk s
theorem putA_key {κ α : Type} [DecidableEq κ] {l : List (κ × α)} {k : κ} {v : α} {p : κ × α} (h : p ∈ putA l k v) : (∃ q ∈ l, q.1 = p.1) ∨ p.1 = k := by
  unfold putA at h
  split at h
  · obtain ⟨q, hq, e⟩ := List.mem_map.mp h
    refine .inl ⟨q, hq, ?_⟩
    rw [← e]
    split <;> rfl
  · rcases List.mem_append.mp h with h | h
    · exact .inl ⟨p, h, rfl⟩
    · simp at h
      exact .inr (by rw [h])
theorem NI.use {s : RS} (h : NI s) (num : Int) (good : Bool) {c : CardT} (hc : c.ok) : NI (useT num good s c) := by
  have hs := strOk_abc hc.nm
  refine ⟨fun p hp => ?_, fun x hx => ?_⟩
  · simp only [useT] at hp
    split at hp
    · exact h.f p (List.mem_filter.mp hp).1
    · rcases putA_key hp with ⟨q, hq, e⟩ | e
      · rw [← e]
        exact h.f q hq
      · rw [e]
        exact hs
  · simp only [useT] at hx
    split at hx
    · rcases List.mem_append.mp hx with hx | hx
      · exact h.s x hx
      · simp at hx
        rw [hx]
        exact hs
    · exact h.s x hx
theorem NI.fold (num : Int) (good : Bool) : ∀ (ks : List CardT) {s : RS}, NI s → (∀ c ∈ ks, c.ok) → NI (ks.foldl (useT num good) s)
  | [], s, h, _ => h
  | c :: ks, s, h, hok => NI.fold num good ks (h.use num good (hok c (by simp))) fun d hd => hok d (by simp [hd])
theorem NI.step {s : RS} (h : NI s) (i : Int) {st : StepT} (hok : ∀ c ∈ st.ks, c.ok) (en : Option Int) : NI (stepT i st en s) := by
  have q1 := h.fold i false st.ks hok
  have q2 := h.fold i true st.ks hok
  unfold stepT stepP outT
  cases passT s st with
  | some o => exact ⟨h.f, h.s⟩
  | none =>
    cases barL (hasA s.files) 0 st.ks with
    | some o => exact ⟨h.f, h.s⟩
    | none =>
      cases en with
      | none => exact ⟨q1.f, q1.s⟩
      | some v => exact ⟨q2.f, q2.s⟩
theorem NI.go {at_ : Int} : ∀ (rest : List StepT) (es : List (Option Int)) (i : Nat) {s : RS}, NI s → (∀ st ∈ rest, ∀ c ∈ st.ks, c.ok) → NI (goRun at_ i rest es s)
  | [], es, i, s, h, _ => by cases es <;> exact h
  | st :: rest, [], i, s, h, _ => h
  | st :: rest, en :: es, i, s, h, hok => by
    refine NI.go rest es (i + 1) ?_ fun t ht => hok t (by simp [ht])
    split
    · exact ⟨h.f, h.s⟩
    · exact h.step i (hok st (by simp)) en
theorem NI.run {deck : List StepT} (hd : DeckOk deck) {fs : List FileT} (hf : FilesW fs) (es : List (Option Int)) (at_ : Int) : NI (runT deck fs es at_) := by
  refine NI.go deck es 0 ⟨fun p hp => ?_, fun x hx => by cases hx⟩ fun st hst c hc => ?_
  · obtain ⟨f, hf', rfl⟩ := List.mem_map.mp hp
    exact hf.nm f hf'
  · obtain ⟨k, hk⟩ := hd.mem hst
    exact hk.ks c hc
theorem gd_done {s : RS} (h : NI s) : gdD 4 (doneT s) = true := by
  have g1 : gdL 2 (s.outs.map OutT.d) = true := gdL_map _ _ _ fun o _ => gd_out o 1
  have g3 : gdL 2 (s.seen.map seenD) = true := gdL_map _ _ _ fun x hx => gd_seen (h.s x hx) 0
  have g2 : gdL 2 ((leftT s.files).map leftD) = true := gdL_map _ _ _ fun x hx => by
    unfold leftT at hx
    obtain ⟨n, hn, rfl⟩ := List.mem_map.mp hx
    have hk := (srtS_perm _).subset (List.mem_filter.mp hn).1
    obtain ⟨p, hp, rfl⟩ := List.mem_map.mp hk
    simp [leftD, rowsD, h.f p hp, gdL_ints]
  have e : ∀ n xs, gdL n xs = true → gdL (n + 1) xs = true := fun n xs q => gdL_up (Nat.le_succ n) xs q
  unfold doneT
  rw [gd_tup, gdL_cons, gdL_cons, gdL_cons, gd_lst, gd_lst, gd_lst, g1, g2, g3]
  simp
theorem seq_two {f g h : SDen} {e e1 : Sl} {m m1 : Mem} {r : Res Flw} (q : sSeq f g e m = .ok (.nx e1) m1) (k : h e1 m1 = r) : sSeq f (sSeq g h) e m = r := by
  rw [sSeq_z] at q ⊢
  cases hf : f e m with
  | ok fl m2 =>
    rw [hf] at q
    cases fl with
    | nx e2 =>
      simp only [bind_ok] at q ⊢
      exact seq_ok q k
    | rt d => cases q
    | bk e2 => cases q
    | ct e2 => cases q
  | exc c p m2 =>
    rw [hf] at q
    cases q
  | bad =>
    rw [hf] at q
    cases q
theorem sh_ints (xs : List Int) : shL (xs.map D.int) = true := shL_all fun d hd => by
  obtain ⟨i, _, rfl⟩ := List.mem_map.mp hd
  rfl
def SB (n : Nat) (s : RS) : Prop := ∀ x ∈ s.seen, x.2.2.length ≤ n
theorem SB.up {n k : Nat} {s : RS} (h : SB n s) (hk : n ≤ k) : SB k s := fun x hx => Nat.le_trans (h x hx) hk
theorem SB.use {n : Nat} {s : RS} (hb : RSb n s) (h : SB n s) (num : Int) (good : Bool) (c : CardT) : SB (n + 1) (useT num good s c) := fun x hx => by
  have hr := fileAt_le hb c.nm
  simp only [useT] at hx
  split at hx
  · rcases List.mem_append.mp hx with hx | hx
    · have := h x hx
      omega
    · simp at hx
      rw [hx]
      simp
      omega
  · have := h x hx
    omega
theorem SB.fold (num : Int) (good : Bool) : ∀ (ks : List CardT) {n : Nat} {s : RS}, RSb n s → SB n s → SB (n + ks.length) (ks.foldl (useT num good) s)
  | [], n, s, _, h => h
  | c :: ks, n, s, hb, h => by
    have := SB.fold num good ks (useT_b hb num good c) (h.use hb num good c)
    rw [List.length_cons, show n + (ks.length + 1) = n + 1 + ks.length by omega]
    exact this
theorem SB.step {n : Nat} {s : RS} (hb : RSb n s) (h : SB n s) (i : Int) {st : StepT} (hk : st.ks.length ≤ 4) (en : Option Int) : SB (n + 5) (stepT i st en s) := by
  have q1 := (h.fold i false st.ks hb).up (k := n + 5) (by omega)
  have q2 := (h.fold i true st.ks hb).up (k := n + 5) (by omega)
  have q0 := h.up (k := n + 5) (by omega)
  unfold stepT stepP outT
  cases passT s st with
  | some o => exact q0
  | none =>
    cases barL (hasA s.files) 0 st.ks with
    | some o => exact q0
    | none =>
      cases en with
      | none => exact q1
      | some v => exact q2
theorem goRun_SB {deck : List StepT} (hd : DeckOk deck) (at_ : Int) : ∀ (rest : List StepT) (es : List (Option Int)) (i : Nat) (s : RS), deck.drop i = rest → es.length = rest.length → RSI i s → SB (100 + 5 * i) s → SB (100 + 5 * (i + rest.length)) (goRun at_ i rest es s)
  | [], es, i, s, _, _, _, h => by cases es <;> exact h
  | st :: rest, [], i, s, _, hl, _, _ => by cases hl
  | st :: rest, en :: es, i, s, h1, hl, hI, h => by
    have d1 : deck[i]? = some st := by
      have := congrArg (fun l => l[0]?) h1
      simpa [List.getElem?_drop] using this
    have e1 : deck.drop (i + 1) = rest := by rw [← List.tail_drop, h1]; rfl
    have := goRun_SB hd at_ rest es (i + 1) (if (i : Int) < at_ then outT (.ahead, s) else stepT i st en s) e1 (by simpa using hl) (by
      by_cases hi : (i : Int) < at_
      · rw [if_pos hi]
        exact aheadT_I hI
      · rw [if_neg hi]
        exact stepT_I hI (hd.st i st d1) en) (by
      by_cases hi : (i : Int) < at_
      · rw [if_pos hi]
        have q : SB (100 + 5 * (i + 1)) s := h.up (by omega)
        exact q
      · rw [if_neg hi]
        exact (h.step hI.rb i (hd.st i st d1).lk en).up (by omega))
    rw [List.length_cons, show i + (rest.length + 1) = i + 1 + rest.length by omega]
    exact this
theorem sh_rows {r : List Int} (h : r.length ≤ 1000) : shD (rowsD r) = true := by
  unfold rowsD
  show (decide ((r.map D.int).length ≤ 1000) && shL (r.map D.int)) = true
  rw [sh_ints, List.length_map, decide_eq_true h]
  rfl
theorem sh_lst {ds : List D} (h : ds.length ≤ 1000) (k : ∀ d ∈ ds, shD d = true) : shD (.lst ds) = true := by
  show (decide (ds.length ≤ 1000) && shL ds) = true
  rw [decide_eq_true h, shL_all k]
  rfl
theorem sh_done {deck : List StepT} (hd : DeckOk deck) {fs : List FileT} (hf : FilesW fs) {ends : List (Option Int)} (he : ends.length = deck.length) (at_ : Int) : shD (doneT (runT deck fs ends at_)) = true := by
  have le := hd.le
  have I := goRun_I hd at_ deck ends 0 (newRun fs) rfl he (newRun_I hf)
  have S := goRun_SB hd at_ deck ends 0 (newRun fs) rfl he (newRun_I hf) (fun x hx => by cases hx)
  have I' : RSb 130 (runT deck fs ends at_) := I.rb.up (by omega)
  have S' : SB 130 (runT deck fs ends at_) := S.up (by omega)
  have fl : (runT deck fs ends at_).files.length < 64 := by
    have := I.fl
    show (goRun at_ 0 deck ends (newRun fs)).files.length < 64
    omega
  generalize runT deck fs ends at_ = s at I' S' fl
  have ho := I'.outs
  have hs := I'.seen
  have a : shD (.lst (s.outs.map OutT.d)) = true := sh_lst (by rw [List.length_map]; omega) fun d hd => by
    obtain ⟨o, _, rfl⟩ := List.mem_map.mp hd
    cases o <;> rfl
  have b : shD (.lst ((leftT s.files).map leftD)) = true := sh_lst (by
    rw [List.length_map]
    unfold leftT
    rw [List.length_map]
    refine Nat.le_trans (List.length_filter_le _ _) ?_
    rw [(srtS_perm _).length_eq, List.length_map]
    omega) fun d hd => by
    obtain ⟨x, hx, rfl⟩ := List.mem_map.mp hd
    unfold leftT at hx
    obtain ⟨n, hn, rfl⟩ := List.mem_map.mp hx
    have q := sh_rows (r := (fileAt s.files n).1) (Nat.le_trans (fileAt_le I' n) (by omega))
    simp [leftD, shD, shL, q]
  have c : shD (.lst (s.seen.map seenD)) = true := sh_lst (by rw [List.length_map]; omega) fun d hd => by
    obtain ⟨x, hx, rfl⟩ := List.mem_map.mp hd
    have q := sh_rows (r := x.2.2) (Nat.le_trans (S' x hx) (by omega))
    simp [seenD, shD, shL, q]
  show (decide (3 ≤ 1000) && (shD (.lst (s.outs.map OutT.d)) && (shD (.lst ((leftT s.files).map leftD)) && (shD (.lst (s.seen.map seenD)) && true)))) = true
  rw [a, b, c]
  rfl
theorem getA_put {κ α : Type} [DecidableEq κ] (l : List (κ × α)) (k : κ) (v : α) : getA (putA l k v) k = some v := by
  unfold putA
  by_cases h : (l.any fun kv => decide (kv.1 = k)) = true
  · rw [if_pos h]
    induction l with
    | nil => simp at h
    | cons p l ih =>
      obtain ⟨k', d⟩ := p
      by_cases q : k' = k
      · simp [q, getA]
      · rw [List.any_cons] at h
        have h' : (l.any fun kv => decide (kv.1 = k)) = true := by simpa [q] using h
        simp only [List.map_cons]
        unfold getA
        rw [if_neg (by simpa [q] using q)]
        exact ih h'
  · rw [if_neg h]
    induction l with
    | nil => simp [getA]
    | cons p l ih =>
      obtain ⟨k', d⟩ := p
      rw [List.any_cons] at h
      have q : ¬ k' = k := by
        intro z
        simp [z] at h
      have h' : ¬ (l.any fun kv => decide (kv.1 = k)) = true := by simpa [q] using h
      rw [List.cons_append]
      unfold getA
      rw [if_neg q]
      exact ih h'
theorem dropA_put {κ α : Type} [DecidableEq κ] (l : List (κ × α)) (k : κ) (v : α) : dropA (putA l k v) k = dropA l k := by
  unfold putA
  by_cases h : (l.any fun kv => decide (kv.1 = k)) = true
  · rw [if_pos h]
    clear h
    induction l with
    | nil => rfl
    | cons p l ih =>
      obtain ⟨k', d⟩ := p
      unfold dropA at ih ⊢
      by_cases q : k' = k
      · simp [q] at ih ⊢
        exact ih
      · simp [q] at ih ⊢
        exact ih
  · rw [if_neg h]
    unfold dropA
    simp
def openC (files : List (Str × (List Int × Bool))) (c : CardT) : Prop := ¬ ((c.bg = "old" ∨ c.bg = "shr") ∧ hasA files c.nm = false) ∧ ¬ (c.bg = "new" ∧ hasA files c.nm = true)
theorem barL_none {has : Str → Bool} : ∀ {ks : List CardT} {n : Nat}, barL has n ks = none → ∀ c ∈ ks, ¬ ((c.bg = "old" ∨ c.bg = "shr") ∧ has c.nm = false) ∧ ¬ (c.bg = "new" ∧ has c.nm = true)
  | [], _, _, c, hc => by cases hc
  | d :: ks, n, h, c, hc => by
    unfold barL at h
    split at h
    · cases h
    · rename_i h1
      split at h
      · cases h
      · rename_i h2
        rcases List.mem_cons.mp hc with rfl | hc
        · exact ⟨h1, h2⟩
        · exact barL_none h c hc
theorem getA_put_ne {κ α : Type} [DecidableEq κ] (l : List (κ × α)) (k j : κ) (v : α) (h : j ≠ k) : getA (putA l k v) j = getA l j := by
  unfold putA
  by_cases hq : (l.any fun kv => decide (kv.1 = k)) = true
  · rw [if_pos hq]
    clear hq
    induction l with
    | nil => rfl
    | cons p l ih =>
      obtain ⟨k', d⟩ := p
      rw [List.map_cons]
      unfold getA
      by_cases q : k' = k
      · simp only [q, if_true]
        rw [if_neg (Ne.symm h), if_neg (Ne.symm h)]
        exact ih
      · simp only [q, if_false]
        rw [ih]
  · rw [if_neg hq]
    clear hq
    induction l with
    | nil => simp [getA, Ne.symm h]
    | cons p l ih =>
      obtain ⟨k', d⟩ := p
      rw [List.cons_append]
      unfold getA
      rw [ih]
theorem getA_drop_ne {κ α : Type} [DecidableEq κ] (l : List (κ × α)) (k j : κ) (h : j ≠ k) : getA (dropA l k) j = getA l j := by
  induction l with
  | nil => rfl
  | cons p l ih =>
    obtain ⟨k', d⟩ := p
    unfold dropA at ih ⊢
    by_cases q : k' = k
    · rw [List.filter_cons, if_neg (by simpa using q), ih]
      conv => rhs; unfold getA
      rw [if_neg (by rw [q]; exact Ne.symm h)]
    · rw [List.filter_cons, if_pos (by simpa using q)]
      unfold getA
      rw [ih]
theorem hasA_use (num : Int) (good : Bool) (s : RS) (c : CardT) (n : Str) (h : n ≠ c.nm) : hasA (useT num good s c).files n = hasA s.files n := by
  unfold hasA useT
  simp only
  split
  · rw [getA_drop_ne _ _ _ h]
  · rw [getA_put_ne _ _ _ _ h]
end DL

namespace DL
open PySem L2
/-! ## a run, state by state -/
section
variable (deck : List StepT) (fs : List FileT) (es : List (Option Int)) (at_ : Int)
def preT : Nat → RS
  | 0 => newRun fs
  | i + 1 => match deck[i]?, es[i]? with
    | some st, some en => if (i : Int) < at_ then outT (.ahead, preT i) else stepT i st en (preT i)
    | _, _ => preT i
def outAt (i : Nat) (st : StepT) (en : Option Int) : OutT := if (i : Int) < at_ then .ahead else (stepP i st en (preT deck fs es at_ i)).1
end
section
variable {deck : List StepT} {fs : List FileT} {es : List (Option Int)} {at_ : Int}
theorem pre_succ {i : Nat} {st : StepT} {en : Option Int} (h1 : deck[i]? = some st) (h2 : es[i]? = some en) : preT deck fs es at_ (i + 1) = if (i : Int) < at_ then outT (.ahead, preT deck fs es at_ i) else stepT i st en (preT deck fs es at_ i) := by
  simp only [preT, h1, h2]
theorem pre_go (he : es.length = deck.length) : ∀ i, i ≤ deck.length → goRun at_ i (deck.drop i) (es.drop i) (preT deck fs es at_ i) = runT deck fs es at_
  | 0, _ => rfl
  | i + 1, h => by
    have ih := pre_go he i (by omega)
    have h1 : deck[i]? = some deck[i] := List.getElem?_eq_getElem (by omega)
    have h2 : es[i]? = some es[i] := List.getElem?_eq_getElem (by omega)
    rw [← ih, List.drop_eq_getElem_cons (show i < deck.length by omega), List.drop_eq_getElem_cons (show i < es.length by omega)]
    show _ = goRun at_ (i + 1) _ _ (if (i : Int) < at_ then _ else _)
    rw [pre_succ h1 h2]
theorem pre_end (he : es.length = deck.length) : preT deck fs es at_ deck.length = runT deck fs es at_ := by
  have := pre_go (fs := fs) (at_ := at_) he deck.length (Nat.le_refl _)
  rw [List.drop_eq_nil_of_le (Nat.le_refl _)] at this
  rw [← this]
  cases es.drop deck.length <;> rfl
theorem pre_outs (he : es.length = deck.length) {i : Nat} {st : StepT} {en : Option Int} (h1 : deck[i]? = some st) (h2 : es[i]? = some en) : (preT deck fs es at_ (i + 1)).outs = (preT deck fs es at_ i).outs ++ [outAt deck fs es at_ i st en] := by
  rw [pre_succ h1 h2]
  unfold outAt
  split
  · rfl
  · simp [stepT, outT, stepP_outs]
theorem pre_len (he : es.length = deck.length) : ∀ i, i ≤ deck.length → (preT deck fs es at_ i).outs.length = i
  | 0, _ => rfl
  | i + 1, h => by
    have h1 : deck[i]? = some deck[i] := List.getElem?_eq_getElem (by omega)
    have h2 : es[i]? = some es[i] := List.getElem?_eq_getElem (by omega)
    rw [pre_outs he h1 h2, List.length_append, pre_len he i (by omega)]
    rfl
theorem pre_get (he : es.length = deck.length) {i : Nat} {st : StepT} {en : Option Int} (h1 : deck[i]? = some st) (h2 : es[i]? = some en) : ∀ j, i < j → j ≤ deck.length → (preT deck fs es at_ j).outs[i]? = some (outAt deck fs es at_ i st en)
  | 0, h, _ => by omega
  | j + 1, h, hj => by
    have k1 : deck[j]? = some deck[j] := List.getElem?_eq_getElem (by omega)
    have k2 : es[j]? = some es[j] := List.getElem?_eq_getElem (by omega)
    rw [pre_outs he k1 k2]
    by_cases e : i = j
    · subst e
      rw [List.getElem?_append_right (by rw [pre_len he i (by omega)]; exact Nat.le_refl _), pre_len he i (by omega)]
      rw [h1] at k1
      rw [h2] at k2
      cases k1
      cases k2
      simp
    · rw [List.getElem?_append_left (by rw [pre_len he j (by omega)]; omega)]
      exact pre_get he h1 h2 j (by omega) (by omega)
theorem run_get (he : es.length = deck.length) {i : Nat} {st : StepT} {en : Option Int} (h1 : deck[i]? = some st) (h2 : es[i]? = some en) : (runT deck fs es at_).outs[i]? = some (outAt deck fs es at_ i st en) := by
  have hi := (List.getElem?_eq_some_iff.mp h1).1
  rw [← pre_end he]
  exact pre_get he h1 h2 _ hi (Nat.le_refl _)
theorem run_len (he : es.length = deck.length) : (runT deck fs es at_).outs.length = deck.length := by
  rw [← pre_end he]
  exact pre_len he _ (Nat.le_refl _)
theorem pre_I (hd : DeckOk deck) (hf : FilesW fs) (he : es.length = deck.length) : ∀ i, i ≤ deck.length → RSI i (preT deck fs es at_ i)
  | 0, _ => newRun_I hf
  | i + 1, h => by
    have h1 : deck[i]? = some deck[i] := List.getElem?_eq_getElem (by omega)
    have h2 : es[i]? = some es[i] := List.getElem?_eq_getElem (by omega)
    have ih := pre_I hd hf he i (by omega)
    rw [pre_succ h1 h2]
    split
    · exact aheadT_I ih
    · exact stepT_I ih (hd.st i _ h1) _
end
end DL

namespace DL
open PySem L2
/-! ## slots written out; a store behind h -/
theorem Lsucc {α : Type} {e : List α} {n : Nat} (h : e.length = n + 1) : ∃ x r, e = x :: r ∧ r.length = n := by
  cases e with
  | nil => cases h
  | cons x r => exact ⟨x, r, rfl, by simpa using h⟩
theorem L3 {α : Type} {e : List α} (h : e.length = 3) : ∃ x0 x1 x2, e = [x0, x1, x2] := by
  obtain ⟨x0, e0, rfl, h0⟩ := Lsucc h
  obtain ⟨x1, e1, rfl, h1⟩ := Lsucc h0
  obtain ⟨x2, e2, rfl, h2⟩ := Lsucc h1
  obtain rfl := List.length_eq_zero_iff.mp h2
  exact ⟨x0, x1, x2, rfl⟩
theorem L4 {α : Type} {e : List α} (h : e.length = 4) : ∃ x0 x1 x2 x3, e = [x0, x1, x2, x3] := by
  obtain ⟨x0, e0, rfl, h0⟩ := Lsucc h
  obtain ⟨x1, e1, rfl, h1⟩ := Lsucc h0
  obtain ⟨x2, e2, rfl, h2⟩ := Lsucc h1
  obtain ⟨x3, e3, rfl, h3⟩ := Lsucc h2
  obtain rfl := List.length_eq_zero_iff.mp h3
  exact ⟨x0, x1, x2, x3, rfl⟩
theorem L5 {α : Type} {e : List α} (h : e.length = 5) : ∃ x0 x1 x2 x3 x4, e = [x0, x1, x2, x3, x4] := by
  obtain ⟨x0, e0, rfl, h0⟩ := Lsucc h
  obtain ⟨x1, e1, rfl, h1⟩ := Lsucc h0
  obtain ⟨x2, e2, rfl, h2⟩ := Lsucc h1
  obtain ⟨x3, e3, rfl, h3⟩ := Lsucc h2
  obtain ⟨x4, e4, rfl, h4⟩ := Lsucc h3
  obtain rfl := List.length_eq_zero_iff.mp h4
  exact ⟨x0, x1, x2, x3, x4, rfl⟩
theorem L6 {α : Type} {e : List α} (h : e.length = 6) : ∃ x0 x1 x2 x3 x4 x5, e = [x0, x1, x2, x3, x4, x5] := by
  obtain ⟨x0, e0, rfl, h0⟩ := Lsucc h
  obtain ⟨x1, e1, rfl, h1⟩ := Lsucc h0
  obtain ⟨x2, e2, rfl, h2⟩ := Lsucc h1
  obtain ⟨x3, e3, rfl, h3⟩ := Lsucc h2
  obtain ⟨x4, e4, rfl, h4⟩ := Lsucc h3
  obtain ⟨x5, e5, rfl, h5⟩ := Lsucc h4
  obtain rfl := List.length_eq_zero_iff.mp h5
  exact ⟨x0, x1, x2, x3, x4, x5, rfl⟩
theorem L7 {α : Type} {e : List α} (h : e.length = 7) : ∃ x0 x1 x2 x3 x4 x5 x6, e = [x0, x1, x2, x3, x4, x5, x6] := by
  obtain ⟨x0, e0, rfl, h0⟩ := Lsucc h
  obtain ⟨x1, e1, rfl, h1⟩ := Lsucc h0
  obtain ⟨x2, e2, rfl, h2⟩ := Lsucc h1
  obtain ⟨x3, e3, rfl, h3⟩ := Lsucc h2
  obtain ⟨x4, e4, rfl, h4⟩ := Lsucc h3
  obtain ⟨x5, e5, rfl, h5⟩ := Lsucc h4
  obtain ⟨x6, e6, rfl, h6⟩ := Lsucc h5
  obtain rfl := List.length_eq_zero_iff.mp h6
  exact ⟨x0, x1, x2, x3, x4, x5, x6, rfl⟩
theorem L8 {α : Type} {e : List α} (h : e.length = 8) : ∃ x0 x1 x2 x3 x4 x5 x6 x7, e = [x0, x1, x2, x3, x4, x5, x6, x7] := by
  obtain ⟨x0, e0, rfl, h0⟩ := Lsucc h
  obtain ⟨x1, e1, rfl, h1⟩ := Lsucc h0
  obtain ⟨x2, e2, rfl, h2⟩ := Lsucc h1
  obtain ⟨x3, e3, rfl, h3⟩ := Lsucc h2
  obtain ⟨x4, e4, rfl, h4⟩ := Lsucc h3
  obtain ⟨x5, e5, rfl, h5⟩ := Lsucc h4
  obtain ⟨x6, e6, rfl, h6⟩ := Lsucc h5
  obtain ⟨x7, e7, rfl, h7⟩ := Lsucc h6
  obtain rfl := List.length_eq_zero_iff.mp h7
  exact ⟨x0, x1, x2, x3, x4, x5, x6, x7, rfl⟩
theorem L9 {α : Type} {e : List α} (h : e.length = 9) : ∃ x0 x1 x2 x3 x4 x5 x6 x7 x8, e = [x0, x1, x2, x3, x4, x5, x6, x7, x8] := by
  obtain ⟨x0, e0, rfl, h0⟩ := Lsucc h
  obtain ⟨x1, e1, rfl, h1⟩ := Lsucc h0
  obtain ⟨x2, e2, rfl, h2⟩ := Lsucc h1
  obtain ⟨x3, e3, rfl, h3⟩ := Lsucc h2
  obtain ⟨x4, e4, rfl, h4⟩ := Lsucc h3
  obtain ⟨x5, e5, rfl, h5⟩ := Lsucc h4
  obtain ⟨x6, e6, rfl, h6⟩ := Lsucc h5
  obtain ⟨x7, e7, rfl, h7⟩ := Lsucc h6
  obtain ⟨x8, e8, rfl, h8⟩ := Lsucc h7
  obtain rfl := List.length_eq_zero_iff.mp h8
  exact ⟨x0, x1, x2, x3, x4, x5, x6, x7, x8, rfl⟩
theorem L10 {α : Type} {e : List α} (h : e.length = 10) : ∃ x0 x1 x2 x3 x4 x5 x6 x7 x8 x9, e = [x0, x1, x2, x3, x4, x5, x6, x7, x8, x9] := by
  obtain ⟨x0, e0, rfl, h0⟩ := Lsucc h
  obtain ⟨x1, e1, rfl, h1⟩ := Lsucc h0
  obtain ⟨x2, e2, rfl, h2⟩ := Lsucc h1
  obtain ⟨x3, e3, rfl, h3⟩ := Lsucc h2
  obtain ⟨x4, e4, rfl, h4⟩ := Lsucc h3
  obtain ⟨x5, e5, rfl, h5⟩ := Lsucc h4
  obtain ⟨x6, e6, rfl, h6⟩ := Lsucc h5
  obtain ⟨x7, e7, rfl, h7⟩ := Lsucc h6
  obtain ⟨x8, e8, rfl, h8⟩ := Lsucc h7
  obtain ⟨x9, e9, rfl, h9⟩ := Lsucc h8
  obtain rfl := List.length_eq_zero_iff.mp h9
  exact ⟨x0, x1, x2, x3, x4, x5, x6, x7, x8, x9, rfl⟩
theorem L11 {α : Type} {e : List α} (h : e.length = 11) : ∃ x0 x1 x2 x3 x4 x5 x6 x7 x8 x9 x10, e = [x0, x1, x2, x3, x4, x5, x6, x7, x8, x9, x10] := by
  obtain ⟨x0, e0, rfl, h0⟩ := Lsucc h
  obtain ⟨x1, e1, rfl, h1⟩ := Lsucc h0
  obtain ⟨x2, e2, rfl, h2⟩ := Lsucc h1
  obtain ⟨x3, e3, rfl, h3⟩ := Lsucc h2
  obtain ⟨x4, e4, rfl, h4⟩ := Lsucc h3
  obtain ⟨x5, e5, rfl, h5⟩ := Lsucc h4
  obtain ⟨x6, e6, rfl, h6⟩ := Lsucc h5
  obtain ⟨x7, e7, rfl, h7⟩ := Lsucc h6
  obtain ⟨x8, e8, rfl, h8⟩ := Lsucc h7
  obtain ⟨x9, e9, rfl, h9⟩ := Lsucc h8
  obtain ⟨x10, e10, rfl, h10⟩ := Lsucc h9
  obtain rfl := List.length_eq_zero_iff.mp h10
  exact ⟨x0, x1, x2, x3, x4, x5, x6, x7, x8, x9, x10, rfl⟩
theorem L12 {α : Type} {e : List α} (h : e.length = 12) : ∃ x0 x1 x2 x3 x4 x5 x6 x7 x8 x9 x10 x11, e = [x0, x1, x2, x3, x4, x5, x6, x7, x8, x9, x10, x11] := by
  obtain ⟨x0, e0, rfl, h0⟩ := Lsucc h
  obtain ⟨x1, e1, rfl, h1⟩ := Lsucc h0
  obtain ⟨x2, e2, rfl, h2⟩ := Lsucc h1
  obtain ⟨x3, e3, rfl, h3⟩ := Lsucc h2
  obtain ⟨x4, e4, rfl, h4⟩ := Lsucc h3
  obtain ⟨x5, e5, rfl, h5⟩ := Lsucc h4
  obtain ⟨x6, e6, rfl, h6⟩ := Lsucc h5
  obtain ⟨x7, e7, rfl, h7⟩ := Lsucc h6
  obtain ⟨x8, e8, rfl, h8⟩ := Lsucc h7
  obtain ⟨x9, e9, rfl, h9⟩ := Lsucc h8
  obtain ⟨x10, e10, rfl, h10⟩ := Lsucc h9
  obtain ⟨x11, e11, rfl, h11⟩ := Lsucc h10
  obtain rfl := List.length_eq_zero_iff.mp h11
  exact ⟨x0, x1, x2, x3, x4, x5, x6, x7, x8, x9, x10, x11, rfl⟩
theorem L13 {α : Type} {e : List α} (h : e.length = 13) : ∃ x0 x1 x2 x3 x4 x5 x6 x7 x8 x9 x10 x11 x12, e = [x0, x1, x2, x3, x4, x5, x6, x7, x8, x9, x10, x11, x12] := by
  obtain ⟨x0, e0, rfl, h0⟩ := Lsucc h
  obtain ⟨x1, e1, rfl, h1⟩ := Lsucc h0
  obtain ⟨x2, e2, rfl, h2⟩ := Lsucc h1
  obtain ⟨x3, e3, rfl, h3⟩ := Lsucc h2
  obtain ⟨x4, e4, rfl, h4⟩ := Lsucc h3
  obtain ⟨x5, e5, rfl, h5⟩ := Lsucc h4
  obtain ⟨x6, e6, rfl, h6⟩ := Lsucc h5
  obtain ⟨x7, e7, rfl, h7⟩ := Lsucc h6
  obtain ⟨x8, e8, rfl, h8⟩ := Lsucc h7
  obtain ⟨x9, e9, rfl, h9⟩ := Lsucc h8
  obtain ⟨x10, e10, rfl, h10⟩ := Lsucc h9
  obtain ⟨x11, e11, rfl, h11⟩ := Lsucc h10
  obtain ⟨x12, e12, rfl, h12⟩ := Lsucc h11
  obtain rfl := List.length_eq_zero_iff.mp h12
  exact ⟨x0, x1, x2, x3, x4, x5, x6, x7, x8, x9, x10, x11, x12, rfl⟩
theorem L14 {α : Type} {e : List α} (h : e.length = 14) : ∃ x0 x1 x2 x3 x4 x5 x6 x7 x8 x9 x10 x11 x12 x13, e = [x0, x1, x2, x3, x4, x5, x6, x7, x8, x9, x10, x11, x12, x13] := by
  obtain ⟨x0, e0, rfl, h0⟩ := Lsucc h
  obtain ⟨x1, e1, rfl, h1⟩ := Lsucc h0
  obtain ⟨x2, e2, rfl, h2⟩ := Lsucc h1
  obtain ⟨x3, e3, rfl, h3⟩ := Lsucc h2
  obtain ⟨x4, e4, rfl, h4⟩ := Lsucc h3
  obtain ⟨x5, e5, rfl, h5⟩ := Lsucc h4
  obtain ⟨x6, e6, rfl, h6⟩ := Lsucc h5
  obtain ⟨x7, e7, rfl, h7⟩ := Lsucc h6
  obtain ⟨x8, e8, rfl, h8⟩ := Lsucc h7
  obtain ⟨x9, e9, rfl, h9⟩ := Lsucc h8
  obtain ⟨x10, e10, rfl, h10⟩ := Lsucc h9
  obtain ⟨x11, e11, rfl, h11⟩ := Lsucc h10
  obtain ⟨x12, e12, rfl, h12⟩ := Lsucc h11
  obtain ⟨x13, e13, rfl, h13⟩ := Lsucc h12
  obtain rfl := List.length_eq_zero_iff.mp h13
  exact ⟨x0, x1, x2, x3, x4, x5, x6, x7, x8, x9, x10, x11, x12, x13, rfl⟩
theorem L15 {α : Type} {e : List α} (h : e.length = 15) : ∃ x0 x1 x2 x3 x4 x5 x6 x7 x8 x9 x10 x11 x12 x13 x14, e = [x0, x1, x2, x3, x4, x5, x6, x7, x8, x9, x10, x11, x12, x13, x14] := by
  obtain ⟨x0, e0, rfl, h0⟩ := Lsucc h
  obtain ⟨x1, e1, rfl, h1⟩ := Lsucc h0
  obtain ⟨x2, e2, rfl, h2⟩ := Lsucc h1
  obtain ⟨x3, e3, rfl, h3⟩ := Lsucc h2
  obtain ⟨x4, e4, rfl, h4⟩ := Lsucc h3
  obtain ⟨x5, e5, rfl, h5⟩ := Lsucc h4
  obtain ⟨x6, e6, rfl, h6⟩ := Lsucc h5
  obtain ⟨x7, e7, rfl, h7⟩ := Lsucc h6
  obtain ⟨x8, e8, rfl, h8⟩ := Lsucc h7
  obtain ⟨x9, e9, rfl, h9⟩ := Lsucc h8
  obtain ⟨x10, e10, rfl, h10⟩ := Lsucc h9
  obtain ⟨x11, e11, rfl, h11⟩ := Lsucc h10
  obtain ⟨x12, e12, rfl, h12⟩ := Lsucc h11
  obtain ⟨x13, e13, rfl, h13⟩ := Lsucc h12
  obtain ⟨x14, e14, rfl, h14⟩ := Lsucc h13
  obtain rfl := List.length_eq_zero_iff.mp h14
  exact ⟨x0, x1, x2, x3, x4, x5, x6, x7, x8, x9, x10, x11, x12, x13, x14, rfl⟩
theorem L16 {α : Type} {e : List α} (h : e.length = 16) : ∃ x0 x1 x2 x3 x4 x5 x6 x7 x8 x9 x10 x11 x12 x13 x14 x15, e = [x0, x1, x2, x3, x4, x5, x6, x7, x8, x9, x10, x11, x12, x13, x14, x15] := by
  obtain ⟨x0, e0, rfl, h0⟩ := Lsucc h
  obtain ⟨x1, e1, rfl, h1⟩ := Lsucc h0
  obtain ⟨x2, e2, rfl, h2⟩ := Lsucc h1
  obtain ⟨x3, e3, rfl, h3⟩ := Lsucc h2
  obtain ⟨x4, e4, rfl, h4⟩ := Lsucc h3
  obtain ⟨x5, e5, rfl, h5⟩ := Lsucc h4
  obtain ⟨x6, e6, rfl, h6⟩ := Lsucc h5
  obtain ⟨x7, e7, rfl, h7⟩ := Lsucc h6
  obtain ⟨x8, e8, rfl, h8⟩ := Lsucc h7
  obtain ⟨x9, e9, rfl, h9⟩ := Lsucc h8
  obtain ⟨x10, e10, rfl, h10⟩ := Lsucc h9
  obtain ⟨x11, e11, rfl, h11⟩ := Lsucc h10
  obtain ⟨x12, e12, rfl, h12⟩ := Lsucc h11
  obtain ⟨x13, e13, rfl, h13⟩ := Lsucc h12
  obtain ⟨x14, e14, rfl, h14⟩ := Lsucc h13
  obtain ⟨x15, e15, rfl, h15⟩ := Lsucc h14
  obtain rfl := List.length_eq_zero_iff.mp h15
  exact ⟨x0, x1, x2, x3, x4, x5, x6, x7, x8, x9, x10, x11, x12, x13, x14, x15, rfl⟩
theorem L17 {α : Type} {e : List α} (h : e.length = 17) : ∃ x0 x1 x2 x3 x4 x5 x6 x7 x8 x9 x10 x11 x12 x13 x14 x15 x16, e = [x0, x1, x2, x3, x4, x5, x6, x7, x8, x9, x10, x11, x12, x13, x14, x15, x16] := by
  obtain ⟨x0, e0, rfl, h0⟩ := Lsucc h
  obtain ⟨x1, e1, rfl, h1⟩ := Lsucc h0
  obtain ⟨x2, e2, rfl, h2⟩ := Lsucc h1
  obtain ⟨x3, e3, rfl, h3⟩ := Lsucc h2
  obtain ⟨x4, e4, rfl, h4⟩ := Lsucc h3
  obtain ⟨x5, e5, rfl, h5⟩ := Lsucc h4
  obtain ⟨x6, e6, rfl, h6⟩ := Lsucc h5
  obtain ⟨x7, e7, rfl, h7⟩ := Lsucc h6
  obtain ⟨x8, e8, rfl, h8⟩ := Lsucc h7
  obtain ⟨x9, e9, rfl, h9⟩ := Lsucc h8
  obtain ⟨x10, e10, rfl, h10⟩ := Lsucc h9
  obtain ⟨x11, e11, rfl, h11⟩ := Lsucc h10
  obtain ⟨x12, e12, rfl, h12⟩ := Lsucc h11
  obtain ⟨x13, e13, rfl, h13⟩ := Lsucc h12
  obtain ⟨x14, e14, rfl, h14⟩ := Lsucc h13
  obtain ⟨x15, e15, rfl, h15⟩ := Lsucc h14
  obtain ⟨x16, e16, rfl, h16⟩ := Lsucc h15
  obtain rfl := List.length_eq_zero_iff.mp h16
  exact ⟨x0, x1, x2, x3, x4, x5, x6, x7, x8, x9, x10, x11, x12, x13, x14, x15, x16, rfl⟩
theorem L18 {α : Type} {e : List α} (h : e.length = 18) : ∃ x0 x1 x2 x3 x4 x5 x6 x7 x8 x9 x10 x11 x12 x13 x14 x15 x16 x17, e = [x0, x1, x2, x3, x4, x5, x6, x7, x8, x9, x10, x11, x12, x13, x14, x15, x16, x17] := by
  obtain ⟨x0, e0, rfl, h0⟩ := Lsucc h
  obtain ⟨x1, e1, rfl, h1⟩ := Lsucc h0
  obtain ⟨x2, e2, rfl, h2⟩ := Lsucc h1
  obtain ⟨x3, e3, rfl, h3⟩ := Lsucc h2
  obtain ⟨x4, e4, rfl, h4⟩ := Lsucc h3
  obtain ⟨x5, e5, rfl, h5⟩ := Lsucc h4
  obtain ⟨x6, e6, rfl, h6⟩ := Lsucc h5
  obtain ⟨x7, e7, rfl, h7⟩ := Lsucc h6
  obtain ⟨x8, e8, rfl, h8⟩ := Lsucc h7
  obtain ⟨x9, e9, rfl, h9⟩ := Lsucc h8
  obtain ⟨x10, e10, rfl, h10⟩ := Lsucc h9
  obtain ⟨x11, e11, rfl, h11⟩ := Lsucc h10
  obtain ⟨x12, e12, rfl, h12⟩ := Lsucc h11
  obtain ⟨x13, e13, rfl, h13⟩ := Lsucc h12
  obtain ⟨x14, e14, rfl, h14⟩ := Lsucc h13
  obtain ⟨x15, e15, rfl, h15⟩ := Lsucc h14
  obtain ⟨x16, e16, rfl, h16⟩ := Lsucc h15
  obtain ⟨x17, e17, rfl, h17⟩ := Lsucc h16
  obtain rfl := List.length_eq_zero_iff.mp h17
  exact ⟨x0, x1, x2, x3, x4, x5, x6, x7, x8, x9, x10, x11, x12, x13, x14, x15, x16, x17, rfl⟩
theorem L19 {α : Type} {e : List α} (h : e.length = 19) : ∃ x0 x1 x2 x3 x4 x5 x6 x7 x8 x9 x10 x11 x12 x13 x14 x15 x16 x17 x18, e = [x0, x1, x2, x3, x4, x5, x6, x7, x8, x9, x10, x11, x12, x13, x14, x15, x16, x17, x18] := by
  obtain ⟨x0, e0, rfl, h0⟩ := Lsucc h
  obtain ⟨x1, e1, rfl, h1⟩ := Lsucc h0
  obtain ⟨x2, e2, rfl, h2⟩ := Lsucc h1
  obtain ⟨x3, e3, rfl, h3⟩ := Lsucc h2
  obtain ⟨x4, e4, rfl, h4⟩ := Lsucc h3
  obtain ⟨x5, e5, rfl, h5⟩ := Lsucc h4
  obtain ⟨x6, e6, rfl, h6⟩ := Lsucc h5
  obtain ⟨x7, e7, rfl, h7⟩ := Lsucc h6
  obtain ⟨x8, e8, rfl, h8⟩ := Lsucc h7
  obtain ⟨x9, e9, rfl, h9⟩ := Lsucc h8
  obtain ⟨x10, e10, rfl, h10⟩ := Lsucc h9
  obtain ⟨x11, e11, rfl, h11⟩ := Lsucc h10
  obtain ⟨x12, e12, rfl, h12⟩ := Lsucc h11
  obtain ⟨x13, e13, rfl, h13⟩ := Lsucc h12
  obtain ⟨x14, e14, rfl, h14⟩ := Lsucc h13
  obtain ⟨x15, e15, rfl, h15⟩ := Lsucc h14
  obtain ⟨x16, e16, rfl, h16⟩ := Lsucc h15
  obtain ⟨x17, e17, rfl, h17⟩ := Lsucc h16
  obtain ⟨x18, e18, rfl, h18⟩ := Lsucc h17
  obtain rfl := List.length_eq_zero_iff.mp h18
  exact ⟨x0, x1, x2, x3, x4, x5, x6, x7, x8, x9, x10, x11, x12, x13, x14, x15, x16, x17, x18, rfl⟩
theorem L20 {α : Type} {e : List α} (h : e.length = 20) : ∃ x0 x1 x2 x3 x4 x5 x6 x7 x8 x9 x10 x11 x12 x13 x14 x15 x16 x17 x18 x19, e = [x0, x1, x2, x3, x4, x5, x6, x7, x8, x9, x10, x11, x12, x13, x14, x15, x16, x17, x18, x19] := by
  obtain ⟨x0, e0, rfl, h0⟩ := Lsucc h
  obtain ⟨x1, e1, rfl, h1⟩ := Lsucc h0
  obtain ⟨x2, e2, rfl, h2⟩ := Lsucc h1
  obtain ⟨x3, e3, rfl, h3⟩ := Lsucc h2
  obtain ⟨x4, e4, rfl, h4⟩ := Lsucc h3
  obtain ⟨x5, e5, rfl, h5⟩ := Lsucc h4
  obtain ⟨x6, e6, rfl, h6⟩ := Lsucc h5
  obtain ⟨x7, e7, rfl, h7⟩ := Lsucc h6
  obtain ⟨x8, e8, rfl, h8⟩ := Lsucc h7
  obtain ⟨x9, e9, rfl, h9⟩ := Lsucc h8
  obtain ⟨x10, e10, rfl, h10⟩ := Lsucc h9
  obtain ⟨x11, e11, rfl, h11⟩ := Lsucc h10
  obtain ⟨x12, e12, rfl, h12⟩ := Lsucc h11
  obtain ⟨x13, e13, rfl, h13⟩ := Lsucc h12
  obtain ⟨x14, e14, rfl, h14⟩ := Lsucc h13
  obtain ⟨x15, e15, rfl, h15⟩ := Lsucc h14
  obtain ⟨x16, e16, rfl, h16⟩ := Lsucc h15
  obtain ⟨x17, e17, rfl, h17⟩ := Lsucc h16
  obtain ⟨x18, e18, rfl, h18⟩ := Lsucc h17
  obtain ⟨x19, e19, rfl, h19⟩ := Lsucc h18
  obtain rfl := List.length_eq_zero_iff.mp h19
  exact ⟨x0, x1, x2, x3, x4, x5, x6, x7, x8, x9, x10, x11, x12, x13, x14, x15, x16, x17, x18, x19, rfl⟩
theorem L21 {α : Type} {e : List α} (h : e.length = 21) : ∃ x0 x1 x2 x3 x4 x5 x6 x7 x8 x9 x10 x11 x12 x13 x14 x15 x16 x17 x18 x19 x20, e = [x0, x1, x2, x3, x4, x5, x6, x7, x8, x9, x10, x11, x12, x13, x14, x15, x16, x17, x18, x19, x20] := by
  obtain ⟨x0, e0, rfl, h0⟩ := Lsucc h
  obtain ⟨x1, e1, rfl, h1⟩ := Lsucc h0
  obtain ⟨x2, e2, rfl, h2⟩ := Lsucc h1
  obtain ⟨x3, e3, rfl, h3⟩ := Lsucc h2
  obtain ⟨x4, e4, rfl, h4⟩ := Lsucc h3
  obtain ⟨x5, e5, rfl, h5⟩ := Lsucc h4
  obtain ⟨x6, e6, rfl, h6⟩ := Lsucc h5
  obtain ⟨x7, e7, rfl, h7⟩ := Lsucc h6
  obtain ⟨x8, e8, rfl, h8⟩ := Lsucc h7
  obtain ⟨x9, e9, rfl, h9⟩ := Lsucc h8
  obtain ⟨x10, e10, rfl, h10⟩ := Lsucc h9
  obtain ⟨x11, e11, rfl, h11⟩ := Lsucc h10
  obtain ⟨x12, e12, rfl, h12⟩ := Lsucc h11
  obtain ⟨x13, e13, rfl, h13⟩ := Lsucc h12
  obtain ⟨x14, e14, rfl, h14⟩ := Lsucc h13
  obtain ⟨x15, e15, rfl, h15⟩ := Lsucc h14
  obtain ⟨x16, e16, rfl, h16⟩ := Lsucc h15
  obtain ⟨x17, e17, rfl, h17⟩ := Lsucc h16
  obtain ⟨x18, e18, rfl, h18⟩ := Lsucc h17
  obtain ⟨x19, e19, rfl, h19⟩ := Lsucc h18
  obtain ⟨x20, e20, rfl, h20⟩ := Lsucc h19
  obtain rfl := List.length_eq_zero_iff.mp h20
  exact ⟨x0, x1, x2, x3, x4, x5, x6, x7, x8, x9, x10, x11, x12, x13, x14, x15, x16, x17, x18, x19, x20, rfl⟩
theorem L22 {α : Type} {e : List α} (h : e.length = 22) : ∃ x0 x1 x2 x3 x4 x5 x6 x7 x8 x9 x10 x11 x12 x13 x14 x15 x16 x17 x18 x19 x20 x21, e = [x0, x1, x2, x3, x4, x5, x6, x7, x8, x9, x10, x11, x12, x13, x14, x15, x16, x17, x18, x19, x20, x21] := by
  obtain ⟨x0, e0, rfl, h0⟩ := Lsucc h
  obtain ⟨x1, e1, rfl, h1⟩ := Lsucc h0
  obtain ⟨x2, e2, rfl, h2⟩ := Lsucc h1
  obtain ⟨x3, e3, rfl, h3⟩ := Lsucc h2
  obtain ⟨x4, e4, rfl, h4⟩ := Lsucc h3
  obtain ⟨x5, e5, rfl, h5⟩ := Lsucc h4
  obtain ⟨x6, e6, rfl, h6⟩ := Lsucc h5
  obtain ⟨x7, e7, rfl, h7⟩ := Lsucc h6
  obtain ⟨x8, e8, rfl, h8⟩ := Lsucc h7
  obtain ⟨x9, e9, rfl, h9⟩ := Lsucc h8
  obtain ⟨x10, e10, rfl, h10⟩ := Lsucc h9
  obtain ⟨x11, e11, rfl, h11⟩ := Lsucc h10
  obtain ⟨x12, e12, rfl, h12⟩ := Lsucc h11
  obtain ⟨x13, e13, rfl, h13⟩ := Lsucc h12
  obtain ⟨x14, e14, rfl, h14⟩ := Lsucc h13
  obtain ⟨x15, e15, rfl, h15⟩ := Lsucc h14
  obtain ⟨x16, e16, rfl, h16⟩ := Lsucc h15
  obtain ⟨x17, e17, rfl, h17⟩ := Lsucc h16
  obtain ⟨x18, e18, rfl, h18⟩ := Lsucc h17
  obtain ⟨x19, e19, rfl, h19⟩ := Lsucc h18
  obtain ⟨x20, e20, rfl, h20⟩ := Lsucc h19
  obtain ⟨x21, e21, rfl, h21⟩ := Lsucc h20
  obtain rfl := List.length_eq_zero_iff.mp h21
  exact ⟨x0, x1, x2, x3, x4, x5, x6, x7, x8, x9, x10, x11, x12, x13, x14, x15, x16, x17, x18, x19, x20, x21, rfl⟩
theorem L23 {α : Type} {e : List α} (h : e.length = 23) : ∃ x0 x1 x2 x3 x4 x5 x6 x7 x8 x9 x10 x11 x12 x13 x14 x15 x16 x17 x18 x19 x20 x21 x22, e = [x0, x1, x2, x3, x4, x5, x6, x7, x8, x9, x10, x11, x12, x13, x14, x15, x16, x17, x18, x19, x20, x21, x22] := by
  obtain ⟨x0, e0, rfl, h0⟩ := Lsucc h
  obtain ⟨x1, e1, rfl, h1⟩ := Lsucc h0
  obtain ⟨x2, e2, rfl, h2⟩ := Lsucc h1
  obtain ⟨x3, e3, rfl, h3⟩ := Lsucc h2
  obtain ⟨x4, e4, rfl, h4⟩ := Lsucc h3
  obtain ⟨x5, e5, rfl, h5⟩ := Lsucc h4
  obtain ⟨x6, e6, rfl, h6⟩ := Lsucc h5
  obtain ⟨x7, e7, rfl, h7⟩ := Lsucc h6
  obtain ⟨x8, e8, rfl, h8⟩ := Lsucc h7
  obtain ⟨x9, e9, rfl, h9⟩ := Lsucc h8
  obtain ⟨x10, e10, rfl, h10⟩ := Lsucc h9
  obtain ⟨x11, e11, rfl, h11⟩ := Lsucc h10
  obtain ⟨x12, e12, rfl, h12⟩ := Lsucc h11
  obtain ⟨x13, e13, rfl, h13⟩ := Lsucc h12
  obtain ⟨x14, e14, rfl, h14⟩ := Lsucc h13
  obtain ⟨x15, e15, rfl, h15⟩ := Lsucc h14
  obtain ⟨x16, e16, rfl, h16⟩ := Lsucc h15
  obtain ⟨x17, e17, rfl, h17⟩ := Lsucc h16
  obtain ⟨x18, e18, rfl, h18⟩ := Lsucc h17
  obtain ⟨x19, e19, rfl, h19⟩ := Lsucc h18
  obtain ⟨x20, e20, rfl, h20⟩ := Lsucc h19
  obtain ⟨x21, e21, rfl, h21⟩ := Lsucc h20
  obtain ⟨x22, e22, rfl, h22⟩ := Lsucc h21
  obtain rfl := List.length_eq_zero_iff.mp h22
  exact ⟨x0, x1, x2, x3, x4, x5, x6, x7, x8, x9, x10, x11, x12, x13, x14, x15, x16, x17, x18, x19, x20, x21, x22, rfl⟩
theorem L24 {α : Type} {e : List α} (h : e.length = 24) : ∃ x0 x1 x2 x3 x4 x5 x6 x7 x8 x9 x10 x11 x12 x13 x14 x15 x16 x17 x18 x19 x20 x21 x22 x23, e = [x0, x1, x2, x3, x4, x5, x6, x7, x8, x9, x10, x11, x12, x13, x14, x15, x16, x17, x18, x19, x20, x21, x22, x23] := by
  obtain ⟨x0, e0, rfl, h0⟩ := Lsucc h
  obtain ⟨x1, e1, rfl, h1⟩ := Lsucc h0
  obtain ⟨x2, e2, rfl, h2⟩ := Lsucc h1
  obtain ⟨x3, e3, rfl, h3⟩ := Lsucc h2
  obtain ⟨x4, e4, rfl, h4⟩ := Lsucc h3
  obtain ⟨x5, e5, rfl, h5⟩ := Lsucc h4
  obtain ⟨x6, e6, rfl, h6⟩ := Lsucc h5
  obtain ⟨x7, e7, rfl, h7⟩ := Lsucc h6
  obtain ⟨x8, e8, rfl, h8⟩ := Lsucc h7
  obtain ⟨x9, e9, rfl, h9⟩ := Lsucc h8
  obtain ⟨x10, e10, rfl, h10⟩ := Lsucc h9
  obtain ⟨x11, e11, rfl, h11⟩ := Lsucc h10
  obtain ⟨x12, e12, rfl, h12⟩ := Lsucc h11
  obtain ⟨x13, e13, rfl, h13⟩ := Lsucc h12
  obtain ⟨x14, e14, rfl, h14⟩ := Lsucc h13
  obtain ⟨x15, e15, rfl, h15⟩ := Lsucc h14
  obtain ⟨x16, e16, rfl, h16⟩ := Lsucc h15
  obtain ⟨x17, e17, rfl, h17⟩ := Lsucc h16
  obtain ⟨x18, e18, rfl, h18⟩ := Lsucc h17
  obtain ⟨x19, e19, rfl, h19⟩ := Lsucc h18
  obtain ⟨x20, e20, rfl, h20⟩ := Lsucc h19
  obtain ⟨x21, e21, rfl, h21⟩ := Lsucc h20
  obtain ⟨x22, e22, rfl, h22⟩ := Lsucc h21
  obtain ⟨x23, e23, rfl, h23⟩ := Lsucc h22
  obtain rfl := List.length_eq_zero_iff.mp h23
  exact ⟨x0, x1, x2, x3, x4, x5, x6, x7, x8, x9, x10, x11, x12, x13, x14, x15, x16, x17, x18, x19, x20, x21, x22, x23, rfl⟩
theorem L25 {α : Type} {e : List α} (h : e.length = 25) : ∃ x0 x1 x2 x3 x4 x5 x6 x7 x8 x9 x10 x11 x12 x13 x14 x15 x16 x17 x18 x19 x20 x21 x22 x23 x24, e = [x0, x1, x2, x3, x4, x5, x6, x7, x8, x9, x10, x11, x12, x13, x14, x15, x16, x17, x18, x19, x20, x21, x22, x23, x24] := by
  obtain ⟨x0, e0, rfl, h0⟩ := Lsucc h
  obtain ⟨x1, e1, rfl, h1⟩ := Lsucc h0
  obtain ⟨x2, e2, rfl, h2⟩ := Lsucc h1
  obtain ⟨x3, e3, rfl, h3⟩ := Lsucc h2
  obtain ⟨x4, e4, rfl, h4⟩ := Lsucc h3
  obtain ⟨x5, e5, rfl, h5⟩ := Lsucc h4
  obtain ⟨x6, e6, rfl, h6⟩ := Lsucc h5
  obtain ⟨x7, e7, rfl, h7⟩ := Lsucc h6
  obtain ⟨x8, e8, rfl, h8⟩ := Lsucc h7
  obtain ⟨x9, e9, rfl, h9⟩ := Lsucc h8
  obtain ⟨x10, e10, rfl, h10⟩ := Lsucc h9
  obtain ⟨x11, e11, rfl, h11⟩ := Lsucc h10
  obtain ⟨x12, e12, rfl, h12⟩ := Lsucc h11
  obtain ⟨x13, e13, rfl, h13⟩ := Lsucc h12
  obtain ⟨x14, e14, rfl, h14⟩ := Lsucc h13
  obtain ⟨x15, e15, rfl, h15⟩ := Lsucc h14
  obtain ⟨x16, e16, rfl, h16⟩ := Lsucc h15
  obtain ⟨x17, e17, rfl, h17⟩ := Lsucc h16
  obtain ⟨x18, e18, rfl, h18⟩ := Lsucc h17
  obtain ⟨x19, e19, rfl, h19⟩ := Lsucc h18
  obtain ⟨x20, e20, rfl, h20⟩ := Lsucc h19
  obtain ⟨x21, e21, rfl, h21⟩ := Lsucc h20
  obtain ⟨x22, e22, rfl, h22⟩ := Lsucc h21
  obtain ⟨x23, e23, rfl, h23⟩ := Lsucc h22
  obtain ⟨x24, e24, rfl, h24⟩ := Lsucc h23
  obtain rfl := List.length_eq_zero_iff.mp h24
  exact ⟨x0, x1, x2, x3, x4, x5, x6, x7, x8, x9, x10, x11, x12, x13, x14, x15, x16, x17, x18, x19, x20, x21, x22, x23, x24, rfl⟩
theorem L26 {α : Type} {e : List α} (h : e.length = 26) : ∃ x0 x1 x2 x3 x4 x5 x6 x7 x8 x9 x10 x11 x12 x13 x14 x15 x16 x17 x18 x19 x20 x21 x22 x23 x24 x25, e = [x0, x1, x2, x3, x4, x5, x6, x7, x8, x9, x10, x11, x12, x13, x14, x15, x16, x17, x18, x19, x20, x21, x22, x23, x24, x25] := by
  obtain ⟨x0, e0, rfl, h0⟩ := Lsucc h
  obtain ⟨x1, e1, rfl, h1⟩ := Lsucc h0
  obtain ⟨x2, e2, rfl, h2⟩ := Lsucc h1
  obtain ⟨x3, e3, rfl, h3⟩ := Lsucc h2
  obtain ⟨x4, e4, rfl, h4⟩ := Lsucc h3
  obtain ⟨x5, e5, rfl, h5⟩ := Lsucc h4
  obtain ⟨x6, e6, rfl, h6⟩ := Lsucc h5
  obtain ⟨x7, e7, rfl, h7⟩ := Lsucc h6
  obtain ⟨x8, e8, rfl, h8⟩ := Lsucc h7
  obtain ⟨x9, e9, rfl, h9⟩ := Lsucc h8
  obtain ⟨x10, e10, rfl, h10⟩ := Lsucc h9
  obtain ⟨x11, e11, rfl, h11⟩ := Lsucc h10
  obtain ⟨x12, e12, rfl, h12⟩ := Lsucc h11
  obtain ⟨x13, e13, rfl, h13⟩ := Lsucc h12
  obtain ⟨x14, e14, rfl, h14⟩ := Lsucc h13
  obtain ⟨x15, e15, rfl, h15⟩ := Lsucc h14
  obtain ⟨x16, e16, rfl, h16⟩ := Lsucc h15
  obtain ⟨x17, e17, rfl, h17⟩ := Lsucc h16
  obtain ⟨x18, e18, rfl, h18⟩ := Lsucc h17
  obtain ⟨x19, e19, rfl, h19⟩ := Lsucc h18
  obtain ⟨x20, e20, rfl, h20⟩ := Lsucc h19
  obtain ⟨x21, e21, rfl, h21⟩ := Lsucc h20
  obtain ⟨x22, e22, rfl, h22⟩ := Lsucc h21
  obtain ⟨x23, e23, rfl, h23⟩ := Lsucc h22
  obtain ⟨x24, e24, rfl, h24⟩ := Lsucc h23
  obtain ⟨x25, e25, rfl, h25⟩ := Lsucc h24
  obtain rfl := List.length_eq_zero_iff.mp h25
  exact ⟨x0, x1, x2, x3, x4, x5, x6, x7, x8, x9, x10, x11, x12, x13, x14, x15, x16, x17, x18, x19, x20, x21, x22, x23, x24, x25, rfl⟩
def HL (m : Mem) : Prop := ∃ rest, HM rest m ∧ LowR rest
theorem HL.more {m : Mem} (h : HL m) {x : Mem} (hx : ∀ k, x.all (lowM k) = true) : HL (m ++ x) := by
  obtain ⟨rest, ⟨cs, mx, a, rfl⟩, hl⟩ := h
  refine ⟨rest ++ x, ⟨cs, mx, a, by simp⟩, ?_⟩
  unfold LowR at hl ⊢
  rw [List.all_append, Bool.and_eq_true]
  exact ⟨List.all_eq_true.mpr fun c hc => lowM_up (by simp) (List.all_eq_true.mp hl c hc), hx _⟩
theorem HL.lst {m : Mem} (h : HL m) {ds : List D} {n : Nat} (hd : gdL n ds = true) : HL (m ++ [.lst ds]) := h.more fun k => by
  simp [lowM, gdL_low k n ds hd]
theorem z_next' {m : Mem} (h : HL m) {many : Int} (h0 : 0 < many) (h1 : many < 1073741824) : ∃ (r : Nat) (m' : Mem), d_law_next [.ref 1, .int many] m = .ok (.int r) m' ∧ HL m' ∧ (r : Int) < many := by
  obtain ⟨rest, hm, hl⟩ := h
  obtain ⟨r, m', q, a, b⟩ := z_next hm h0 h1
  exact ⟨r, m', q, ⟨rest, a, hl⟩, b⟩
theorem z_deck' {m : Mem} (h : HL m) : ∃ (dk : List StepT) (m' : Mem), d_law_deck [.ref 1] m = .ok (deckD dk) m' ∧ HL m' ∧ DeckOk dk := by
  obtain ⟨rest, hm, hl⟩ := h
  obtain ⟨r, m', q, a, b⟩ := z_law_deck hm hl
  exact ⟨r, m', q, ⟨rest, a, hl⟩, b⟩
theorem z_mix' (xs : List Int) (k : Int) : ∃ m', d_law_mix [.scr xs, .int k] [] = .ok (.ref 1) m' ∧ HL m' := by
  obtain ⟨m', q, h⟩ := z_mix_k xs k
  exact ⟨m', q, [], h, rfl⟩
theorem par_ok {i j : Nat} {f : ADen} {e : Sl} {m m1 : Mem} {a b : D} (h : f e m = .ok [a, b] m1) : sPar i j f e m = .ok (.nx ((e.set i (some a)).set j (some b))) m1 := by rw [sPar_z, h]; rfl
theorem comp_ok {α : Type} {it : IDen} {tg : GDen} {t : TDen} {f : EDen} {own : List Nat} {e : Sl} {m m1 : Mem} {p : Its} (h : it e m = .ok p m1) (F : α → D) (xs : List α) (hp : p.ds = xs.map F) (hg : p.gd m1 = true) (u : α → Sl) (pr : α → Bool) (g : α → D)
    (hs : ∀ a ∈ xs, tg (F a) (wipeD e own) = some (u a) ∧ t (u a) m1 = .ok (pr a) m1 ∧ (pr a = true → f (u a) m1 = .ok (g a) m1)) (hl : xs.length ≤ 1000000) : eComp it tg t f own e m = .ok (.lst ((xs.filter pr).map g)) m1 := by
  rw [eComp_z, h, bind_ok, hp, comp_mapT F u pr g hg xs [] hs (by simpa using hl)]
  rfl
theorem tAnd_ok {a b : TDen} {e : Sl} {m : Mem} {x y : Bool} (h1 : a e m = .ok x m) (h2 : b e m = .ok y m) : tAndD a b e m = .ok (x && y) m := by
  rw [tAndD_z, h1, bind_ok]
  cases x
  · rfl
  · exact h2
theorem tOr_ok {a b : TDen} {e : Sl} {m : Mem} {x y : Bool} (h1 : a e m = .ok x m) (h2 : b e m = .ok y m) : tOrD a b e m = .ok (x || y) m := by
  rw [tOrD_z, h1, bind_ok]
  cases x
  · exact h2
  · rfl
theorem tNot_ok {t : TDen} {e : Sl} {m m1 : Mem} {b : Bool} (h : t e m = .ok b m1) : tNotD t e m = .ok (!b) m1 := by rw [tNotD_z, h, bind_ok]
theorem if_b {c : TDen} {f g : SDen} {e : Sl} {m m1 : Mem} {b : Bool} {r : Res Flw} (h : c e m = .ok b m1) (k : (if b = true then f e m1 else g e m1) = r) : sIf c f g e m = r := by rw [sIf_z, h, bind_ok]; exact k
theorem itR_ok {a : EDen} {e : Sl} {m m1 : Mem} {n : Nat} (h : a e m = .ok (.int n) m1) (hn : n ≤ 1000000) : iRangeD (aCons a aNil) e m = .ok ⟨rngD 0 n, free⟩ m1 := by
  have l1 : (-1000000 : Int) ≤ (n : Int) ∧ (n : Int) ≤ 1000000 := by omega
  rw [iRangeD_z, aCons_ok h rfl]
  simp [l1]
theorem itRl_ok {a : EDen} {e : Sl} {m m1 : Mem} {ds : List D} (h : a e m = .ok (.tup ds) m1) (hn : ds.length ≤ 1000000) : iRangeD (aCons (eCall bLen (aCons a aNil)) aNil) e m = .ok ⟨rngD 0 ds.length, free⟩ m1 := itR_ok (call_ok (aCons_ok h rfl) (len_tup _ _)) hn
theorem deck_len (m : Mem) (dk : List StepT) : bLen m [deckD dk] = .ok (.int dk.length) m := by simp [deckD]
theorem itRd_ok {a : EDen} {e : Sl} {m m1 : Mem} {dk : List StepT} (h : a e m = .ok (deckD dk) m1) (hn : dk.length ≤ 6) : iRangeD (aCons (eCall bLen (aCons a aNil)) aNil) e m = .ok ⟨rngD 0 dk.length, free⟩ m1 := itR_ok (call_ok (aCons_ok h rfl) (deck_len _ _)) (by omega)
theorem itT_ok {f : EDen} {e : Sl} {m m1 : Mem} {ds : List D} (h : f e m = .ok (.tup ds) m1) : iSeqD f e m = .ok ⟨ds, free⟩ m1 := by rw [iSeqD_z, h]; rfl
theorem itL_ok {f : EDen} {e : Sl} {m m1 : Mem} {ds : List D} (h : f e m = .ok (.lst ds) m1) : iSeqD f e m = .ok ⟨ds, lGuard (.lst ds) ds⟩ m1 := by rw [iSeqD_z, h]; rfl
theorem itC_ok {f : EDen} {e : Sl} {m m1 : Mem} {n : Nat} {ds : List D} (h : f e m = .ok (.ref n) m1) (hn : m1[n]? = some (.lst ds)) : iSeqD f e m = .ok ⟨ds, lGuard (.ref n) ds⟩ m1 := by
  rw [iSeqD_z, h]
  simp [dList, hn]
theorem lstN0_ok {e : Sl} {m : Mem} : eLstN aNil e m = .ok (.ref m.length) (m ++ [.lst []]) := rfl
def headW : OutT → Str
  | .ahead => "ahead"
  | .after => "after"
  | .only => "only"
  | .cond _ => "cond"
  | .lacks _ => "lacks"
  | .there _ => "there"
  | .fails => "fails"
  | .ran _ => "ran"
theorem head_ix (M : Mem) (o : OutT) : oIx M o.d (.int 0) = .ok (.str (headW o)) M := by cases o <;> rfl
theorem headW_ok (o : OutT) : PyData.strOk (headW o) = true := by cases o <;> exact strOk_of _
end DL

namespace DL
open PySem L2
/-! ## files of a run as a map -/
theorem cut_to (xs : List D) (n : Nat) : cutD xs none (some (n : Int)) = xs.take n := by
  have e : HT.sIx xs.length xs.length (some (n : Int)) = min n xs.length := HT.sIx_nat xs.length xs.length n
  unfold cutD
  rw [HT.sIx_none, e, List.drop_zero, Nat.sub_zero]
  by_cases h : n ≤ xs.length
  · rw [Nat.min_eq_left h]
  · rw [Nat.min_eq_right (by omega), List.take_of_length_le (Nat.le_refl _), List.take_of_length_le (by omega)]
section
variable {κ α : Type} [DecidableEq κ]
def keysA (l : List (κ × α)) : List κ := l.map (·.1)
theorem keysA_put (l : List (κ × α)) (k : κ) (v : α) : keysA (putA l k v) = if k ∈ keysA l then keysA l else keysA l ++ [k] := by
  unfold putA
  by_cases h : (l.any fun kv => decide (kv.1 = k)) = true
  · rw [if_pos h]
    obtain ⟨q, hq, e⟩ := List.any_eq_true.mp h
    have e' := of_decide_eq_true e
    have : k ∈ keysA l := by
      rw [← e']
      exact List.mem_map_of_mem hq
    rw [if_pos this]
    unfold keysA
    rw [List.map_map]
    apply List.map_congr_left
    intro p _
    simp only [Function.comp]
    split <;> rfl
  · rw [if_neg h]
    have : ¬ k ∈ keysA l := fun z => h (by
      obtain ⟨q, hq, e⟩ := List.mem_map.mp z
      exact List.any_eq_true.mpr ⟨q, hq, decide_eq_true e⟩)
    rw [if_neg this]
    simp [keysA]
theorem keysA_drop (l : List (κ × α)) (k : κ) : keysA (dropA l k) = (keysA l).filter fun j => decide (j ≠ k) := by
  unfold keysA dropA
  rw [List.filter_map]
  rfl
theorem nd_put {l : List (κ × α)} (h : (keysA l).Nodup) (k : κ) (v : α) : (keysA (putA l k v)).Nodup := by
  rw [keysA_put]
  split
  · exact h
  · rename_i hk
    rw [List.nodup_append]
    exact ⟨h, by simp, fun a ha b hb => by
      simp at hb
      subst hb
      intro z
      subst z
      exact hk ha⟩
theorem nd_drop {l : List (κ × α)} (h : (keysA l).Nodup) (k : κ) : (keysA (dropA l k)).Nodup := by
  rw [keysA_drop]
  exact h.filter _
theorem getA_iff {l : List (κ × α)} (h : (keysA l).Nodup) {k : κ} {v : α} : getA l k = some v ↔ (k, v) ∈ l := by
  refine ⟨getA_in, fun hm => ?_⟩
  induction l with
  | nil => cases hm
  | cons p l ih =>
    obtain ⟨k', d⟩ := p
    have h' : (k' :: keysA l).Nodup := h
    obtain ⟨n1, n2⟩ := List.nodup_cons.mp h'
    unfold getA
    rcases List.mem_cons.mp hm with e | hm
    · cases e
      rw [if_pos rfl]
    · have : k' ≠ k := fun z => n1 (by rw [z]; exact List.mem_map_of_mem hm)
      rw [if_neg this]
      exact ih n2 hm
theorem mem_keysA {l : List (κ × α)} {k : κ} : k ∈ keysA l ↔ ∃ v, getA l k = some v := by
  refine ⟨fun h => getA_has h, fun ⟨v, h⟩ => ?_⟩
  exact List.mem_map_of_mem (getA_in h)
end
abbrev Fs := List (Str × (List Int × Bool))
theorem nd_use {s : RS} (h : (keysA s.files).Nodup) (num : Int) (good : Bool) (c : CardT) : (keysA (useT num good s c).files).Nodup := by
  simp only [useT]
  split
  · exact nd_drop h _
  · exact nd_put h _ _
theorem nd_fold (num : Int) (good : Bool) : ∀ (ks : List CardT) {s : RS}, (keysA s.files).Nodup → (keysA (ks.foldl (useT num good) s).files).Nodup
  | [], s, h => h
  | c :: ks, s, h => nd_fold num good ks (nd_use h num good c)
theorem nd_step {s : RS} (h : (keysA s.files).Nodup) (i : Int) (st : StepT) (en : Option Int) : (keysA (stepT i st en s).files).Nodup := by
  have q1 := nd_fold i false st.ks h
  have q2 := nd_fold i true st.ks h
  unfold stepT stepP outT
  cases passT s st with
  | some o => exact h
  | none =>
    cases barL (hasA s.files) 0 st.ks with
    | some o => exact h
    | none =>
      cases en with
      | none => exact q1
      | some v => exact q2
theorem nd_go {at_ : Int} : ∀ (rest : List StepT) (es : List (Option Int)) (i : Nat) {s : RS}, (keysA s.files).Nodup → (keysA (goRun at_ i rest es s).files).Nodup
  | [], es, i, s, h => by cases es <;> exact h
  | st :: rest, [], i, s, h => h
  | st :: rest, en :: es, i, s, h => by
    refine nd_go rest es (i + 1) ?_
    split
    · exact h
    · exact nd_step h i st en
theorem nd_new {fs : List FileT} (hf : FilesW fs) : (keysA (newRun fs).files).Nodup := by
  have := hf.nd
  unfold keysA newRun
  rw [List.map_map]
  exact this
theorem nd_run {fs : List FileT} (hf : FilesW fs) (deck : List StepT) (es : List (Option Int)) (at_ : Int) : (keysA (runT deck fs es at_).files).Nodup := nd_go deck es 0 (nd_new hf)
/-- what is left, as a map -/
theorem left_mem {l : Fs} (h : (keysA l).Nodup) {n : Str} {r : List Int} : (n, r) ∈ leftT l ↔ getA l n = some (r, true) := by
  unfold leftT
  constructor
  · intro hm
    obtain ⟨k, hk, e⟩ := List.mem_map.mp hm
    obtain ⟨h1, h2⟩ := List.mem_filter.mp hk
    cases e
    obtain ⟨v, hv⟩ := getA_has ((srtS_perm _).subset h1)
    unfold fileAt at h2 ⊢
    rw [hv] at h2 ⊢
    obtain ⟨a, b⟩ := v
    have h2' : b = true := h2
    rw [h2']
    rfl
  · intro hg
    refine List.mem_map.mpr ⟨n, List.mem_filter.mpr ⟨(srtS_perm _).symm.subset (mem_keysA.mpr ⟨_, hg⟩), ?_⟩, ?_⟩
    · unfold fileAt
      rw [hg]
      rfl
    · unfold fileAt
      rw [hg]
      rfl
theorem left_keys (l : Fs) : (leftT l).map (·.1) = (srtS (l.map (·.1))).filter fun n => (fileAt l n).2 := by
  unfold leftT
  rw [List.map_map]
  have : ((fun x : Str × List Int => x.1) ∘ fun n => (n, (fileAt l n).1)) = id := rfl
  rw [this, List.map_id]
theorem left_up (l : Fs) : UpS ((leftT l).map (·.1)) := by
  rw [left_keys]
  exact (srtS_sorted _).filter _
theorem left_nd {l : Fs} (h : (keysA l).Nodup) : ((leftT l).map (·.1)).Nodup := by
  rw [left_keys]
  exact (((srtS_perm _).nodup_iff).mpr h).filter _
theorem nd_of_map {α β : Type} {f : α → β} {l : List α} (h : (l.map f).Nodup) : l.Nodup := List.Pairwise.of_map f (fun _ _ hne e => hne (congrArg f e)) h
/-- two maps that keep the same tell the same -/
theorem left_eq {l l' : Fs} (h : (keysA l).Nodup) (h' : (keysA l').Nodup) (e : ∀ n r, getA l n = some (r, true) ↔ getA l' n = some (r, true)) : leftT l = leftT l' := by
  refine pairs_one ?_ (left_up l) (left_up l') (left_nd h)
  refine (List.perm_ext_iff_of_nodup (nd_of_map (left_nd h)) (nd_of_map (left_nd h'))).mpr fun p => ?_
  obtain ⟨n, r⟩ := p
  rw [left_mem h, left_mem h', e]
/-- ascending by names -/
theorem asc_of : ∀ {fs : List FileT} {p : Str}, (fs.map (·.nm)).Pairwise (fun a b => a.cps.toList < b.cps.toList) → (∀ f ∈ fs, p.cps.toList < f.nm.cps.toList) → ascS p fs
  | [], _, _, _ => trivial
  | f :: fs, p, h, k => by
    obtain ⟨h1, h2⟩ := List.pairwise_cons.mp h
    exact ⟨k f (by simp), asc_of h2 fun g hg => h1 g.nm (List.mem_map_of_mem hg)⟩
theorem strict_of {l : List Str} (h : UpS l) (nd : l.Nodup) : l.Pairwise fun a b => a.cps.toList < b.cps.toList := by
  refine List.Pairwise.imp₂ (fun a b h1 h2 => ?_) h nd
  rw [leS_iff] at h1
  rcases Decidable.em (a.cps.toList < b.cps.toList) with q | q
  · exact q
  · exact absurd (leS_anti (by rw [leS_iff]; exact h1) (by rw [leS_iff]; exact List.not_lt.mp q)) h2
theorem asc_pair : ∀ {fs : List FileT} {p : Str}, ascS p fs → (fs.map (·.nm)).Pairwise fun a b => a.cps.toList < b.cps.toList
  | [], _, _ => List.Pairwise.nil
  | f :: fs, p, h => by
    refine List.pairwise_cons.mpr ⟨fun n hn => ?_, asc_pair h.2⟩
    obtain ⟨g, hg, rfl⟩ := List.mem_map.mp hn
    exact (asc_nodup h.2).2 g hg
theorem asc_up {fs : List FileT} {p : Str} (h : ascS p fs) : UpS (fs.map (·.nm)) := (asc_pair h).imp fun {a b} q => by
  rw [leS_iff]
  exact List.le_of_lt q
theorem name_pos {n : Str} (h : nameOk n = true) : ("" : Str).cps.toList < n.cps.toList := by
  unfold nameOk at h
  rw [Bool.and_eq_true, decide_eq_true_iff] at h
  have hl := h.1.1
  obtain ⟨⟨l⟩⟩ := n
  cases l with
  | nil => simp [Str.length] at hl
  | cons a l => exact List.nil_lt_cons a l
theorem slT_ok {fa : EDen} {e : Sl} {m m1 : Mem} {ds : List D} (n : Nat) (h : fa e m = .ok (.tup ds) m1) : eSlice fa pNone (pSome (eC (.int (n : Int)))) e m = .ok (.tup (ds.take n)) m1 := by
  rw [eSlice_z, h]
  show Res.ok (D.tup (cutD ds none (some (n : Int)))) m1 = _
  rw [cut_to]
theorem slL_ok {fa : EDen} {e : Sl} {m m1 : Mem} {ds : List D} (n : Nat) (h : fa e m = .ok (.lst ds) m1) : eSlice fa pNone (pSome (eC (.int (n : Int)))) e m = .ok (.lst (ds.take n)) m1 := by
  rw [eSlice_z, h]
  show Res.ok (D.lst (cutD ds none (some (n : Int)))) m1 = _
  rw [cut_to]
theorem addT_ok (m : Mem) {xs ys : List D} (h : xs.length + ys.length ≤ 1000000) : oAdd m (.tup xs) (.tup ys) = .ok (.tup (xs ++ ys)) m := by
  simp only [oAdd]
  rw [if_pos h]
theorem addL_ok (m : Mem) {xs ys : List D} (h : xs.length + ys.length ≤ 1000000) : oAdd m (.lst xs) (.lst ys) = .ok (.lst (xs ++ ys)) m := by
  simp only [oAdd, dList]
  rw [if_pos h]
theorem alike_same (m : Mem) {d : D} {n : Nat} (hn : n < 8) (hg : gdD n d = true) (hs : shD d = true) : d_law_alike 8 [d, d] m = .ok (.bl true) m := alike_ok m 8 n d d hn (.same d) hg hs
theorem run_b {deck : List StepT} (hd : DeckOk deck) {fs : List FileT} (hf : FilesW fs) {ends : List (Option Int)} (he : ends.length = deck.length) (at_ : Int) : (runT deck fs ends at_).outs.length ≤ 130 ∧ (runT deck fs ends at_).seen.length ≤ 130 ∧ (runT deck fs ends at_).files.length < 64 ∧ (∀ f ∈ (runT deck fs ends at_).files, f.2.1.length ≤ 130) ∧ (leftT (runT deck fs ends at_).files).length < 64 := by
  have le := hd.le
  have I := goRun_I hd at_ deck ends 0 (newRun fs) rfl he (newRun_I hf)
  have I' : RSb 130 (runT deck fs ends at_) := I.rb.up (by omega)
  have fl : (runT deck fs ends at_).files.length < 64 := by
    have := I.fl
    show (goRun at_ 0 deck ends (newRun fs)).files.length < 64
    omega
  refine ⟨I'.outs, I'.seen, fl, I'.rows, ?_⟩
  unfold leftT
  rw [List.length_map]
  refine Nat.lt_of_le_of_lt (List.length_filter_le _ _) ?_
  rw [(srtS_perm _).length_eq, List.length_map]
  exact fl
theorem left_rows {l : Fs} {n : Nat} (h : ∀ f ∈ l, f.2.1.length ≤ n) : ∀ x ∈ leftT l, x.2.length ≤ n := fun x hx => by
  unfold leftT at hx
  obtain ⟨k, hk, rfl⟩ := List.mem_map.mp hx
  obtain ⟨v, hv⟩ := getA_has ((srtS_perm _).subset (List.mem_filter.mp hk).1)
  show (fileAt l k).1.length ≤ n
  unfold fileAt
  rw [hv]
  exact h _ (getA_in hv)
end DL

namespace DL
open PySem L2 TL
/-! ## decks as texts: plain -/
/-- a word: short, no blank, no line's end -/
structure Wd (w : Str) : Prop where
  l : w.length ≤ 5
  c : ∀ c ∈ tl w, c ≠ 32 ∧ c ≠ 10 ∧ c < 128
def numS (i : Int) : Str := Str.ofString (toString i)
def stepS : Option Int → Str
  | none => "-"
  | some i => numS i
theorem wd_list {l : List Str} (h : (l.all fun w => decide (w.length ≤ 5) && (tl w).all fun c => decide (c ≠ 32) && decide (c ≠ 10) && decide (c < 128)) = true) : ∀ w ∈ l, Wd w := fun w hw => by
  have q := List.all_eq_true.mp h w hw
  rw [Bool.and_eq_true, decide_eq_true_iff, List.all_eq_true] at q
  refine ⟨q.1, fun c hc => ?_⟩
  have := q.2 c hc
  rw [Bool.and_eq_true, Bool.and_eq_true, decide_eq_true_iff, decide_eq_true_iff, decide_eq_true_iff] at this
  exact ⟨this.1.1, this.1.2, this.2⟩
theorem wd_flag {w : Str} (h : w ∈ wFlags) : Wd w := wd_list (l := wFlags) (by decide +kernel) w h
theorem wd_word {w : Str} (h : w ∈ wWords) : Wd w := wd_list (l := wWords) (by decide +kernel) w h
theorem wd_begin {w : Str} (h : w ∈ wBegins) : Wd w := wd_list (l := wBegins) (by decide +kernel) w h
theorem wd_good {w : Str} (h : w ∈ wGoods) : Wd w := wd_list (l := wGoods) (by decide +kernel) w h
theorem wd_bad {w : Str} (h : w ∈ wBads) : Wd w := wd_list (l := wBads) (by decide +kernel) w h
theorem wd_fix : Wd "step" ∧ Wd "cond" ∧ Wd "card" ∧ Wd "-" := by
  have k := wd_list (l := ["step", "cond", "card", "-"]) (by decide +kernel)
  exact ⟨k _ (by simp), k _ (by simp), k _ (by simp), k _ (by simp)⟩
theorem ten {i : Int} (h0 : 0 ≤ i) (h9 : i ≤ 9) : i = 0 ∨ i = 1 ∨ i = 2 ∨ i = 3 ∨ i = 4 ∨ i = 5 ∨ i = 6 ∨ i = 7 ∨ i = 8 ∨ i = 9 := by omega
theorem wd_num {i : Int} (h0 : 0 ≤ i) (h9 : i ≤ 9) : Wd (numS i) := by
  have k := wd_list (l := (List.range 10).map fun n : Nat => numS n) (by decide +kernel)
  exact k _ (List.mem_map.mpr ⟨i.toNat, List.mem_range.mpr (by omega), by congr 1; omega⟩)
theorem wd_name {w : Str} (h : nameOk w = true) : Wd w := by
  unfold nameOk at h
  rw [Bool.and_eq_true, decide_eq_true_iff, List.all_eq_true] at h
  refine ⟨by omega, fun c hc => ?_⟩
  have q := of_decide_eq_true (h.2 c hc)
  have e : ∀ c ∈ abc.cps.toList, c ≠ 32 ∧ c ≠ 10 ∧ c < 128 := by decide +kernel
  exact e c q
theorem wd_step {o : Option Int} (h : ∀ i, o = some i → 0 ≤ i ∧ i ≤ 9) : Wd (stepS o) := by
  cases o with
  | none => exact wd_fix.2.2.2
  | some i => exact wd_num (h i rfl).1 (h i rfl).2
theorem wd_ok {w : Str} (h : Wd w) : PyData.strOk w = true := by
  unfold PyData.strOk
  rw [Array.all_eq_true_iff_forall_mem]
  intro c hc
  exact decide_eq_true (by have := (h.c c (by simpa [tl] using hc)).2.2; omega)
/-! rows -/
def condW (c : CondT) : List Str := ["cond", numS c.n, c.w, stepS c.s]
def cardW (c : CardT) : List Str := ["card", c.nm, c.bg, c.gd, c.bd]
def stepW (s : StepT) : List Str := ["step", s.fl]
def rowsW (s : StepT) : List (List Str) := stepW s :: (s.cs.map condW ++ s.ks.map cardW)
def deckW (dk : List StepT) : List (List Str) := dk.flatMap rowsW
def rowT (ws : List Str) : Str := Txt.join " " ws
def textT (dk : List StepT) : Str := Txt.join "\n" ((deckW dk).map rowT)
structure RwOk (ws : List Str) : Prop where
  ne : ws ≠ []
  l : ws.length ≤ 5
  w : ∀ w ∈ ws, Wd w
theorem cond_rw {c : CondT} {k : Int} (h : c.ok k) (hk : k ≤ 6) : RwOk (condW c) := ⟨by simp [condW], by simp [condW], fun w hw => by
  simp only [condW, List.mem_cons, List.not_mem_nil, or_false] at hw
  rcases hw with rfl | rfl | rfl | rfl
  · exact wd_fix.2.1
  · exact wd_num h.n0 h.n9
  · exact wd_word h.w
  · exact wd_step fun i hi => by have := h.s i hi; omega⟩
theorem card_rw {c : CardT} (h : c.ok) : RwOk (cardW c) := ⟨by simp [cardW], by simp [cardW], fun w hw => by
  simp only [cardW, List.mem_cons, List.not_mem_nil, or_false] at hw
  rcases hw with rfl | rfl | rfl | rfl | rfl
  · exact wd_fix.2.2.1
  · exact wd_name h.nm
  · exact wd_begin h.bg
  · exact wd_good h.gd
  · exact wd_bad h.bd⟩
theorem step_rw {s : StepT} {k : Int} (h : s.ok k) : RwOk (stepW s) := ⟨by simp [stepW], by simp [stepW], fun w hw => by
  simp only [stepW, List.mem_cons, List.not_mem_nil, or_false] at hw
  rcases hw with rfl | rfl
  · exact wd_fix.1
  · exact wd_flag h.fl⟩
theorem rows_rw {s : StepT} {k : Int} (h : s.ok k) (hk : k ≤ 6) : ∀ ws ∈ rowsW s, RwOk ws := fun ws hw => by
  unfold rowsW at hw
  rcases List.mem_cons.mp hw with rfl | hw
  · exact step_rw h
  · rcases List.mem_append.mp hw with hw | hw
    · obtain ⟨c, hc, rfl⟩ := List.mem_map.mp hw
      exact cond_rw (h.cs c hc) hk
    · obtain ⟨c, hc, rfl⟩ := List.mem_map.mp hw
      exact card_rw (h.ks c hc)
theorem deck_at {dk : List StepT} (hd : DeckOk dk) {s : StepT} (hs : s ∈ dk) : ∃ k : Int, k ≤ 6 ∧ s.ok k := by
  obtain ⟨i, hi, rfl⟩ := List.getElem_of_mem hs
  exact ⟨i, by have := hd.le; omega, hd.st i _ (List.getElem?_eq_getElem hi)⟩
theorem deck_rw {dk : List StepT} (hd : DeckOk dk) : ∀ ws ∈ deckW dk, RwOk ws := fun ws hw => by
  obtain ⟨s, hs, hw⟩ := List.mem_flatMap.mp hw
  obtain ⟨k, hk, so⟩ := deck_at hd hs
  exact rows_rw so hk ws hw
theorem rows_len {s : StepT} {k : Int} (h : s.ok k) : (rowsW s).length ≤ 8 := by
  have a := h.lc
  have b := h.lk
  simp [rowsW]
  omega
theorem flat_len {α β : Type} (f : α → List β) (n : Nat) : ∀ l : List α, (∀ a ∈ l, (f a).length ≤ n) → (l.flatMap f).length ≤ n * l.length
  | [], _ => by simp
  | a :: l, h => by
    have q := flat_len f n l fun b hb => h b (by simp [hb])
    have := h a (by simp)
    rw [List.flatMap_cons, List.length_append, List.length_cons, Nat.mul_succ]
    omega
theorem deckW_len {dk : List StepT} (hd : DeckOk dk) : (deckW dk).length ≤ 48 := by
  have q := flat_len rowsW 8 dk fun s hs => by
    obtain ⟨k, _, so⟩ := deck_at hd hs
    exact rows_len so
  have le := hd.le
  unfold deckW
  omega
theorem deckW_ne {dk : List StepT} (hd : DeckOk dk) : deckW dk ≠ [] := by
  obtain ⟨s, r, e⟩ := List.exists_cons_of_ne_nil hd.ne
  unfold deckW
  rw [e, List.flatMap_cons]
  simp [rowsW]
/-! joined -/
theorem mem_joinL {S : List Nat} : ∀ {ps : List (List Nat)} {c : Nat}, c ∈ joinL S ps → c ∈ S ∨ ∃ p ∈ ps, c ∈ p
  | [], c, h => by cases h
  | [p], c, h => .inr ⟨p, by simp, h⟩
  | p :: q :: r, c, h => by
    rcases List.mem_append.mp (show c ∈ p ++ (S ++ joinL S (q :: r)) from h) with h | h
    · exact .inr ⟨p, by simp, h⟩
    · rcases List.mem_append.mp h with h | h
      · exact .inl h
      · rcases mem_joinL h with h | ⟨x, hx, h⟩
        · exact .inl h
        · exact .inr ⟨x, List.mem_cons_of_mem _ hx, h⟩
theorem tl_sp : tl " " = [32] := by decide +kernel
theorem tl_nl : tl "\n" = [10] := by decide +kernel
theorem row_chars {ws : List Str} (h : RwOk ws) : ∀ c ∈ tl (rowT ws), c ≠ 10 ∧ c < 128 := fun c hc => by
  unfold rowT at hc
  rw [join_eq, tl_join, tl_sp] at hc
  rcases mem_joinL hc with hc | ⟨p, hp, hc⟩
  · simp at hc
    subst hc
    decide
  · obtain ⟨w, hw, rfl⟩ := List.mem_map.mp hp
    have := (h.w w hw).c c hc
    exact ⟨this.2.1, this.2.2⟩
theorem sum_le {l : List Str} {n : Nat} (h : ∀ w ∈ l, w.length ≤ n) : (l.map (·.length)).sum ≤ n * l.length := by
  induction l with
  | nil => simp
  | cons w l ih =>
    have a := h w (by simp)
    have b := ih fun v hv => h v (by simp [hv])
    rw [List.map_cons, List.sum_cons, List.length_cons, Nat.mul_succ]
    omega
theorem row_sum {ws : List Str} (h : RwOk ws) : (ws.map (·.length)).sum ≤ 25 := by
  have q := sum_le (n := 5) fun w hw => (h.w w hw).l
  have := h.l
  omega
theorem row_len {ws : List Str} (h : RwOk ws) : (rowT ws).length ≤ 30 := by
  have q := PySem.StrLaws.join_length_le " " ws
  have a := row_sum h
  have b := h.l
  have e : (" " : Str).length = 1 := by decide +kernel
  unfold rowT
  rw [join_eq]
  rw [e] at q
  omega
theorem rows_sum {L : List (List Str)} (h : ∀ ws ∈ L, RwOk ws) : ((L.map rowT).map (·.length)).sum ≤ 30 * L.length := by
  have q := sum_le (l := L.map rowT) (n := 30) fun w hw => by
    obtain ⟨ws, hws, rfl⟩ := List.mem_map.mp hw
    exact row_len (h ws hws)
  rw [List.length_map] at q
  exact q
theorem text_len {dk : List StepT} (hd : DeckOk dk) : (textT dk).length ≤ 2000 := by
  have q := PySem.StrLaws.join_length_le "\n" ((deckW dk).map rowT)
  have a := rows_sum (deck_rw hd)
  have b := deckW_len hd
  have e : ("\n" : Str).length = 1 := by decide +kernel
  unfold textT
  rw [join_eq]
  rw [e, List.length_map] at q
  omega
theorem text_ok {dk : List StepT} (hd : DeckOk dk) : PyData.strOk (textT dk) = true := by
  unfold PyData.strOk
  rw [Array.all_eq_true_iff_forall_mem]
  intro c hc
  have hc : c ∈ tl (textT dk) := by simpa [tl] using hc
  unfold textT at hc
  rw [join_eq, tl_join, tl_nl] at hc
  refine decide_eq_true ?_
  rcases mem_joinL hc with hc | ⟨p, hp, hc⟩
  · simp at hc
    omega
  · obtain ⟨w, hw, rfl⟩ := List.mem_map.mp hp
    obtain ⟨ws, hws, rfl⟩ := List.mem_map.mp hw
    have := (row_chars (deck_rw hd ws hws) c hc).2
    omega
theorem split_text {dk : List StepT} (hd : DeckOk dk) : Txt.split (textT dk) "\n" = (deckW dk).map rowT := by
  refine split_join tl_nl (by decide +kernel) (fun e => deckW_ne hd (List.map_eq_nil_iff.mp e)) fun p hp hm => ?_
  obtain ⟨ws, hws, rfl⟩ := List.mem_map.mp hp
  exact (row_chars (deck_rw hd ws hws) 10 hm).1 rfl
theorem split_row {ws : List Str} (h : RwOk ws) : Txt.split (rowT ws) " " = ws := by
  refine split_join tl_sp (by decide +kernel) h.ne fun p hp hm => ?_
  exact ((h.w p hp).c 32 hm).1 rfl
/-! the law's own rows -/
theorem tl_row2 (a b : Str) : tl (rowT [a, b]) = tl a ++ 32 :: tl b := by
  unfold rowT
  rw [join_eq, tl_join, tl_sp]
  rfl
theorem row_step (s : StepT) : ("step" : Str) ++ " " ++ s.fl = rowT (stepW s) := ext_tl (by
  unfold rowT stepW
  rw [join_eq, tl_join, tl_append, tl_append, tl_sp]
  simp [joinL])
theorem row_step2 (s : StepT) : ("step " : Str) ++ s.fl = rowT (stepW s) := by
  rw [← row_step, show ("step" : Str) ++ " " = "step " by decide +kernel]
theorem row_cond2 (c : CondT) : ("cond " : Str) ++ numS c.n ++ " " ++ c.w ++ " " ++ stepS c.s = rowT (condW c) := by
  rw [show ("cond " : Str) = "cond" ++ " " by decide +kernel]
  refine ext_tl ?_
  unfold rowT condW
  rw [join_eq, tl_join]
  simp only [tl_append, tl_sp, List.map_cons, List.map_nil, joinL, List.append_assoc]
theorem row_card2 (c : CardT) : ("card " : Str) ++ rowT [c.nm, c.bg, c.gd, c.bd] = rowT (cardW c) := by
  rw [show ("card " : Str) = "card" ++ " " by decide +kernel]
  refine ext_tl ?_
  unfold rowT cardW
  rw [join_eq, join_eq, tl_join]
  simp only [tl_append, tl_join, tl_sp, List.map_cons, List.map_nil, joinL, List.append_assoc]
/-! numbers back -/
theorem num_facts {i : Int} (h0 : 0 ≤ i) (h9 : i ≤ 9) : (numS i).length = 1 ∧ (∃ c, numS i = ⟨#[c]⟩ ∧ c ∈ ("0123456789" : Str).cps.toList) ∧ PySem.intText? (numS i) = some i := by
  rcases ten h0 h9 with rfl | rfl | rfl | rfl | rfl | rfl | rfl | rfl | rfl | rfl
  all_goals refine ⟨by decide +kernel, ⟨_, rfl, by decide +kernel⟩, by decide +kernel⟩
end DL

namespace DL
open PySem L2 TL
theorem app_cell (m : Mem) (L : List D) (x : D) (h : L.length ≤ 1000) : mApp (m ++ [.lst L]) (.ref m.length) [x] = .ok .non (m ++ [.lst (L ++ [x])]) := by
  simp only [mApp, dOwn, mem_last, set_last]
  rw [if_pos (by omega)]
theorem ext_cell (m : Mem) (L M : List D) (h : L.length + M.length ≤ 1000) : mExt (m ++ [.lst L]) (.ref m.length) [.lst M] = .ok .non (m ++ [.lst (L ++ M)]) := by
  simp only [mExt, dOwn, mem_last, dList, set_last]
  rw [if_pos (by omega)]
theorem strsD_mapZ : ∀ l : List Str, strsD (l.map D.str) = some l
  | [] => rfl
  | s :: l => by
    show (strsD (l.map D.str)).map (s :: ·) = _
    rw [strsD_mapZ l]
    rfl
theorem tyM_str (m : Mem) (s : Str) : tyM "str" m (.str s) = true := rfl
theorem join_ok (m : Mem) {a : Str} {y : D} {ys : List Str} (h : dSeq m y = some (ys.map D.str)) (hl : (ys.map (·.length)).sum + ys.length * a.length ≤ 1000000) : mJoin m (.str a) [y] = .ok (.str (Txt.join a ys)) m := by
  simp only [mJoin, h, strsD_mapZ]
  rw [if_pos hl]
theorem join_row (m : Mem) {y : D} {ws : List Str} (h : dSeq m y = some (ws.map D.str)) (r : RwOk ws) : mJoin m (.str " ") [y] = .ok (.str (rowT ws)) m := by
  have a := row_sum r
  have b := r.l
  have e : (" " : Str).length = 1 := by decide +kernel
  exact join_ok m h (by rw [e]; omega)
theorem str_ok (m : Mem) {i : Int} (h0 : 0 ≤ i) (h9 : i ≤ 9) : bStr m [.int i] = .ok (.str (numS i)) m := by
  unfold bStr
  have : i.natAbs.log2 < 1920 := by
    rcases ten h0 h9 with rfl | rfl | rfl | rfl | rfl | rfl | rfl | rfl | rfl | rfl <;> decide
  show (if i.natAbs.log2 < 1920 then Res.ok (D.str (Str.ofString (toString i))) m else Res.bad) = _
  rw [if_pos this]
  rfl
theorem stepS_ok (m : Mem) {o : Option Int} (h : ∀ i, o = some i → 0 ≤ i ∧ i ≤ 9) {e : Sl} {j : Nat} (hj : e[j]? = some (some (optD o))) : (eIf (tVal (eBin oIs (eVar j) (eC .non))) (eC (.str "-")) (eCall bStr (aCons (eVar j) (aNil)))) e m = .ok (.str (stepS o)) m := by
  have ev : eVar j e m = .ok (optD o) m := by rw [eVar_z, hj]
  cases o with
  | none => exact eIf_t (tVal_ok (eBin_ok (m2 := m) ev rfl rfl)) rfl
  | some i => exact eIf_f (tVal_ok (eBin_ok (m2 := m) ev rfl rfl)) (call_ok (aCons_ok ev rfl) (str_ok m (h i rfl).1 (h i rfl).2))
theorem addS_ok (m : Mem) {a b : Str} (h : a.length + b.length ≤ 1000000) : oAdd m (.str a) (.str b) = .ok (.str (a ++ b)) m := by
  simp only [oAdd]
  rw [if_pos h]
/-! ## written -/
theorem w_cond (m : Mem) {c : CondT} {k : Int} (hc : c.ok k) (hk : k ≤ 6) (acc : List Str) (ha : acc.length ≤ 900) (x0 x2 x3 x4 x8 : Option D) : lb_written_2 [x0, some (.ref m.length), x2, x3, x4, some (.int c.n), some (.str c.w), some (optD c.s), x8] (m ++ [.lst (acc.map D.str)]) = .ok (.nx [x0, some (.ref m.length), x2, x3, x4, some (.int c.n), some (.str c.w), some (optD c.s), x8]) (m ++ [.lst ((acc ++ [rowT (condW c)]).map D.str)]) := by
  refine drop_ok (d := .non) (met_ok rfl (tyM_ref (mem_last _ _)) (aCons_ok (met_ok rfl (tyM_str _ _) (aCons_ok (eLst_ok (aCons_ok rfl (aCons_ok (call_ok (aCons_ok rfl rfl) (str_ok _ hc.n0 hc.n9)) (aCons_ok rfl (aCons_ok (stepS_ok _ (fun i hi => by have := hc.s i hi; omega) rfl) rfl))))) rfl) (join_row _ (ws := condW c) rfl (cond_rw hc hk))) rfl) ?_)
  rw [app_cell _ _ _ (by rw [List.length_map]; omega), List.map_append]
  rfl
theorem w_conds (m : Mem) {k : Int} (hk : k ≤ 6) (x0 x2 x3 x4 x8 : Option D) : ∀ (cs : List CondT) (acc : List Str) (x5 x6 x7 : Option D), (∀ c ∈ cs, c.ok k) → acc.length + cs.length ≤ 900 →
    ∃ y5 y6 y7, loopD free (gT [5, 6, 7]) lb_written_2 (cs.map CondT.d) [x0, some (.ref m.length), x2, x3, x4, x5, x6, x7, x8] (m ++ [.lst (acc.map D.str)]) = .ok (.nx [x0, some (.ref m.length), x2, x3, x4, y5, y6, y7, x8]) (m ++ [.lst ((acc ++ cs.map fun c => rowT (condW c)).map D.str)])
  | [], acc, x5, x6, x7, _, _ => ⟨x5, x6, x7, by rw [List.map_nil, loop_nil, if_pos (free_z _)]; simp⟩
  | c :: cs, acc, x5, x6, x7, h, hl => by
    rw [List.length_cons] at hl
    obtain ⟨y5, y6, y7, q⟩ := w_conds m hk x0 x2 x3 x4 x8 cs (acc ++ [rowT (condW c)]) (some (.int c.n)) (some (.str c.w)) (some (optD c.s)) (fun d hd => h d (by simp [hd])) (by simp; omega)
    refine ⟨y5, y6, y7, ?_⟩
    rw [List.map_cons, loop_cons, if_pos (free_z _), show gT [5, 6, 7] c.d [x0, some (.ref m.length), x2, x3, x4, x5, x6, x7, x8] = some [x0, some (.ref m.length), x2, x3, x4, some (.int c.n), some (.str c.w), some (optD c.s), x8] from rfl]
    simp only []
    rw [w_cond m (h c (by simp)) hk acc (by omega)]
    have e : acc ++ (c :: cs).map (fun c => rowT (condW c)) = acc ++ [rowT (condW c)] ++ cs.map fun c => rowT (condW c) := by simp
    rw [e]
    exact q
theorem w_step (m : Mem) {s : StepT} {k : Int} (hs : s.ok k) (hk : k ≤ 6) (acc : List Str) (ha : acc.length ≤ 800) (x0 x5 x6 x7 x8 : Option D) :
    ∃ y5 y6 y7, lb_written_1 [x0, some (.ref m.length), some (.str s.fl), some (.tup (s.cs.map CondT.d)), some (.tup (s.ks.map CardT.d)), x5, x6, x7, x8] (m ++ [.lst (acc.map D.str)]) = .ok (.nx [x0, some (.ref m.length), some (.str s.fl), some (.tup (s.cs.map CondT.d)), some (.tup (s.ks.map CardT.d)), y5, y6, y7, x8]) (m ++ [.lst ((acc ++ (rowsW s).map rowT).map D.str)]) := by
  have lc := hs.lc
  have lk := hs.lk
  have fl := (wd_flag hs.fl).l
  obtain ⟨y5, y6, y7, q⟩ := w_conds m hk x0 (some (.str s.fl)) (some (.tup (s.cs.map CondT.d))) (some (.tup (s.ks.map CardT.d))) x8 s.cs (acc ++ [rowT (stepW s)]) x5 x6 x7 hs.cs (by simp; omega)
  refine ⟨y5, y6, y7, ?_⟩
  have l4 : ("step" : Str).length = 4 := by decide +kernel
  have l1 : (" " : Str).length = 1 := by decide +kernel
  have l5 : (("step" : Str) ++ " ").length = 5 := by decide +kernel
  have a1 : (sDrop (eMet "list" mApp (eVar 1) (aCons (eBin oAdd (eBin oAdd (eC (.str "step")) (eC (.str " "))) (eVar 2)) (aNil)))) [x0, some (.ref m.length), some (.str s.fl), some (.tup (s.cs.map CondT.d)), some (.tup (s.ks.map CardT.d)), x5, x6, x7, x8] (m ++ [.lst (acc.map D.str)]) = .ok (.nx [x0, some (.ref m.length), some (.str s.fl), some (.tup (s.cs.map CondT.d)), some (.tup (s.ks.map CardT.d)), x5, x6, x7, x8]) (m ++ [.lst ((acc ++ [rowT (stepW s)]).map D.str)]) := by
    refine drop_ok (d := .non) (met_ok rfl (tyM_ref (mem_last _ _)) (aCons_ok (eBin_ok (eBin_ok rfl rfl (addS_ok _ (by rw [l4, l1]; decide))) rfl (addS_ok _ (by rw [l5]; omega))) rfl) ?_)
    rw [app_cell _ _ _ (by rw [List.length_map]; omega), List.map_append, row_step]
    rfl
  refine seq_ok a1 ?_
  refine seq_ok (for_ok (p := ⟨s.cs.map CondT.d, free⟩) (m1 := m ++ [.lst ((acc ++ [rowT (stepW s)]).map D.str)]) (itT_ok rfl) q) ?_
  have co := fun M : Mem => comp_ok (it := iSeqD (eVar 4)) (tg := gV 8) (t := tYesD) (f := eMet "str" mJoin (eC (.str " ")) (aCons (eBin oAdd (eTup (aCons (eC (.str "card")) (aNil))) (eVar 8)) (aNil))) (own := [8]) (e := [x0, some (.ref m.length), some (.str s.fl), some (.tup (s.cs.map CondT.d)), some (.tup (s.ks.map CardT.d)), y5, y6, y7, x8]) (m := M) (m1 := M) (p := ⟨s.ks.map CardT.d, free⟩) (itT_ok rfl) CardT.d s.ks rfl rfl (fun c => [x0, some (.ref m.length), some (.str s.fl), some (.tup (s.cs.map CondT.d)), some (.tup (s.ks.map CardT.d)), y5, y6, y7, some c.d]) (fun _ => true) (fun c => .str (rowT (cardW c))) (fun c hc => ⟨rfl, rfl, fun _ => met_ok rfl (tyM_str _ _) (aCons_ok (eBin_ok (eTup_ok (aCons_ok rfl rfl)) rfl (addT_ok M (by simp))) rfl) (join_row M (ws := cardW c) rfl (card_rw (hs.ks c hc)))⟩) (by omega)
  have co := co (m ++ [.lst (((acc ++ [rowT (stepW s)]) ++ s.cs.map fun c => rowT (condW c)).map D.str)])
  rw [List.filter_eq_self.mpr (fun _ _ => rfl)] at co
  refine drop_ok (d := .non) (met_ok rfl (tyM_ref (mem_last _ _)) (aCons_ok co rfl) ?_)
  have e : (acc ++ (rowsW s).map rowT).map D.str = ((acc ++ [rowT (stepW s)]) ++ s.cs.map fun c => rowT (condW c)).map D.str ++ s.ks.map fun c => D.str (rowT (cardW c)) := by simp [rowsW, Function.comp_def]
  rw [e]
  exact ext_cell _ _ _ (by simp; omega)
theorem w_steps (m : Mem) (x0 x8 : Option D) : ∀ (ss : List StepT) (acc : List Str) (x2 x3 x4 x5 x6 x7 : Option D), (∀ s ∈ ss, ∃ k : Int, k ≤ 6 ∧ s.ok k) → acc.length + 8 * ss.length ≤ 800 →
    ∃ y2 y3 y4 y5 y6 y7, loopD free (gT [2, 3, 4]) lb_written_1 (ss.map StepT.d) [x0, some (.ref m.length), x2, x3, x4, x5, x6, x7, x8] (m ++ [.lst (acc.map D.str)]) = .ok (.nx [x0, some (.ref m.length), y2, y3, y4, y5, y6, y7, x8]) (m ++ [.lst ((acc ++ (deckW ss).map rowT).map D.str)])
  | [], acc, x2, x3, x4, x5, x6, x7, _, _ => ⟨x2, x3, x4, x5, x6, x7, by rw [List.map_nil, loop_nil, if_pos (free_z _)]; simp [deckW]⟩
  | s :: ss, acc, x2, x3, x4, x5, x6, x7, h, hl => by
    rw [List.length_cons] at hl
    obtain ⟨k, hk, so⟩ := h s (by simp)
    have rl := rows_len so
    obtain ⟨z5, z6, z7, q1⟩ := w_step m so hk acc (by omega) x0 x5 x6 x7 x8
    obtain ⟨y2, y3, y4, y5, y6, y7, q⟩ := w_steps m x0 x8 ss (acc ++ (rowsW s).map rowT) (some (.str s.fl)) (some (.tup (s.cs.map CondT.d))) (some (.tup (s.ks.map CardT.d))) z5 z6 z7 (fun t ht => h t (by simp [ht])) (by simp; omega)
    refine ⟨y2, y3, y4, y5, y6, y7, ?_⟩
    rw [List.map_cons, loop_cons, if_pos (free_z _), show gT [2, 3, 4] s.d [x0, some (.ref m.length), x2, x3, x4, x5, x6, x7, x8] = some [x0, some (.ref m.length), some (.str s.fl), some (.tup (s.cs.map CondT.d)), some (.tup (s.ks.map CardT.d)), x5, x6, x7, x8] from rfl]
    simp only []
    rw [q1]
    have e : acc ++ (deckW (s :: ss)).map rowT = acc ++ (rowsW s).map rowT ++ (deckW ss).map rowT := by simp [deckW]
    rw [e]
    exact q
theorem text_join (m : Mem) {dk : List StepT} (hd : DeckOk dk) {y : D} (h : dSeq m y = some (((deckW dk).map rowT).map D.str)) : mJoin m (.str "\n") [y] = .ok (.str (textT dk)) m := by
  have a := rows_sum (deck_rw hd)
  have b := deckW_len hd
  have e : ("\n" : Str).length = 1 := by decide +kernel
  exact join_ok m h (by rw [e, List.length_map]; omega)
theorem z_written (m : Mem) {dk : List StepT} (hd : DeckOk dk) : d_written [deckD dk] m = .ok (.str (textT dk)) m := by
  have le := hd.le
  obtain ⟨y2, y3, y4, y5, y6, y7, q⟩ := w_steps m (some (deckD dk)) none dk [] none none none none none none (fun s hs => deck_at hd hs) (by simp; omega)
  rw [List.nil_append] at q
  refine body_rt (m1 := m ++ [.lst (((deckW dk).map rowT).map D.str)]) (d := .str (textT dk)) ?_ (fin_app rfl)
  show s_written [some (deckD dk), none, none, none, none, none, none, none, none] m = _
  refine seq_ok (drop_ok (eDef_ok (aCons_ok rfl rfl) rfl (z_need_deck hd m))) ?_
  refine seq_ok (asg_ok (m1 := m ++ [MO.lst []]) lstN0_ok rfl) ?_
  refine seq_ok (for_ok (p := ⟨dk.map StepT.d, free⟩) (m1 := m ++ [MO.lst []]) (itT_ok rfl) q) ?_
  exact ret_ok (met_ok rfl (tyM_str _ _) (aCons_ok rfl rfl) (text_join _ hd (by simp [dSeq])))
end DL

namespace DL
open PySem L2 TL
/-! ## the reader's cells -/
def lstS (s : StepT) : List D := [.str s.fl, .tup (s.cs.map CondT.d), .tup (s.ks.map CardT.d)]
def rdRefs (m : Mem) (n : Nat) : List D := (List.range n).map fun j : Nat => D.ref (m.length + 2 + j)
def rdM (m : Mem) (L : List StepT) : Mem := m ++ (.ins "Reader" [("steps", .ref (m.length + 1))] :: .lst (rdRefs m L.length) :: L.map fun s => MO.lst (lstS s))
theorem rd_len (m : Mem) (L : List StepT) : (rdM m L).length = m.length + 2 + L.length := by
  simp [rdM]
  omega
theorem rd0 (m : Mem) (L : List StepT) : (rdM m L)[m.length]? = some (.ins "Reader" [("steps", .ref (m.length + 1))]) := by
  have := mem_off m (.ins "Reader" [("steps", .ref (m.length + 1))] :: .lst (rdRefs m L.length) :: L.map fun s => MO.lst (lstS s)) 0
  exact this
theorem rd1 (m : Mem) (L : List StepT) : (rdM m L)[m.length + 1]? = some (.lst (rdRefs m L.length)) := by
  have := mem_off m (.ins "Reader" [("steps", .ref (m.length + 1))] :: .lst (rdRefs m L.length) :: L.map fun s => MO.lst (lstS s)) 1
  exact this
theorem rdj (m : Mem) (L : List StepT) {j : Nat} {s : StepT} (h : L[j]? = some s) : (rdM m L)[m.length + 2 + j]? = some (.lst (lstS s)) := by
  have := mem_off m (.ins "Reader" [("steps", .ref (m.length + 1))] :: .lst (rdRefs m L.length) :: L.map fun s => MO.lst (lstS s)) (j + 2)
  rw [show m.length + (j + 2) = m.length + 2 + j by omega] at this
  refine Eq.trans this ?_
  rw [List.getElem?_cons_succ, List.getElem?_cons_succ, List.getElem?_map, h]
  rfl
theorem fld_steps (m : Mem) (L : List StepT) {fo : EDen} {e : Sl} (h : fo e (rdM m L) = .ok (.ref m.length) (rdM m L)) : eFld "Reader" "steps" fo e (rdM m L) = .ok (.ref (m.length + 1)) (rdM m L) := by
  rw [eFld_z, h, bind_ok]
  simp only [rd0]
  rfl
theorem seq_rt {f g : SDen} {e : Sl} {m m1 : Mem} {d : D} (h : f e m = .ok (.rt d) m1) : sSeq f g e m = .ok (.rt d) m1 := by rw [sSeq_z, h, bind_ok]
theorem if_rt {c : TDen} {f g : SDen} {e : Sl} {m m1 m2 : Mem} {d : D} (h : c e m = .ok true m1) (k : f e m1 = .ok (.rt d) m2) : sIf c f g e m = .ok (.rt d) m2 := if_t h k
theorem lstN_ok {a : ADen} {e : Sl} {m m1 : Mem} {xs : List D} (h : a e m = .ok xs m1) (hl : xs.length ≤ 1000 := by simp) : eLstN a e m = .ok (.ref m1.length) (m1 ++ [MO.lst xs]) := by rw [eLstN_z, h, bind_ok, if_pos hl]
theorem tAnd_f {a b : TDen} {e : Sl} {m m1 : Mem} (h1 : a e m = .ok false m1) : tAndD a b e m = .ok false m1 := by
  rw [tAndD_z, h1]
  rfl
theorem tAnd_t {a b : TDen} {e : Sl} {m m1 m2 : Mem} {y : Bool} (h1 : a e m = .ok true m1) (h2 : b e m1 = .ok y m2) : tAndD a b e m = .ok y m2 := by
  rw [tAndD_z, h1]
  exact h2
/-! a row "step" -/
theorem rd_app (m : Mem) (L : List StepT) (s : StepT) (hl : L.length ≤ 100) : mApp (rdM m L ++ [.lst (lstS s)]) (.ref (m.length + 1)) [.ref (rdM m L).length] = .ok .non (rdM m (L ++ [s])) := by
  have g : (rdM m L ++ [MO.lst (lstS s)])[m.length + 1]? = some (.lst (rdRefs m L.length)) := by
    rw [List.getElem?_append_left (by rw [rd_len]; omega)]
    exact rd1 m L
  simp only [mApp, dOwn, g]
  rw [if_pos (by simp [rdRefs]; omega)]
  congr 1
  rw [rd_len]
  unfold rdM
  rw [List.append_assoc, List.set_append_right _ _ (by omega), show m.length + 1 - m.length = 1 by omega]
  congr 1
  simp [rdRefs, List.range_succ]
theorem head_is (m : Mem) {w : Str} {ws : List D} (hw : PyData.strOk w = true) {x : Str} (hx : PyData.strOk x = true) {e : Sl} (h1 : e[1]? = some (some (.lst (.str w :: ws)))) : (tVal (eBin oEq (eBin oIx (eVar 1) (eC (.int 0))) (eC (.str x)))) e m = .ok (decide (w = x)) m := by
  have ev : eVar 1 e m = .ok (.lst (.str w :: ws)) m := by rw [eVar_z, h1]
  exact tVal_ok (eBin_ok (eBin_ok ev rfl ((oIx_lst _ _ _).trans (by rw [atI_lit0]; rfl))) rfl (oEq_str hw hx))
theorem so3 : PyData.strOk ("step" : Str) = true ∧ PyData.strOk ("cond" : Str) = true ∧ PyData.strOk ("card" : Str) = true ∧ PyData.strOk ("-" : Str) = true := ⟨strOk_of _, strOk_of _, strOk_of _, strOk_of _⟩
theorem ne3 : decide (("cond" : Str) = "step") = false ∧ decide (("card" : Str) = "step") = false ∧ decide (("card" : Str) = "cond") = false := by decide +kernel
theorem z_rd_step (m : Mem) (L : List StepT) (hl : L.length ≤ 100) (fl : Str) : d_Reader_reads [.ref m.length, .lst [.str "step", .str fl]] (rdM m L) = .ok (.bl true) (rdM m (L ++ [⟨fl, [], []⟩])) := by
  unfold d_Reader_reads
  rw [bodyN_z]
  have t := head_is (rdM m L) so3.1 so3.1 (e := [some (.ref m.length), some (.lst [.str "step", .str fl]), none, none, none]) (ws := [.str fl]) rfl
  rw [decide_eq_true rfl] at t
  have run : s_Reader_reads [some (.ref m.length), some (.lst [.str "step", .str fl]), none, none, none] (rdM m L) = .ok (.rt (.bl true)) (rdM m (L ++ [⟨fl, [], []⟩])) := by
    refine seq_rt (if_rt t (seq_ok (drop_ok (d := .non) (met_ok (fld_steps m L rfl) (tyM_ref (rd1 m L)) (aCons_ok (lstN_ok (xs := [.str fl, .tup [], .tup []]) (aCons_ok (eBin_ok rfl rfl rfl) (aCons_ok rfl (aCons_ok rfl rfl)))) rfl) (rd_app m L ⟨fl, [], []⟩ hl))) ?_))
    exact ret_ok (eBin_ok (call_ok (aCons_ok rfl rfl) rfl) rfl (oEq_int _ _ _))
  exact (congrArg (fun z => Res.bind z _) run).trans rfl
/-! the rows within a step -/
theorem views_refs {M : Mem} : ∀ (xs : List D) (as : List D), xs.length = as.length → (∀ (i : Nat) (x a : D), xs[i]? = some x → as[i]? = some a → view M x = some a) → viewsL M xs = some as
  | [], [], _, _ => rfl
  | [], _ :: _, h, _ => by cases h
  | _ :: _, [], h, _ => by cases h
  | x :: xs, a :: as, h, k => by
    show ((view M x).bind fun a => (viewsL M xs).map (a :: ·)) = some (a :: as)
    rw [k 0 x a rfl rfl, views_refs xs as (by simpa using h) fun i x a hx ha => k (i + 1) x a (by simpa using hx) (by simpa using ha)]
    rfl
theorem gd_lstS {s : StepT} {k : Int} (h : s.ok k) : gdD 3 (.lst (lstS s)) = true := by
  have := gd_step h 0
  unfold StepT.d at this
  rw [show (0 : Nat) + 3 = 2 + 1 from rfl, gd_tup] at this
  rw [show (3 : Nat) = 2 + 1 from rfl, gd_lst]
  exact this
theorem steps_not (m : Mem) {L : List StepT} (hne : L ≠ []) (ok : ∀ s ∈ L, ∃ k : Int, s.ok k) : oEqR (rdM m L) (.ref (m.length + 1)) (.lst []) = .ok (.bl false) (rdM m L) := by
  have vl : viewsL (rdM m L) (rdRefs m L.length) = some (L.map fun s => .lst (lstS s)) := views_refs _ _ (by simp [rdRefs]) fun i x a hx ha => by
    rw [List.getElem?_map] at ha
    obtain ⟨s, hs, rfl⟩ := Option.map_eq_some_iff.mp ha
    have hi := (List.getElem?_eq_some_iff.mp hs).1
    unfold rdRefs at hx
    rw [List.getElem?_map, List.getElem?_range hi] at hx
    cases hx
    show (match (rdM m L)[m.length + 2 + i]? with
      | some (.lst ds) => some (D.lst ds)
      | _ => none) = _
    rw [rdj m L hs]
  have v1 : viewR (rdM m L) (.ref (m.length + 1)) = some (.lst (L.map fun s => .lst (lstS s))) := by
    show (match (rdM m L)[m.length + 1]? with
      | some (.lst ds) => (viewsL (rdM m L) ds).map D.lst
      | _ => none) = _
    rw [rd1]
    simp only [vl, Option.map_some]
  have ga : gdD 4 (.lst (L.map fun s => .lst (lstS s))) = true := by
    rw [show (4 : Nat) = 3 + 1 from rfl, gd_lst]
    exact gdL_all _ _ fun d hd => by
      obtain ⟨s, hs, rfl⟩ := List.mem_map.mp hd
      obtain ⟨k, hk⟩ := ok s hs
      exact gd_lstS hk
  have gb : gdD 1 (.lst []) = true := by simp
  unfold oEqR
  rw [v1, show viewR (rdM m L) (.lst []) = some (.lst []) from rfl]
  simp only [gd_okP ga (by decide), gd_okP gb (by decide), eqv_gd _ _ _ _ ga gb]
  have : (L.map fun s => D.lst (lstS s)) ≠ [] := fun z => hne (List.map_eq_nil_iff.mp z)
  simp [this]
theorem last_ref (m : Mem) (L0 : List StepT) (s : StepT) : oIx (rdM m (L0 ++ [s])) (.ref (m.length + 1)) (.int (-1)) = .ok (.ref (m.length + 2 + L0.length)) (rdM m (L0 ++ [s])) := by
  have g := rd1 m (L0 ++ [s])
  have a : atI (rdRefs m (L0 ++ [s]).length) (-1) = some (.ref (m.length + 2 + L0.length)) := by
    have e : ixN (rdRefs m (L0 ++ [s]).length).length (-1) = some L0.length := by
      unfold ixN
      rw [if_neg (by decide)]
      rw [if_pos (by simp [rdRefs]; omega)]
      simp [rdRefs]
      omega
    unfold atI
    rw [e]
    simp [rdRefs]
  unfold oIx
  simp only [dSeq, g, a]
theorem last_cell (m : Mem) (L0 : List StepT) (s : StepT) : (rdM m (L0 ++ [s]))[m.length + 2 + L0.length]? = some (.lst (lstS s)) := rdj m _ (by simp)
theorem last_set (m : Mem) (L0 : List StepT) (s t : StepT) : (rdM m (L0 ++ [s])).set (m.length + 2 + L0.length) (.lst (lstS t)) = rdM m (L0 ++ [t]) := by
  unfold rdM
  rw [List.set_append_right _ _ (by omega), show m.length + 2 + L0.length - m.length = L0.length + 2 by omega]
  congr 1
  simp [rdRefs]
theorem last_ix (m : Mem) (L0 : List StepT) (s : StepT) (i : Nat) {d : D} (h : (lstS s)[i]? = some d) : oIx (rdM m (L0 ++ [s])) (.ref (m.length + 2 + L0.length)) (.int (i : Int)) = .ok d (rdM m (L0 ++ [s])) := by
  unfold oIx
  simp only [dSeq, last_cell, atI_nat, h]
theorem set_lastZ (m : Mem) (L0 : List StepT) (s t : StepT) (i : Nat) {fo fi fe : EDen} {e : Sl} {d : D} (hi : i < 3) (h1 : fe e (rdM m (L0 ++ [s])) = .ok d (rdM m (L0 ++ [s]))) (h2 : fo e (rdM m (L0 ++ [s])) = .ok (.ref (m.length + 2 + L0.length)) (rdM m (L0 ++ [s]))) (h3 : fi e (rdM m (L0 ++ [s])) = .ok (.int (i : Int)) (rdM m (L0 ++ [s]))) (ht : (lstS s).set i d = lstS t) : sSetL fo fi fe e (rdM m (L0 ++ [s])) = .ok (.nx e) (rdM m (L0 ++ [t])) := by
  rw [sSetL_z, h1, bind_ok, h2, bind_ok, h3, bind_ok]
  have x : ixN (lstS s).length (i : Int) = some i := by
    unfold ixN
    have l3 : (lstS s).length = 3 := rfl
    rw [if_pos (by omega), if_pos (by rw [l3]; omega)]
    simp
  simp only [dOwn, last_cell, x]
  rw [ht, last_set]
theorem z_number (m : Mem) {i : Int} (h0 : 0 ≤ i) (h9 : i ≤ 9) : d_number_of [.str (numS i)] m = .ok (.int i) m := by
  obtain ⟨h1, ⟨c, hc, hm⟩, h3⟩ := num_facts h0 h9
  refine body_rt (d := .int i) (m1 := m) ?_ (fin_same _ _)
  show s_number_of [some (.str (numS i))] m = _
  have bl : bLen m [.str (numS i)] = .ok (.int 1) m := by
    rw [len_str m _ (by rw [h1]; decide), h1]
    rfl
  have inn : oIn false m (.str (numS i)) (.str "0123456789") = .ok (.bl true) m := by
    rw [hc, oIn_sign]
    simp [hm]
  have bi : bIntS m [.str (numS i)] = .ok (.int i) m := by
    simp only [bIntS, h3]
    rw [if_pos (by rw [h1]; decide)]
  exact ret_ok (eIf_t (tAnd_t (tVal_ok (eBin_ok (call_ok (aCons_ok rfl rfl) bl) rfl (oEq_int _ _ _))) (tVal_ok (eBin_ok rfl rfl inn))) (call_ok (aCons_ok rfl rfl) bi))
theorem z_number_no (m : Mem) : d_number_of [.str "-"] m = .ok .non m := by
  refine body_rt (d := .non) (m1 := m) ?_ (fin_same _ _)
  show s_number_of [some (.str "-")] m = _
  have l1 : ("-" : Str).length = 1 := by decide +kernel
  have bl : bLen m [.str "-"] = .ok (.int 1) m := by
    rw [len_str m _ (by rw [l1]; decide), l1]
    rfl
  have e : ("-" : Str) = ⟨#[45]⟩ := by decide +kernel
  have inn : oIn false m (.str "-") (.str "0123456789") = .ok (.bl false) m := by
    rw [e, oIn_sign]
    have : ¬ 45 ∈ ("0123456789" : Str).cps.toList := by decide +kernel
    simp [this]
  exact ret_ok (eIf_f (tAnd_t (tVal_ok (eBin_ok (call_ok (aCons_ok rfl rfl) bl) rfl (oEq_int _ _ _))) (tVal_ok (eBin_ok rfl rfl inn))) rfl)
theorem z_number_o (m : Mem) {o : Option Int} (h : ∀ i, o = some i → 0 ≤ i ∧ i ≤ 9) : d_number_of [.str (stepS o)] m = .ok (optD o) m := by
  cases o with
  | none => exact z_number_no m
  | some i => exact z_number m (h i rfl).1 (h i rfl).2
theorem z_rd_cond (m : Mem) (L0 : List StepT) {s : StepT} {c : CondT} (ok : ∀ t ∈ L0 ++ [s], ∃ k : Int, t.ok k) (hk0 : s.ks = []) {k : Int} (hc : c.ok k) (h6 : k ≤ 6) (hl : s.cs.length ≤ 100) : d_Reader_reads [.ref m.length, .lst ((condW c).map D.str)] (rdM m (L0 ++ [s])) = .ok (.bl true) (rdM m (L0 ++ [⟨s.fl, s.cs ++ [c], []⟩])) := by
  unfold d_Reader_reads
  rw [bodyN_z]
  have t1 := fun x2 x3 x4 => head_is (rdM m (L0 ++ [s])) so3.2.1 so3.1 (e := [some (.ref m.length), some (.lst ((condW c).map D.str)), x2, x3, x4]) (ws := [.str (numS c.n), .str c.w, .str (stepS c.s)]) rfl
  have t2 := fun x2 x3 x4 => head_is (rdM m (L0 ++ [s])) so3.2.1 so3.2.1 (e := [some (.ref m.length), some (.lst ((condW c).map D.str)), x2, x3, x4]) (ws := [.str (numS c.n), .str c.w, .str (stepS c.s)]) rfl
  rw [ne3.1] at t1
  rw [decide_eq_true rfl] at t2
  have sn := steps_not m (L := L0 ++ [s]) (by simp) ok
  have hs : ∀ i, c.s = some i → 0 ≤ i ∧ i ≤ 9 := fun i hi => by have := hc.s i hi; omega
  have lst := last_ix m L0 s 2 (d := .tup []) (by show some (D.tup (s.ks.map CardT.d)) = _; rw [hk0]; rfl)
  have lst1 := last_ix m L0 s 1 (d := .tup (s.cs.map CondT.d)) rfl
  have eqt : oEq (rdM m (L0 ++ [s])) (.tup []) (.tup []) = .ok (.bl true) (rdM m (L0 ++ [s])) := by
    rw [oEq_gd (n := 1) (k := 1) (by simp) (by simp) (by decide) (by decide)]
    simp
  have sl := set_lastZ m L0 s ⟨s.fl, s.cs ++ [c], []⟩ 1 (fo := eVar 2) (fi := eC (.int 1)) (fe := eBin oAdd (eBin oIx (eVar 2) (eC (.int 1))) (eTup (aCons (eTup (aCons (eVar 3) (aCons (eBin oIx (eVar 1) (eC (.int 2))) (aCons (eVar 4) (aNil))))) (aNil)))) (e := [some (.ref m.length), some (.lst ((condW c).map D.str)), some (.ref (m.length + 2 + L0.length)), some (.int c.n), some (optD c.s)]) (d := .tup (s.cs.map CondT.d ++ [c.d])) (by decide) (eBin_ok (eBin_ok rfl rfl lst1) (eTup_ok (aCons_ok (eTup_ok (aCons_ok rfl (aCons_ok (eBin_ok rfl rfl rfl) (aCons_ok rfl rfl)))) rfl)) (addT_ok _ (by simp; omega))) rfl rfl (by simp [lstS, hk0])
  have tail : (eAnd (eBin oIsNot (eVar 3) (eC .non)) (eOr (eBin oIsNot (eVar 4) (eC .non)) (eBin oEq (eBin oIx (eVar 1) (eC (.int 3))) (eC (.str "-"))))) [some (.ref m.length), some (.lst ((condW c).map D.str)), some (.ref (m.length + 2 + L0.length)), some (.int c.n), some (optD c.s)] (rdM m (L0 ++ [⟨s.fl, s.cs ++ [c], []⟩])) = .ok (.bl true) (rdM m (L0 ++ [⟨s.fl, s.cs ++ [c], []⟩])) := by
    rw [eAnd_z, eBin_ok (m2 := rdM m (L0 ++ [⟨s.fl, s.cs ++ [c], []⟩])) (r := .ok (.bl true) (rdM m (L0 ++ [⟨s.fl, s.cs ++ [c], []⟩]))) rfl rfl rfl, bind_ok]
    simp only []
    rw [eOr_z]
    unfold condW
    cases hcs : c.s with
    | some i =>
      rw [eBin_ok (m2 := rdM m (L0 ++ [⟨s.fl, s.cs ++ [c], []⟩])) (r := .ok (.bl true) (rdM m (L0 ++ [⟨s.fl, s.cs ++ [c], []⟩]))) rfl rfl rfl, bind_ok]
    | none =>
      rw [eBin_ok (m2 := rdM m (L0 ++ [⟨s.fl, s.cs ++ [c], []⟩])) (r := .ok (.bl false) (rdM m (L0 ++ [⟨s.fl, s.cs ++ [c], []⟩]))) rfl rfl rfl, bind_ok]
      simp only []
      exact eBin_ok (x := .str "-") (y := .str "-") (eBin_ok rfl rfl rfl) rfl ((oEq_str so3.2.2.2 so3.2.2.2).trans (by rw [decide_eq_true rfl]))
  have run : s_Reader_reads [some (.ref m.length), some (.lst ((condW c).map D.str)), none, none, none] (rdM m (L0 ++ [s])) = .ok (.rt (.bl true)) (rdM m (L0 ++ [⟨s.fl, s.cs ++ [c], []⟩])) := by
    refine seq_ok (if_f (t1 none none none) rfl) ?_
    refine seq_ok (if_f (tVal_ok (eBin_ok (fld_steps m _ rfl) (eLst_ok rfl) sn)) rfl) ?_
    refine seq_ok (asg_ok (eBin_ok (fld_steps m _ rfl) rfl (last_ref m L0 s)) rfl) ?_
    refine seq_rt (if_rt (tAnd_t (t2 _ _ _) (tAnd_t (tVal_ok (eBin_ok (call_ok (aCons_ok rfl rfl) rfl) rfl (oEq_int _ _ _))) (tVal_ok (eBin_ok (eBin_ok rfl rfl lst) (eTup_ok rfl) eqt)))) ?_)
    refine seq_ok (par_ok (aCons_ok (eDef_ok (aCons_ok (eBin_ok rfl rfl rfl) rfl) rfl (z_number _ hc.n0 hc.n9)) (aCons_ok (eDef_ok (aCons_ok (eBin_ok rfl rfl rfl) rfl) rfl (z_number_o _ hs)) rfl))) ?_
    exact seq_ok sl (ret_ok tail)
  exact (congrArg (fun z => Res.bind z _) run).trans rfl
theorem z_rd_card (m : Mem) (L0 : List StepT) {s : StepT} {c : CardT} (ok : ∀ t ∈ L0 ++ [s], ∃ k : Int, t.ok k) (hl : s.ks.length ≤ 100) : d_Reader_reads [.ref m.length, .lst ((cardW c).map D.str)] (rdM m (L0 ++ [s])) = .ok (.bl true) (rdM m (L0 ++ [⟨s.fl, s.cs, s.ks ++ [c]⟩])) := by
  unfold d_Reader_reads
  rw [bodyN_z]
  have t1 := fun x2 x3 x4 => head_is (rdM m (L0 ++ [s])) so3.2.2.1 so3.1 (e := [some (.ref m.length), some (.lst ((cardW c).map D.str)), x2, x3, x4]) (ws := [.str c.nm, .str c.bg, .str c.gd, .str c.bd]) rfl
  have t2 := fun x2 x3 x4 => head_is (rdM m (L0 ++ [s])) so3.2.2.1 so3.2.1 (e := [some (.ref m.length), some (.lst ((cardW c).map D.str)), x2, x3, x4]) (ws := [.str c.nm, .str c.bg, .str c.gd, .str c.bd]) rfl
  have t3 := fun x2 x3 x4 => head_is (rdM m (L0 ++ [s])) so3.2.2.1 so3.2.2.1 (e := [some (.ref m.length), some (.lst ((cardW c).map D.str)), x2, x3, x4]) (ws := [.str c.nm, .str c.bg, .str c.gd, .str c.bd]) rfl
  rw [ne3.2.1] at t1
  rw [ne3.2.2] at t2
  rw [decide_eq_true rfl] at t3
  have sn := steps_not m (L := L0 ++ [s]) (by simp) ok
  have lst2 := last_ix m L0 s 2 (d := .tup (s.ks.map CardT.d)) rfl
  have sl := set_lastZ m L0 s ⟨s.fl, s.cs, s.ks ++ [c]⟩ 2 (fo := eVar 2) (fi := eC (.int 2)) (fe := eBin oAdd (eBin oIx (eVar 2) (eC (.int 2))) (eTup (aCons (eCall bTuple (aCons (eSlice (eVar 1) (pSome (eC (.int 1))) (pNone)) (aNil))) (aNil)))) (e := [some (.ref m.length), some (.lst ((cardW c).map D.str)), some (.ref (m.length + 2 + L0.length)), none, none]) (d := .tup (s.ks.map CardT.d ++ [c.d])) (by decide) (eBin_ok (eBin_ok rfl rfl lst2) (eTup_ok (aCons_ok (x := c.d) (call_ok (aCons_ok (x := .lst [.str c.nm, .str c.bg, .str c.gd, .str c.bd]) rfl rfl) rfl) rfl)) (addT_ok _ (by simp; omega))) rfl rfl (by simp [lstS])
  have run : s_Reader_reads [some (.ref m.length), some (.lst ((cardW c).map D.str)), none, none, none] (rdM m (L0 ++ [s])) = .ok (.rt (.bl true)) (rdM m (L0 ++ [⟨s.fl, s.cs, s.ks ++ [c]⟩])) := by
    refine seq_ok (if_f (t1 none none none) rfl) ?_
    refine seq_ok (if_f (tVal_ok (eBin_ok (fld_steps m _ rfl) (eLst_ok rfl) sn)) rfl) ?_
    refine seq_ok (asg_ok (eBin_ok (fld_steps m _ rfl) rfl (last_ref m L0 s)) rfl) ?_
    refine seq_ok (if_f (tAnd_f (t2 _ _ _)) rfl) ?_
    refine seq_rt (if_rt (tAnd_t (t3 _ _ _) (tVal_ok (eBin_ok (call_ok (aCons_ok rfl rfl) rfl) rfl (oEq_int _ _ _)))) ?_)
    exact seq_ok sl (ret_ok rfl)
  exact (congrArg (fun z => Res.bind z _) run).trans rfl
end DL

namespace DL
open PySem L2 TL
/-! ## a text read -/
inductive Reads (m : Mem) : Mem → List (List Str) → Mem → Prop
  | nil (M : Mem) : Reads m M [] M
  | cons {M M1 M2 : Mem} {ws : List Str} {rest : List (List Str)} (r : RwOk ws) (h : d_Reader_reads [.ref m.length, .lst (ws.map D.str)] M = .ok (.bl true) M1) (h0 : ∃ fs, M[m.length]? = some (.ins "Reader" fs) ∧ lookF "reads" fs = none) (k : Reads m M1 rest M2) : Reads m M (ws :: rest) M2
theorem Reads.append {m M M1 M2 : Mem} {a b : List (List Str)} (h : Reads m M a M1) (k : Reads m M1 b M2) : Reads m M (a ++ b) M2 := by
  induction h with
  | nil => exact k
  | cons r h h0 _ ih => exact .cons r h h0 (ih k)
theorem rd_ins (m : Mem) (L : List StepT) : ∃ fs, (rdM m L)[m.length]? = some (.ins "Reader" fs) ∧ lookF "reads" fs = none := ⟨_, rd0 m L, rfl⟩
theorem ok_part {s : StepT} {k : Int} (h : s.ok k) {cs : List CondT} {ks : List CardT} (hc : cs.Sublist s.cs) (hk : ks.Sublist s.ks) : (⟨s.fl, cs, ks⟩ : StepT).ok k :=
  ⟨h.fl, Nat.le_trans hc.length_le h.lc, Nat.le_trans hk.length_le h.lk, fun c q => h.cs c (hc.subset q), fun c q => h.ks c (hk.subset q), (hk.map _).nodup h.nd⟩
section
variable (m : Mem) {L : List StepT} (hL : ∀ t ∈ L, ∃ k : Int, t.ok k) (hl : L.length ≤ 90) {s : StepT} {k : Int} (hs : s.ok k) (h6 : k ≤ 6)
include hL hs h6
theorem reads_conds : ∀ (rest done_ : List CondT), done_ ++ rest = s.cs → Reads m (rdM m (L ++ [⟨s.fl, done_, []⟩])) (rest.map condW) (rdM m (L ++ [⟨s.fl, s.cs, []⟩]))
  | [], done_, e => by
    rw [List.append_nil] at e
    rw [e]
    exact .nil _
  | c :: rest, done_, e => by
    have lc := hs.lc
    have hm : c ∈ s.cs := by rw [← e]; simp
    have sub : done_.Sublist s.cs := by rw [← e]; exact List.sublist_append_left _ _
    have dl := sub.length_le
    refine .cons (cond_rw (hs.cs c hm) h6) (z_rd_cond m L (s := ⟨s.fl, done_, []⟩) (fun t ht => ?_) rfl (hs.cs c hm) h6 (by show done_.length ≤ 100; omega)) (rd_ins _ _) (reads_conds rest (done_ ++ [c]) (by rw [List.append_assoc]; exact e))
    rcases List.mem_append.mp ht with ht | ht
    · exact hL t ht
    · rw [List.mem_singleton.mp ht]
      exact ⟨k, ok_part hs sub (List.nil_sublist _)⟩
theorem reads_cards : ∀ (rest done_ : List CardT), done_ ++ rest = s.ks → Reads m (rdM m (L ++ [⟨s.fl, s.cs, done_⟩])) (rest.map cardW) (rdM m (L ++ [s]))
  | [], done_, e => by
    rw [List.append_nil] at e
    rw [e]
    exact .nil _
  | c :: rest, done_, e => by
    have lk := hs.lk
    have hm : c ∈ s.ks := by rw [← e]; simp
    have sub : done_.Sublist s.ks := by rw [← e]; exact List.sublist_append_left _ _
    have dl := sub.length_le
    refine .cons (card_rw (hs.ks c hm)) (z_rd_card m L (s := ⟨s.fl, s.cs, done_⟩) (c := c) (fun t ht => ?_) (by show done_.length ≤ 100; omega)) (rd_ins _ _) (reads_cards rest (done_ ++ [c]) (by rw [List.append_assoc]; exact e))
    rcases List.mem_append.mp ht with ht | ht
    · exact hL t ht
    · rw [List.mem_singleton.mp ht]
      exact ⟨k, ok_part hs (List.Sublist.refl _) sub⟩
include hl
theorem reads_step : Reads m (rdM m L) (rowsW s) (rdM m (L ++ [s])) := by
  unfold rowsW
  refine .cons (step_rw hs) (z_rd_step m L (by omega) s.fl) (rd_ins _ _) ?_
  exact (reads_conds m hL hs h6 s.cs [] rfl).append (reads_cards m hL hs h6 s.ks [] rfl)
end
theorem reads_deck (m : Mem) : ∀ (ss L : List StepT), (∀ t ∈ L, ∃ k : Int, t.ok k) → (∀ s ∈ ss, ∃ k : Int, k ≤ 6 ∧ s.ok k) → L.length + ss.length ≤ 90 → Reads m (rdM m L) (deckW ss) (rdM m (L ++ ss))
  | [], L, _, _, _ => by
    rw [List.append_nil]
    exact .nil _
  | s :: ss, L, hL, hs, hl => by
    rw [List.length_cons] at hl
    obtain ⟨k, h6, so⟩ := hs s (by simp)
    have a := reads_step m hL (by omega) so h6
    have b := reads_deck m ss (L ++ [s]) (fun t ht => by
      rcases List.mem_append.mp ht with ht | ht
      · exact hL t ht
      · rw [List.mem_singleton.mp ht]
        exact ⟨k, so⟩) (fun t ht => hs t (by simp [ht])) (by simp; omega)
    rw [List.append_assoc] at b
    have e : deckW (s :: ss) = rowsW s ++ deckW ss := by simp [deckW]
    rw [e]
    exact a.append b
theorem split_ok (M : Mem) {a b : Str} (hb : (b.length == 0) = false) (ha : a.length + 2 ≤ 1000000) : mSplit M (.str a) [.str b] = .ok (.lst ((Txt.split a b).map D.str)) M := by
  show (if (b.length == 0) = false ∧ a.length + 2 ≤ 1000000 then Res.ok (D.lst ((Txt.split a b).map D.str)) M else .bad) = _
  rw [if_pos ⟨hb, ha⟩]
theorem sp_len : ((" " : Str).length == 0) = false ∧ (("\n" : Str).length == 0) = false := by decide +kernel
theorem read_loop (m : Mem) (x0 x4 x5 : Option D) {gd : Mem → Bool} (hg : ∀ M, gd M = true) : ∀ {M M' : Mem} {Ls : List (List Str)}, Reads m M Ls M' → ∀ (i : Nat) (x2 x3 : Option D),
    ∃ y2 y3, loopD gd (gT [2, 3]) lb_read_1 (enumD i ((Ls.map rowT).map D.str)) [x0, some (.ref m.length), x2, x3, x4, x5] M = .ok (.nx [x0, some (.ref m.length), y2, y3, x4, x5]) M' := fun {M M' Ls} h => by
  induction h with
  | nil M =>
    intro i x2 x3
    exact ⟨x2, x3, by show loopD gd _ _ [] _ _ = _; rw [loop_nil, if_pos (hg _)]⟩
  | cons r h h0 _ ih =>
    rename_i M M1 M2 ws rest _
    intro i x2 x3
    obtain ⟨y2, y3, q⟩ := ih (i + 1) (some (.int (i : Int))) (some (.str (rowT ws)))
    refine ⟨y2, y3, ?_⟩
    obtain ⟨fs, g, lf⟩ := h0
    have rl := row_len r
    have sp : (eMet "str" mSplit (eVar 3) (aCons (eC (.str " ")) (aNil))) [x0, some (.ref m.length), some (.int (i : Int)), some (.str (rowT ws)), x4, x5] M = .ok (.lst (ws.map D.str)) M := by
      refine met_ok rfl (tyM_str _ _) (aCons_ok rfl rfl) ?_
      rw [split_ok M sp_len.1 (by omega), split_row r]
    rw [List.map_cons, List.map_cons]
    show loopD gd _ _ (.tup [.int (i : Int), .str (rowT ws)] :: enumD (i + 1) ((rest.map rowT).map D.str)) _ _ = _
    rw [loop_cons, if_pos (hg _), show gT [2, 3] (.tup [.int (i : Int), .str (rowT ws)]) [x0, some (.ref m.length), x2, x3, x4, x5] = some [x0, some (.ref m.length), some (.int (i : Int)), some (.str (rowT ws)), x4, x5] from rfl]
    simp only []
    have own : (eOwn "Reader" "reads" 2 d_Reader_reads (eVar 1) (aCons (eMet "str" mSplit (eVar 3) (aCons (eC (.str " ")) (aNil))) (aNil))) [x0, some (.ref m.length), some (.int (i : Int)), some (.str (rowT ws)), x4, x5] M = .ok (.bl true) M1 := by
      rw [eOwn_z, show eVar 1 [x0, some (.ref m.length), some (.int (i : Int)), some (.str (rowT ws)), x4, x5] M = .ok (.ref m.length) M from rfl, bind_ok]
      simp only [g, lf, and_self, if_true]
      rw [aCons_ok sp rfl, bind_ok, if_pos (show [D.lst (ws.map D.str)].length + 1 = 2 from rfl)]
      exact h
    have bo : lb_read_1 [x0, some (.ref m.length), some (.int (i : Int)), some (.str (rowT ws)), x4, x5] M = .ok (.nx [x0, some (.ref m.length), some (.int (i : Int)), some (.str (rowT ws)), x4, x5]) M1 := if_f (tNot_ok (b := true) (tVal_ok own)) rfl
    rw [bo]
    exact q
theorem z_read (m : Mem) {dk : List StepT} (hd : DeckOk dk) : d_read [.str (textT dk)] m = .ok (deckD dk) m := by
  have le := hd.le
  have tl' := text_len hd
  have rd := reads_deck m dk [] (fun t ht => by cases ht) (fun s hs => deck_at hd hs) (by simp; omega)
  rw [List.nil_append] at rd
  have mk : (eMake "Reader" 1 d_Reader_init (aNil)) [some (.str (textT dk)), none, none, none, none, none] m = .ok (.ref m.length) (rdM m []) := by
    rw [eMake_z, show aNil [some (.str (textT dk)), none, none, none, none, none] m = .ok [] m from rfl, bind_ok, if_pos (show ([] : List D).length + 1 = 1 from rfl)]
    unfold d_Reader_init
    rw [bodyN_z]
    simp [s_Reader_init, putFD, rdM, rdRefs]
  obtain ⟨y2, y3, q⟩ := read_loop m (some (.str (textT dk))) none none (gd := lGuard (.lst (((deckW dk).map rowT).map D.str)) (((deckW dk).map rowT).map D.str)) (fun _ => rfl) rd 0 none none
  have it : (iEnumS (aCons (eMet "str" mSplit (eVar 0) (aCons (eC (.str "\n")) (aNil))) (aNil))) [some (.str (textT dk)), some (.ref m.length), none, none, none, none] (rdM m []) = .ok ⟨enumD 0 (((deckW dk).map rowT).map D.str), lGuard (.lst (((deckW dk).map rowT).map D.str)) (((deckW dk).map rowT).map D.str)⟩ (rdM m []) := by
    unfold iEnumS
    have sp : (eMet "str" mSplit (eVar 0) (aCons (eC (.str "\n")) (aNil))) [some (.str (textT dk)), some (.ref m.length), none, none, none, none] (rdM m []) = .ok (.lst (((deckW dk).map rowT).map D.str)) (rdM m []) := by
      refine met_ok rfl (tyM_str _ _) (aCons_ok rfl rfl) ?_
      rw [split_ok _ sp_len.2 (by omega), split_text hd]
    rw [aCons_ok sp rfl]
    rfl
  have steps : (eCall bTuple (aCons (eComp (iSeqD (eFld "Reader" "steps" (eVar 1))) (gV 5) (tYesD) (eCall bTuple (aCons (eVar 5) (aNil))) [5]) (aNil))) [some (.str (textT dk)), some (.ref m.length), y2, y3, none, none] (rdM m dk) = .ok (deckD dk) (rdM m dk) := by
    have co := comp_ok (it := iSeqD (eFld "Reader" "steps" (eVar 1))) (tg := gV 5) (t := tYesD) (f := eCall bTuple (aCons (eVar 5) (aNil))) (own := [5]) (e := [some (.str (textT dk)), some (.ref m.length), y2, y3, none, none]) (m := rdM m dk) (m1 := rdM m dk) (p := ⟨rdRefs m dk.length, lGuard (.ref (m.length + 1)) (rdRefs m dk.length)⟩) (itC_ok (fld_steps m dk rfl) (rd1 m dk)) (fun j : Nat => D.ref (m.length + 2 + j)) (List.range dk.length) rfl (by simp [lGuard, rd1, D.beq_selfL]) (fun j => [some (.str (textT dk)), some (.ref m.length), y2, y3, none, some (.ref (m.length + 2 + j))]) (fun _ => true) (fun j => (dk.getD j ⟨"", [], []⟩).d) (fun j hj => ⟨rfl, rfl, fun _ => ?_⟩) (by simp; omega)
    · rw [List.filter_eq_self.mpr (fun _ _ => rfl)] at co
      refine call_ok (aCons_ok co rfl) ?_
      have e : (List.range dk.length).map (fun j => (dk.getD j ⟨"", [], []⟩).d) = dk.map StepT.d := by
        apply List.ext_getElem?
        intro i
        rw [List.getElem?_map, List.getElem?_map]
        by_cases c : i < dk.length
        · rw [List.getElem?_range c, List.getElem?_eq_getElem c]
          simp [c]
        · rw [List.getElem?_eq_none (by simp; omega), List.getElem?_eq_none (by omega)]
          rfl
      rw [e]
      rfl
    · have hj := List.mem_range.mp hj
      have g : dk[j]? = some dk[j] := List.getElem?_eq_getElem hj
      have gd : dk.getD j ⟨"", [], []⟩ = dk[j] := by simp [hj]
      have c := rdj m dk g
      rw [gd]
      refine call_ok (aCons_ok rfl rfl) ?_
      unfold bTuple
      simp only [dSeq, c]
      rfl
  refine body_rt (m1 := rdM m dk) (d := deckD dk) ?_ (by unfold rdM; exact fin_app (gd_low _ 4 _ (gd_deck hd 0)))
  show s_read [some (.str (textT dk)), none, none, none, none, none] m = _
  refine seq_ok (asg_ok mk rfl) ?_
  refine seq_ok (for_ok it q) ?_
  refine seq_ok (asg_ok steps rfl) ?_
  refine seq_ok (drop_ok (eDef_ok (aCons_ok rfl rfl) rfl (z_need_deck hd _))) ?_
  exact ret_ok rfl
end DL

namespace DL
open PySem L2 TL
theorem sh_deckZ {dk : List StepT} (h : DeckOk dk) : shD (deckD dk) = true := by
  have le := h.le
  show (decide ((dk.map StepT.d).length ≤ 1000) && shL (dk.map StepT.d)) = true
  rw [List.length_map, decide_eq_true (by omega), Bool.true_and]
  refine shL_all fun d hd => ?_
  obtain ⟨s, hs, rfl⟩ := List.mem_map.mp hd
  obtain ⟨k, hk⟩ := h.mem hs
  have lc := hk.lc
  have lk := hk.lk
  have a : shD (.tup (s.cs.map CondT.d)) = true := by
    show (decide ((s.cs.map CondT.d).length ≤ 1000) && shL (s.cs.map CondT.d)) = true
    rw [List.length_map, decide_eq_true (by omega), Bool.true_and]
    exact shL_all fun d hd => by
      obtain ⟨c, _, rfl⟩ := List.mem_map.mp hd
      show (decide (3 ≤ 1000) && (true && (true && (shD (optD c.s) && true)))) = true
      cases c.s <;> rfl
  have b : shD (.tup (s.ks.map CardT.d)) = true := by
    show (decide ((s.ks.map CardT.d).length ≤ 1000) && shL (s.ks.map CardT.d)) = true
    rw [List.length_map, decide_eq_true (by omega), Bool.true_and]
    exact shL_all fun d hd => by
      obtain ⟨c, _, rfl⟩ := List.mem_map.mp hd
      rfl
  show (decide (3 ≤ 1000) && (true && (shD (.tup (s.cs.map CondT.d)) && (shD (.tup (s.ks.map CardT.d)) && true)))) = true
  rw [a, b]
  rfl
/-! the law's own rows -/
theorem l5s : ("cond " : Str).length = 5 ∧ ("card " : Str).length = 5 ∧ ("step " : Str).length = 5 ∧ (" " : Str).length = 1 := by decide +kernel
theorem len_app (a b : Str) : (a ++ b).length = a.length + b.length := by
  rw [len_tl, len_tl, len_tl, tl_append, List.length_append]
theorem lw_cond (m : Mem) {c : CondT} {k : Int} (hc : c.ok k) (h6 : k ≤ 6) (acc : List Str) (ha : acc.length ≤ 900) (x0 x1 x2 x3 x5 x6 x7 x11 x12 : Option D) : lb_law_3 [x0, x1, x2, x3, some (.ref m.length), x5, x6, x7, some (.int c.n), some (.str c.w), some (optD c.s), x11, x12] (m ++ [.lst (acc.map D.str)]) = .ok (.nx [x0, x1, x2, x3, some (.ref m.length), x5, x6, x7, some (.int c.n), some (.str c.w), some (optD c.s), x11, x12]) (m ++ [.lst ((acc ++ [rowT (condW c)]).map D.str)]) := by
  have hs : ∀ i, c.s = some i → 0 ≤ i ∧ i ≤ 9 := fun i hi => by have := hc.s i hi; omega
  have w1 := (wd_num hc.n0 hc.n9).l
  have w2 := (wd_word hc.w).l
  have w3 := (wd_step hs).l
  have l := l5s
  refine drop_ok (d := .non) (met_ok rfl (tyM_ref (mem_last _ _)) (aCons_ok (m1 := m ++ [.lst (acc.map D.str)]) (x := .str (rowT (condW c))) ?_ rfl) ?_)
  · rw [← row_cond2]
    refine eBin_ok (eBin_ok (eBin_ok (eBin_ok (eBin_ok rfl (call_ok (aCons_ok rfl rfl) (str_ok _ hc.n0 hc.n9)) (addS_ok _ ?_)) rfl (addS_ok _ ?_)) rfl (addS_ok _ ?_)) rfl (addS_ok _ ?_)) (stepS_ok _ hs rfl) (addS_ok _ ?_)
    all_goals (simp only [len_app, l.1, l.2.2.2]; omega)
  · rw [app_cell _ _ _ (by rw [List.length_map]; omega), List.map_append]
    rfl
theorem lw_conds (m : Mem) {k : Int} (hk : k ≤ 6) (x0 x1 x2 x3 x5 x6 x7 x11 x12 : Option D) : ∀ (cs : List CondT) (acc : List Str) (x8 x9 x10 : Option D), (∀ c ∈ cs, c.ok k) → acc.length + cs.length ≤ 900 →
    ∃ y8 y9 y10, loopD free (gT [8, 9, 10]) lb_law_3 (cs.map CondT.d) [x0, x1, x2, x3, some (.ref m.length), x5, x6, x7, x8, x9, x10, x11, x12] (m ++ [.lst (acc.map D.str)]) = .ok (.nx [x0, x1, x2, x3, some (.ref m.length), x5, x6, x7, y8, y9, y10, x11, x12]) (m ++ [.lst ((acc ++ cs.map fun c => rowT (condW c)).map D.str)])
  | [], acc, x8, x9, x10, _, _ => ⟨x8, x9, x10, by rw [List.map_nil, loop_nil, if_pos (free_z _)]; simp⟩
  | c :: cs, acc, x8, x9, x10, h, hl => by
    rw [List.length_cons] at hl
    obtain ⟨y8, y9, y10, q⟩ := lw_conds m hk x0 x1 x2 x3 x5 x6 x7 x11 x12 cs (acc ++ [rowT (condW c)]) (some (.int c.n)) (some (.str c.w)) (some (optD c.s)) (fun d hd => h d (by simp [hd])) (by simp; omega)
    refine ⟨y8, y9, y10, ?_⟩
    rw [List.map_cons, loop_cons, if_pos (free_z _), show gT [8, 9, 10] c.d [x0, x1, x2, x3, some (.ref m.length), x5, x6, x7, x8, x9, x10, x11, x12] = some [x0, x1, x2, x3, some (.ref m.length), x5, x6, x7, some (.int c.n), some (.str c.w), some (optD c.s), x11, x12] from rfl]
    simp only []
    rw [lw_cond m (h c (by simp)) hk acc (by omega)]
    have e : acc ++ (c :: cs).map (fun c => rowT (condW c)) = acc ++ [rowT (condW c)] ++ cs.map fun c => rowT (condW c) := by simp
    rw [e]
    exact q
theorem lw_card (m : Mem) {c : CardT} (hc : c.ok) (acc : List Str) (ha : acc.length ≤ 900) (x0 x1 x2 x3 x5 x6 x7 x8 x9 x10 x12 : Option D) : lb_law_4 [x0, x1, x2, x3, some (.ref m.length), x5, x6, x7, x8, x9, x10, some c.d, x12] (m ++ [.lst (acc.map D.str)]) = .ok (.nx [x0, x1, x2, x3, some (.ref m.length), x5, x6, x7, x8, x9, x10, some c.d, x12]) (m ++ [.lst ((acc ++ [rowT (cardW c)]).map D.str)]) := by
  have r : RwOk [c.nm, c.bg, c.gd, c.bd] := ⟨by simp, by simp, fun w hw => (card_rw hc).w w (by simp [cardW] at hw ⊢; exact .inr hw)⟩
  have rl := row_len r
  have l := l5s
  refine drop_ok (d := .non) (met_ok rfl (tyM_ref (mem_last _ _)) (aCons_ok (m1 := m ++ [.lst (acc.map D.str)]) (x := .str (rowT (cardW c))) ?_ rfl) ?_)
  · rw [← row_card2]
    exact eBin_ok rfl (met_ok rfl (tyM_str _ _) (aCons_ok rfl rfl) (join_row _ (ws := [c.nm, c.bg, c.gd, c.bd]) rfl r)) (addS_ok _ (by rw [l.2.1]; omega))
  · rw [app_cell _ _ _ (by rw [List.length_map]; omega), List.map_append]
    rfl
theorem lw_cards (m : Mem) (x0 x1 x2 x3 x5 x6 x7 x8 x9 x10 x12 : Option D) : ∀ (ks : List CardT) (acc : List Str) (x11 : Option D), (∀ c ∈ ks, c.ok) → acc.length + ks.length ≤ 900 →
    ∃ y11, loopD free (gV 11) lb_law_4 (ks.map CardT.d) [x0, x1, x2, x3, some (.ref m.length), x5, x6, x7, x8, x9, x10, x11, x12] (m ++ [.lst (acc.map D.str)]) = .ok (.nx [x0, x1, x2, x3, some (.ref m.length), x5, x6, x7, x8, x9, x10, y11, x12]) (m ++ [.lst ((acc ++ ks.map fun c => rowT (cardW c)).map D.str)])
  | [], acc, x11, _, _ => ⟨x11, by rw [List.map_nil, loop_nil, if_pos (free_z _)]; simp⟩
  | c :: ks, acc, x11, h, hl => by
    rw [List.length_cons] at hl
    obtain ⟨y11, q⟩ := lw_cards m x0 x1 x2 x3 x5 x6 x7 x8 x9 x10 x12 ks (acc ++ [rowT (cardW c)]) (some c.d) (fun d hd => h d (by simp [hd])) (by simp; omega)
    refine ⟨y11, ?_⟩
    rw [List.map_cons, loop_cons, if_pos (free_z _)]
    simp only [gV_z, List.set_cons_succ, List.set_cons_zero]
    rw [lw_card m (h c (by simp)) acc (by omega)]
    have e : acc ++ (c :: ks).map (fun c => rowT (cardW c)) = acc ++ [rowT (cardW c)] ++ ks.map fun c => rowT (cardW c) := by simp
    rw [e]
    exact q
theorem lw_steps (m : Mem) (x0 x1 x2 x3 x12 : Option D) : ∀ (ss : List StepT) (acc : List Str) (x5 x6 x7 x8 x9 x10 x11 : Option D), (∀ s ∈ ss, ∃ k : Int, k ≤ 6 ∧ s.ok k) → acc.length + 8 * ss.length ≤ 800 →
    ∃ y5 y6 y7 y8 y9 y10 y11, loopD free (gT [5, 6, 7]) lb_law_2 (ss.map StepT.d) [x0, x1, x2, x3, some (.ref m.length), x5, x6, x7, x8, x9, x10, x11, x12] (m ++ [.lst (acc.map D.str)]) = .ok (.nx [x0, x1, x2, x3, some (.ref m.length), y5, y6, y7, y8, y9, y10, y11, x12]) (m ++ [.lst ((acc ++ (deckW ss).map rowT).map D.str)])
  | [], acc, x5, x6, x7, x8, x9, x10, x11, _, _ => ⟨x5, x6, x7, x8, x9, x10, x11, by rw [List.map_nil, loop_nil, if_pos (free_z _)]; simp [deckW]⟩
  | s :: ss, acc, x5, x6, x7, x8, x9, x10, x11, h, hl => by
    rw [List.length_cons] at hl
    obtain ⟨k, hk, so⟩ := h s (by simp)
    have rl := rows_len so
    have lc := so.lc
    have lk := so.lk
    have fl := (wd_flag so.fl).l
    have l := l5s
    obtain ⟨z8, z9, z10, q1⟩ := lw_conds m hk x0 x1 x2 x3 (some (.str s.fl)) (some (.tup (s.cs.map CondT.d))) (some (.tup (s.ks.map CardT.d))) x11 x12 s.cs (acc ++ [rowT (stepW s)]) x8 x9 x10 so.cs (by simp; omega)
    obtain ⟨z11, q2⟩ := lw_cards m x0 x1 x2 x3 (some (.str s.fl)) (some (.tup (s.cs.map CondT.d))) (some (.tup (s.ks.map CardT.d))) z8 z9 z10 x12 s.ks (acc ++ [rowT (stepW s)] ++ s.cs.map fun c => rowT (condW c)) x11 so.ks (by simp; omega)
    obtain ⟨y5, y6, y7, y8, y9, y10, y11, q⟩ := lw_steps m x0 x1 x2 x3 x12 ss (acc ++ (rowsW s).map rowT) (some (.str s.fl)) (some (.tup (s.cs.map CondT.d))) (some (.tup (s.ks.map CardT.d))) z8 z9 z10 z11 (fun t ht => h t (by simp [ht])) (by simp; omega)
    refine ⟨y5, y6, y7, y8, y9, y10, y11, ?_⟩
    rw [List.map_cons, loop_cons, if_pos (free_z _), show gT [5, 6, 7] s.d [x0, x1, x2, x3, some (.ref m.length), x5, x6, x7, x8, x9, x10, x11, x12] = some [x0, x1, x2, x3, some (.ref m.length), some (.str s.fl), some (.tup (s.cs.map CondT.d)), some (.tup (s.ks.map CardT.d)), x8, x9, x10, x11, x12] from rfl]
    simp only []
    have er : acc ++ [rowT (stepW s)] ++ (s.cs.map fun c => rowT (condW c)) ++ (s.ks.map fun c => rowT (cardW c)) = acc ++ (rowsW s).map rowT := by simp [rowsW, Function.comp_def]
    rw [er] at q2
    have a1 : (sDrop (eMet "list" mApp (eVar 4) (aCons (eBin oAdd (eC (.str "step ")) (eVar 5)) (aNil)))) [x0, x1, x2, x3, some (.ref m.length), some (.str s.fl), some (.tup (s.cs.map CondT.d)), some (.tup (s.ks.map CardT.d)), x8, x9, x10, x11, x12] (m ++ [.lst (acc.map D.str)]) = .ok (.nx [x0, x1, x2, x3, some (.ref m.length), some (.str s.fl), some (.tup (s.cs.map CondT.d)), some (.tup (s.ks.map CardT.d)), x8, x9, x10, x11, x12]) (m ++ [.lst ((acc ++ [rowT (stepW s)]).map D.str)]) := by
      refine drop_ok (d := .non) (met_ok rfl (tyM_ref (mem_last _ _)) (aCons_ok (eBin_ok rfl rfl (addS_ok _ (by rw [l.2.2.1]; omega))) rfl) ?_)
      rw [app_cell _ _ _ (by rw [List.length_map]; omega), List.map_append, row_step2]
      rfl
    have bo : lb_law_2 [x0, x1, x2, x3, some (.ref m.length), some (.str s.fl), some (.tup (s.cs.map CondT.d)), some (.tup (s.ks.map CardT.d)), x8, x9, x10, x11, x12] (m ++ [.lst (acc.map D.str)]) = .ok (.nx [x0, x1, x2, x3, some (.ref m.length), some (.str s.fl), some (.tup (s.cs.map CondT.d)), some (.tup (s.ks.map CardT.d)), z8, z9, z10, z11, x12]) (m ++ [.lst ((acc ++ (rowsW s).map rowT).map D.str)]) := by
      refine seq_ok a1 ?_
      refine seq_ok (for_ok (p := ⟨s.cs.map CondT.d, free⟩) (m1 := m ++ [.lst ((acc ++ [rowT (stepW s)]).map D.str)]) (itT_ok rfl) q1) ?_
      exact for_ok (p := ⟨s.ks.map CardT.d, free⟩) (m1 := m ++ [.lst ((acc ++ [rowT (stepW s)] ++ s.cs.map fun c => rowT (condW c)).map D.str)]) (itT_ok rfl) q2
    rw [bo]
    have e : acc ++ (deckW (s :: ss)).map rowT = acc ++ (rowsW s).map rowT ++ (deckW ss).map rowT := by simp [deckW]
    rw [e]
    exact q
theorem turn15 (m : Mem) (h : HL m) (x0 x2 x3 x4 x5 x6 x7 x8 x9 x10 x11 x12 : Option D) :
    ∃ e m', lb_law_1 [x0, some (.ref 1), x2, x3, x4, x5, x6, x7, x8, x9, x10, x11, x12] m = .ok (.nx e) m' ∧ e.length = 13 ∧ e[1]? = some (some (.ref 1)) ∧ HL m' := by
  obtain ⟨dk, m1, q1, h1, hd⟩ := z_deck' h
  have le := hd.le
  obtain ⟨y5, y6, y7, y8, y9, y10, y11, q2⟩ := lw_steps m1 x0 (some (.ref 1)) x2 (some (deckD dk)) x12 dk [] x5 x6 x7 x8 x9 x10 x11 (fun s hs => deck_at hd hs) (by simp; omega)
  rw [List.nil_append] at q2
  have rows_ok : gdL 0 (((deckW dk).map rowT).map D.str) = true := gdL_all _ _ fun d hd' => by
    obtain ⟨w, hw, rfl⟩ := List.mem_map.mp hd'
    obtain ⟨ws, hws, rfl⟩ := List.mem_map.mp hw
    show PyData.strOk (rowT ws) = true
    unfold PyData.strOk
    rw [Array.all_eq_true_iff_forall_mem]
    intro c hc
    have := (row_chars (deck_rw hd ws hws) c (by simpa [tl] using hc)).2
    exact decide_eq_true (by omega)
  have hM : HL (m1 ++ [.lst (((deckW dk).map rowT).map D.str)]) := h1.lst rows_ok
  generalize hMe : m1 ++ [MO.lst (((deckW dk).map rowT).map D.str)] = M at q2 hM
  have gM : dSeq M (.ref m1.length) = some (((deckW dk).map rowT).map D.str) := by
    rw [← hMe]
    simp [dSeq]
  have zt := text_join M hd gM
  have z1 := z_written M hd
  have z2 := z_read M hd
  have to := text_ok hd
  have a1 : d_law_alike 8 [.str (textT dk), .str (textT dk)] M = .ok (.bl true) M := alike_same M (n := 0) (by decide) to rfl
  have a2 := alike_same M (n := 4) (by decide) (gd_deck hd 0) (sh_deckZ hd)
  refine ⟨[x0, some (.ref 1), x2, some (deckD dk), some (.ref m1.length), y5, y6, y7, y8, y9, y10, y11, some (.str (textT dk))], M, ?_, rfl, rfl, hM⟩
  refine seq_ok (par_ok (aCons_ok (eDef_ok (aCons_ok rfl rfl) rfl q1) (aCons_ok (m1 := m1 ++ [MO.lst []]) lstN0_ok rfl))) ?_
  refine seq_ok (for_ok (p := ⟨dk.map StepT.d, free⟩) (m1 := m1 ++ [MO.lst []]) (itT_ok rfl) q2) ?_
  refine seq_ok (asg_ok (met_ok rfl (tyM_str _ _) (aCons_ok rfl rfl) zt) rfl) ?_
  exact if_f (tOr_ok (x := false) (y := false) (tNot_ok (b := true) (tVal_ok (eDef_ok (aCons_ok (eDef_ok (aCons_ok rfl rfl) rfl z1) (aCons_ok rfl rfl)) rfl a1))) (tOr_ok (x := false) (y := false) (tNot_ok (b := true) (tVal_ok (eDef_ok (aCons_ok (eDef_ok (aCons_ok rfl rfl) rfl z2) (aCons_ok rfl rfl)) rfl a2))) (tVal_ok (eBin_ok (eDef_ok (aCons_ok (eDef_ok (aCons_ok rfl rfl) rfl z2) rfl) rfl z1) rfl ((oNe_str to to).trans (by rw [decide_eq_true rfl]; rfl)))))) rfl
def lone : List StepT := [⟨"even", [], []⟩]
theorem lone_ok : DeckOk lone := ⟨by decide, by decide, fun i s h => by
  match i, h with
  | 0, h => cases h; exact ⟨by decide +kernel, by decide, by decide, fun c hc => (by cases hc), fun c hc => (by cases hc), List.nodup_nil⟩
  | n + 1, h => cases h⟩
theorem lone_text : textT lone = "step even" := by
  show Txt.join "\n" [rowT (stepW ⟨"even", [], []⟩)] = _
  rw [← row_step2, join_eq]
  decide +kernel
theorem z_law (xs : List Int) : d_law [.scr xs] [] = .ok (.bl true) [] := by
  obtain ⟨m0, q0, h0⟩ := z_mix' xs 53
  obtain ⟨e1, m1, q1, hl1, p1, h1⟩ := loop_inv (gd := free) (tg := gV 2) (body := lb_law_1) (fun _ e m' => e.length = 13 ∧ e[1]? = some (some (.ref 1)) ∧ HL m') (rngD 0 6) 0 [some (.scr xs), some (.ref 1), none, none, none, none, none, none, none, none, none, none, none] m0
    (fun i d e m' hd ⟨hl, p1, hM⟩ => by
      obtain ⟨z0, z1, z2, z3, z4, z5, z6, z7, z8, z9, z10, z11, z12, rfl⟩ := L13 hl
      obtain rfl : z1 = _ := Option.some.inj p1
      obtain ⟨e', m5, q, hl5, p5, h5⟩ := turn15 m' hM z0 (some d) z3 z4 z5 z6 z7 z8 z9 z10 z11 z12
      exact ⟨_, e', m5, rfl, q, hl5, p5, h5⟩) (fun _ _ _ _ => rfl) ⟨rfl, rfl, h0⟩
  refine body_rt (d := .bl true) (m1 := m1) ?_ (fin_bl [] m1 true)
  show s_law [some (.scr xs), none, none, none, none, none, none, none, none, none, none, none, none] [] = _
  unfold s_law
  refine seq_ok (asg_ok (eDef_ok (aCons_ok rfl (aCons_ok rfl rfl)) rfl q0) rfl) ?_
  refine seq_ok (for_ok (p := ⟨rngD 0 6, free⟩) (m1 := m0) (by rw [iRangeD_z]; rfl) q1) ?_
  have z := z_read m1 lone_ok
  rw [lone_text] at z
  have eq : oEq m1 (deckD lone) (deckD lone) = .ok (.bl true) m1 := by
    rw [oEq_gd (gd_deck lone_ok 0) (gd_deck lone_ok 0) (by decide) (by decide)]
    simp
  exact ret_ok (eBin_ok (y := deckD lone) (eDef_ok (aCons_ok rfl rfl) rfl z) rfl eq)
end DL

namespace DL
open PySem PySem.Spec PyProof.Rows L2
structure Up (K : PySem.W.Frag) (mg : Str → Option Value) : Prop where
  hX : ∃ h : Heap, K.In h ∧ h.Ns mainGlobals mg
  c : He.SaysD Hd.fa Hd.fn K
  e : Hd.ex K = true
theorem Up.f {K : PySem.W.Frag} {mg : Str → Option Value} (U : Up K mg) (i : Nat) {f : He.Fa} (h : Hd.fa[i]? = some f := by rfl) : f.ok K = true := U.c.fact i h
theorem Up.d {K : PySem.W.Frag} {mg : Str → Option Value} (U : Up K mg) (i : Nat) {d : He.DefD} (h : Hd.fn[i]? = some d := by rfl) : ∃ fd, FunD K d.name d.qual d.params d.body d.scope (d.dvs K) (d.kws K) (He.fAd K d.at_) fd := U.c.def_ i h
noncomputable def Up.h {K : PySem.W.Frag} {mg : Str → Option Value} (U : Up K mg) : Heap := U.hX.choose
theorem Up.X {K : PySem.W.Frag} {mg : Str → Option Value} (U : Up K mg) : K.In U.h := U.hX.choose_spec.1
theorem Up.G {K : PySem.W.Frag} {mg : Str → Option Value} (U : Up K mg) : U.h.Ns mainGlobals mg := U.hX.choose_spec.2
theorem Up.t_FLAGS {K : PySem.W.Frag} {mg : Str → Option Value} (U : Up K mg) : ∀ G, SqT K G (He.ga K "FLAGS") ((["plain", "even", "only"] : List PySem.Str).map V.str) := fun G => He.tupB_ok (vs := [.str "plain", .str "even", .str "only"]) (He.ba (He.ba (He.ba (He.ba U.e).1).1).1).1 G
theorem Up.t_WORDS {K : PySem.W.Frag} {mg : Str → Option Value} (U : Up K mg) : ∀ G, SqT K G (He.ga K "WORDS") ((["gt", "ge", "eq", "ne", "le", "lt"] : List PySem.Str).map V.str) := fun G => He.tupB_ok (vs := [.str "gt", .str "ge", .str "eq", .str "ne", .str "le", .str "lt"]) (He.ba (He.ba (He.ba (He.ba U.e).1).1).1).2 G
theorem Up.t_BEGINS {K : PySem.W.Frag} {mg : Str → Option Value} (U : Up K mg) : ∀ G, SqT K G (He.ga K "BEGINS") ((["old", "shr", "new", "mod"] : List PySem.Str).map V.str) := fun G => He.tupB_ok (vs := [.str "old", .str "shr", .str "new", .str "mod"]) (He.ba (He.ba (He.ba U.e).1).1).2 G
theorem Up.t_GOODS {K : PySem.W.Frag} {mg : Str → Option Value} (U : Up K mg) : ∀ G, SqT K G (He.ga K "GOODS") ((["keep", "drop", "pass"] : List PySem.Str).map V.str) := fun G => He.tupB_ok (vs := [.str "keep", .str "drop", .str "pass"]) (He.ba (He.ba U.e).1).2 G
theorem Up.t_BADS {K : PySem.W.Frag} {mg : Str → Option Value} (U : Up K mg) : ∀ G, SqT K G (He.ga K "BADS") ((["keep", "drop"] : List PySem.Str).map V.str) := fun G => He.tupB_ok (vs := [.str "keep", .str "drop"]) (He.ba U.e).2 G
section
variable {P : Program} {w : World} {K : PySem.W.Frag} {mg : Str → Option Value} {base : Heap}
/-! is_number -/
theorem sc_is_number : FnScope ["part", "low", "high"] ["part", "low", "high"] (defScope Hd.sis_number) := ⟨rfl, rfl, rfl, by decide +kernel, rfl, by decide +kernel, by decide +kernel⟩
theorem ok_is_number (U : Up K mg) : ∃ fd, Has P w K mg base ("is_number", none) 1 ["part", "low", "high"] d_is_number fd := by
  obtain ⟨fd, F⟩ := U.d 0
  refine ⟨fd, def_ok F sc_is_number fun cdv A outer s H hr => ?_, FunD.bindsN F fun _ _ _ _ _ _ us hl => match us, hl with | [_, _, _], _ => rfl, F.kp⟩
  exact dss_one (ds_ret (de_and (de_callB call_isinst (by rfl) (He.free_ok U.X U.G (U.f 41)) bt_isinstance (da_cons (de_var 0) (da_cons (de_ty (by rfl) (He.free_ok U.X U.G (U.f 49)) bt_int) da_nil))) (de_and (de_not (de_callB call_isinst (by rfl) (He.free_ok U.X U.G (U.f 41)) bt_isinstance (da_cons (de_var 0) (da_cons (de_ty (by rfl) (He.free_ok U.X U.G (U.f 50)) bt_bool) da_nil)))) (de_one (de_chain opd_le opd_le (de_var 1) (de_var 0) (de_var 2))))))
/-! is_one_of -/
theorem sc_is_one_of : FnScope ["part", "words"] ["part", "words"] (defScope Hd.sis_one_of) := ⟨rfl, rfl, rfl, by decide +kernel, rfl, by decide +kernel, by decide +kernel⟩
theorem ok_is_one_of (U : Up K mg) : ∃ fd, Has P w K mg base ("is_one_of", none) 1 ["part", "words"] d_is_one_of fd := by
  obtain ⟨fd, F⟩ := U.d 1
  refine ⟨fd, def_ok F sc_is_one_of fun cdv A outer s H hr => ?_, FunD.bindsN F fun _ _ _ _ _ _ us hl => match us, hl with | [_, _], _ => rfl, F.kp⟩
  exact dss_one (ds_ret (de_and (de_callB call_isinst (by rfl) (He.free_ok U.X U.G (U.f 41)) bt_isinstance (da_cons (de_var 0) (da_cons (de_ty (by rfl) (He.free_ok U.X U.G (U.f 48)) bt_str) da_nil))) (de_one (de_cmp opd_in (de_var 0) (de_var 1) (by rfl)))))
/-! is_name -/
theorem sc_is_name : FnScope ["part", "sign"] ["part"] (defScope Hd.sis_name) := ⟨rfl, rfl, rfl, by decide +kernel, rfl, by decide +kernel, by decide +kernel⟩
theorem ok_is_name (U : Up K mg) : ∃ fd, Has P w K mg base ("is_name", none) 1 ["part"] d_is_name fd := by
  obtain ⟨fd, F⟩ := U.d 2
  refine ⟨fd, def_ok F sc_is_name fun cdv A outer s H hr => ?_, FunD.bindsN F fun _ _ _ _ _ _ us hl => match us, hl with | [_], _ => rfl, F.kp⟩
  exact dss_one (ds_ret (de_and (de_callB call_isinst (by rfl) (He.free_ok U.X U.G (U.f 41)) bt_isinstance (da_cons (de_var 0) (da_cons (de_ty (by rfl) (He.free_ok U.X U.G (U.f 48)) bt_str) da_nil))) (de_and (de_chain opd_le opd_le (de_int) (de_callB call_len (by rfl) (He.free_ok U.X U.G (U.f 42)) bt_len (da_cons (de_var 0) (da_nil))) (de_int)) (de_one (de_cmp (opd_eq hr.units) (de_comp (own := [("sign", 1)]) (g := gName 1) (gd := gV 1) (ix := [1]) rfl sc_is_name.nd (di_str (de_var 0)) (blkOk_by (by kernel_rfl)) (fun _ _ _ _ _ => tg_name sc_is_name.nd rfl (.inl rfl)) (fun _ _ _ _ _ => dts_one (dt_cmp opd_notin (de_var 1) (de_gstr (by rfl) (He.str_ok U.X U.G (U.f 7))) (by rfl))) (fun _ _ _ _ _ => de_var 1) (by decide) s H) (de_lst (da_nil)) (nomark _))))))
/-! is_row -/
theorem sc_is_row : FnScope ["part", "most"] ["part", "most"] (defScope Hd.sis_row) := ⟨rfl, rfl, rfl, by decide +kernel, rfl, by decide +kernel, by decide +kernel⟩
theorem ok_is_row (U : Up K mg) : ∃ fd, Has P w K mg base ("is_row", none) 1 ["part", "most"] d_is_row fd := by
  obtain ⟨fd, F⟩ := U.d 3
  refine ⟨fd, def_ok F sc_is_row fun cdv A outer s H hr => ?_, FunD.bindsN F fun _ _ _ _ _ _ us hl => match us, hl with | [_, _], _ => rfl, F.kp⟩
  exact dss_one (ds_ret (de_and (de_callB call_isinst (by rfl) (He.free_ok U.X U.G (U.f 41)) bt_isinstance (da_cons (de_var 0) (da_cons (de_ty (by rfl) (He.free_ok U.X U.G (U.f 47)) bt_tuple) da_nil))) (de_one (de_cmp opd_le (de_callB call_len (by rfl) (He.free_ok U.X U.G (U.f 42)) bt_len (da_cons (de_var 0) (da_nil))) (de_var 1) (nomark _)))))
/-! is_cond -/
theorem sc_is_cond : FnScope ["cond", "step"] ["cond", "step"] (defScope Hd.sis_cond) := ⟨rfl, rfl, rfl, by decide +kernel, rfl, by decide +kernel, by decide +kernel⟩
theorem ok_is_cond (U : Up K mg) : ∃ fd, Has P w K mg base ("is_cond", none) 2 ["cond", "step"] d_is_cond fd := by
  obtain ⟨f_is_number, h_is_number⟩ := ok_is_number (P := P) (w := w) (base := base) U
  obtain ⟨f_is_one_of, h_is_one_of⟩ := ok_is_one_of (P := P) (w := w) (base := base) U
  obtain ⟨fd, F⟩ := U.d 4
  refine ⟨fd, def_ok F sc_is_cond fun cdv A outer s H hr => ?_, FunD.bindsN F fun _ _ _ _ _ _ us hl => match us, hl with | [_, _], _ => rfl, F.kp⟩
  exact dss_cons (ds_if (dt_w (dw_or (dt_not (dt_val (de_callB call_isinst (by rfl) (He.free_ok U.X U.G (U.f 41)) bt_isinstance (da_cons (de_var 0) (da_cons (de_ty (by rfl) (He.free_ok U.X U.G (U.f 47)) bt_tuple) da_nil))))) (dw_or1 (dt_cmp (opd_ne hr.units) (de_callB call_len (by rfl) (He.free_ok U.X U.G (U.f 42)) bt_len (da_cons (de_var 0) (da_nil))) (de_int) (nomark _))))) (dss_one (ds_ret (de_bl))) (dss_nil)) (
      dss_cons (ds_if (dt_w (dw_or (dt_not (dt_val (de_call h_is_number.ok (hr.mono (by decide)) (by rfl) (He.glo_ok U.X U.G (U.f 13)) h_is_number.kp h_is_number.bd passD (da_cons (de_ix ixd (de_var 0) (de_int)) (da_cons (de_int) (da_cons (de_gint (by rfl) (He.int_ok U.X U.G (U.f 6))) (da_nil))))))) (dw_or1 (dt_not (dt_val (de_call h_is_one_of.ok (hr.mono (by decide)) (by rfl) (He.glo_ok U.X U.G (U.f 14)) h_is_one_of.kp h_is_one_of.bd passD (da_cons (de_ix ixd (de_var 0) (de_int)) (da_cons (de_gtup (ss := ["gt", "ge", "eq", "ne", "le", "lt"]) (by rfl) (He.glo_ok U.X U.G (U.f 9)) (U.t_WORDS)) (da_nil))))))))) (dss_one (ds_ret (de_bl))) (dss_nil)) (
      dss_one (ds_ret (de_or (de_cmp opd_is (de_ix ixd (de_var 0) (de_int)) (de_non) (nomark _)) (de_one (de_call h_is_number.ok (hr.mono (by decide)) (by rfl) (He.glo_ok U.X U.G (U.f 13)) h_is_number.kp h_is_number.bd passD (da_cons (de_ix ixd (de_var 0) (de_int)) (da_cons (de_int) (da_cons (de_bin opd_sub (de_var 1) (de_int)) (da_nil))))))))))
/-! is_card -/
theorem sc_is_card : FnScope ["card", "ahead"] ["card", "ahead"] (defScope Hd.sis_card) := ⟨rfl, rfl, rfl, by decide +kernel, rfl, by decide +kernel, by decide +kernel⟩
theorem ok_is_card (U : Up K mg) : ∃ fd, Has P w K mg base ("is_card", none) 2 ["card", "ahead"] d_is_card fd := by
  obtain ⟨f_is_name, h_is_name⟩ := ok_is_name (P := P) (w := w) (base := base) U
  obtain ⟨f_is_one_of, h_is_one_of⟩ := ok_is_one_of (P := P) (w := w) (base := base) U
  obtain ⟨fd, F⟩ := U.d 5
  refine ⟨fd, def_ok F sc_is_card fun cdv A outer s H hr => ?_, FunD.bindsN F fun _ _ _ _ _ _ us hl => match us, hl with | [_, _], _ => rfl, F.kp⟩
  exact dss_cons (ds_if (dt_w (dw_or (dt_not (dt_val (de_callB call_isinst (by rfl) (He.free_ok U.X U.G (U.f 41)) bt_isinstance (da_cons (de_var 0) (da_cons (de_ty (by rfl) (He.free_ok U.X U.G (U.f 47)) bt_tuple) da_nil))))) (dw_or (dt_cmp (opd_ne hr.units) (de_callB call_len (by rfl) (He.free_ok U.X U.G (U.f 42)) bt_len (da_cons (de_var 0) (da_nil))) (de_int) (nomark _)) (dw_or (dt_not (dt_val (de_call h_is_name.ok (hr.mono (by decide)) (by rfl) (He.glo_ok U.X U.G (U.f 15)) h_is_name.kp h_is_name.bd passD (da_cons (de_ix ixd (de_var 0) (de_int)) (da_nil))))) (dw_or1 (dt_cmp opd_in (de_ix ixd (de_var 0) (de_int)) (de_var 1) (by rfl))))))) (dss_one (ds_ret (de_bl))) (dss_nil)) (
      dss_one (ds_ret (de_and (de_call h_is_one_of.ok (hr.mono (by decide)) (by rfl) (He.glo_ok U.X U.G (U.f 14)) h_is_one_of.kp h_is_one_of.bd passD (da_cons (de_ix ixd (de_var 0) (de_int)) (da_cons (de_gtup (ss := ["old", "shr", "new", "mod"]) (by rfl) (He.glo_ok U.X U.G (U.f 10)) (U.t_BEGINS)) (da_nil)))) (de_and (de_call h_is_one_of.ok (hr.mono (by decide)) (by rfl) (He.glo_ok U.X U.G (U.f 14)) h_is_one_of.kp h_is_one_of.bd passD (da_cons (de_ix ixd (de_var 0) (de_int)) (da_cons (de_gtup (ss := ["keep", "drop", "pass"]) (by rfl) (He.glo_ok U.X U.G (U.f 11)) (U.t_GOODS)) (da_nil)))) (de_one (de_call h_is_one_of.ok (hr.mono (by decide)) (by rfl) (He.glo_ok U.X U.G (U.f 14)) h_is_one_of.kp h_is_one_of.bd passD (da_cons (de_ix ixd (de_var 0) (de_int)) (da_cons (de_gtup (ss := ["keep", "drop"]) (by rfl) (He.glo_ok U.X U.G (U.f 12)) (U.t_BADS)) (da_nil)))))))))
/-! need_step_form -/
theorem sc_need_step_form : FnScope ["number", "step", "place", "cond", "ahead", "card"] ["number", "step"] (defScope Hd.sneed_step_form) := ⟨rfl, rfl, rfl, by decide +kernel, rfl, by decide +kernel, by decide +kernel⟩
theorem ok_need_step_form (U : Up K mg) : ∃ fd, Has P w K mg base ("need_step_form", none) 3 ["number", "step"] d_need_step_form fd := by
  obtain ⟨f_is_one_of, h_is_one_of⟩ := ok_is_one_of (P := P) (w := w) (base := base) U
  obtain ⟨f_is_row, h_is_row⟩ := ok_is_row (P := P) (w := w) (base := base) U
  obtain ⟨f_is_cond, h_is_cond⟩ := ok_is_cond (P := P) (w := w) (base := base) U
  obtain ⟨f_is_card, h_is_card⟩ := ok_is_card (P := P) (w := w) (base := base) U
  obtain ⟨fd, F⟩ := U.d 6
  refine ⟨fd, def_ok F sc_need_step_form fun cdv A outer s H hr => ?_, FunD.bindsN F fun _ _ _ _ _ _ us hl => match us, hl with | [_, _], _ => rfl, F.kp⟩
  exact dss_cons (ds_if (dt_w (dw_or (dt_not (dt_val (de_callB call_isinst (by rfl) (He.free_ok U.X U.G (U.f 41)) bt_isinstance (da_cons (de_var 1) (da_cons (de_ty (by rfl) (He.free_ok U.X U.G (U.f 47)) bt_tuple) da_nil))))) (dw_or (dt_cmp (opd_ne hr.units) (de_callB call_len (by rfl) (He.free_ok U.X U.G (U.f 42)) bt_len (da_cons (de_var 1) (da_nil))) (de_int) (nomark _)) (dw_or1 (dt_not (dt_val (de_call h_is_one_of.ok (hr.mono (by decide)) (by rfl) (He.glo_ok U.X U.G (U.f 14)) h_is_one_of.kp h_is_one_of.bd passD (da_cons (de_ix ixd (de_var 1) (de_int)) (da_cons (de_gtup (ss := ["plain", "even", "only"]) (by rfl) (He.glo_ok U.X U.G (U.f 8)) (U.t_FLAGS)) (da_nil)))))))))) (dss_one (ds_never)) (dss_nil)) (
      dss_cons (ds_if (dt_w (dw_or (dt_not (dt_val (de_call h_is_row.ok (hr.mono (by decide)) (by rfl) (He.glo_ok U.X U.G (U.f 16)) h_is_row.kp h_is_row.bd passD (da_cons (de_ix ixd (de_var 1) (de_int)) (da_cons (de_gint (by rfl) (He.int_ok U.X U.G (U.f 4))) (da_nil)))))) (dw_or1 (dt_not (dt_val (de_call h_is_row.ok (hr.mono (by decide)) (by rfl) (He.glo_ok U.X U.G (U.f 16)) h_is_row.kp h_is_row.bd passD (da_cons (de_ix ixd (de_var 1) (de_int)) (da_cons (de_gint (by rfl) (He.int_ok U.X U.G (U.f 5))) (da_nil))))))))) (dss_one (ds_never)) (dss_nil)) (
      dss_cons (ds_for PassesOwn.never rfl (di_enumS (by rfl) (He.free_ok U.X U.G (U.f 43)) (da_cons (de_ix ixd (de_var 1) (de_int)) (da_nil))) (tg_tup rfl (tgs_cons (tg_name sc_need_step_form.nd rfl (.inl rfl)) (tgs_cons (tg_name sc_need_step_form.nd rfl (.inl rfl)) (tgs_nil)))) (dss_one (ds_if (dt_not (dt_val (de_call h_is_cond.ok (hr.mono (by decide)) (by rfl) (He.glo_ok U.X U.G (U.f 17)) h_is_cond.kp h_is_cond.bd passD (da_cons (de_var 3) (da_cons (de_var 0) (da_nil)))))) (dss_one (ds_never)) (dss_nil)))) (
      dss_cons (ds_set (i := 4) sc_need_step_form.nd rfl (.inl rfl) (de_lstN (da_nil))) (
      dss_one (ds_for PassesOwn.never rfl (di_enumS (by rfl) (He.free_ok U.X U.G (U.f 43)) (da_cons (de_ix ixd (de_var 1) (de_int)) (da_nil))) (tg_tup rfl (tgs_cons (tg_name sc_need_step_form.nd rfl (.inl rfl)) (tgs_cons (tg_name sc_need_step_form.nd rfl (.inl rfl)) (tgs_nil)))) (dss_cons (ds_if (dt_not (dt_val (de_call h_is_card.ok (hr.mono (by decide)) (by rfl) (He.glo_ok U.X U.G (U.f 18)) h_is_card.kp h_is_card.bd passD (da_cons (de_var 5) (da_cons (de_var 4) (da_nil)))))) (dss_one (ds_never)) (dss_nil)) (
      dss_one (ds_expr (de_bm app_snd PySem.F.plainAttrs_list PySem.F.slot_list_append PySem.F.type_list_append mt_append (de_var 4) (da_cons (de_ix ixd (de_var 5) (de_int)) (da_nil)))))))))))
/-! need_deck -/
theorem sc_need_deck : FnScope ["deck", "number", "step"] ["deck"] (defScope Hd.sneed_deck) := ⟨rfl, rfl, rfl, by decide +kernel, rfl, by decide +kernel, by decide +kernel⟩
theorem ok_need_deck (U : Up K mg) : ∃ fd, Has P w K mg base ("need_deck", none) 4 ["deck"] d_need_deck fd := by
  obtain ⟨f_is_row, h_is_row⟩ := ok_is_row (P := P) (w := w) (base := base) U
  obtain ⟨f_need_step_form, h_need_step_form⟩ := ok_need_step_form (P := P) (w := w) (base := base) U
  obtain ⟨fd, F⟩ := U.d 7
  refine ⟨fd, def_ok F sc_need_deck fun cdv A outer s H hr => ?_, FunD.bindsN F fun _ _ _ _ _ _ us hl => match us, hl with | [_], _ => rfl, F.kp⟩
  exact dss_cons (ds_if (dt_w (dw_or (dt_not (dt_val (de_call h_is_row.ok (hr.mono (by decide)) (by rfl) (He.glo_ok U.X U.G (U.f 16)) h_is_row.kp h_is_row.bd passD (da_cons (de_var 0) (da_cons (de_gint (by rfl) (He.int_ok U.X U.G (U.f 3))) (da_nil)))))) (dw_or1 (dt_cmp (opd_eq hr.units) (de_var 0) (de_tup (da_nil)) (nomark _))))) (dss_one (ds_never)) (dss_nil)) (
      dss_one (ds_for PassesOwn.never rfl (di_enumS (by rfl) (He.free_ok U.X U.G (U.f 43)) (da_cons (de_var 0) (da_nil))) (tg_tup rfl (tgs_cons (tg_name sc_need_deck.nd rfl (.inl rfl)) (tgs_cons (tg_name sc_need_deck.nd rfl (.inl rfl)) (tgs_nil)))) (dss_one (ds_expr (de_call h_need_step_form.ok (hr.mono (by decide)) (by rfl) (He.glo_ok U.X U.G (U.f 19)) h_need_step_form.kp h_need_step_form.bd passD (da_cons (de_var 1) (da_cons (de_var 2) (da_nil))))))))
/-! written -/
theorem sc_written : FnScope ["deck", "found", "flag", "conds", "cards", "number", "word", "step", "card"] ["deck"] (defScope Hd.swritten) := ⟨rfl, rfl, rfl, by decide +kernel, rfl, by decide +kernel, by decide +kernel⟩
theorem ok_written (U : Up K mg) : ∃ fd, Has P w K mg base ("written", none) 5 ["deck"] d_written fd := by
  obtain ⟨f_need_deck, h_need_deck⟩ := ok_need_deck (P := P) (w := w) (base := base) U
  obtain ⟨fd, F⟩ := U.d 8
  refine ⟨fd, def_ok F sc_written fun cdv A outer s H hr => ?_, FunD.bindsN F fun _ _ _ _ _ _ us hl => match us, hl with | [_], _ => rfl, F.kp⟩
  exact dss_cons (ds_expr (de_call h_need_deck.ok (hr.mono (by decide)) (by rfl) (He.glo_ok U.X U.G (U.f 20)) h_need_deck.kp h_need_deck.bd passD (da_cons (de_var 0) (da_nil)))) (
      dss_cons (ds_set (i := 1) sc_written.nd rfl (.inl rfl) (de_lstN (da_nil))) (
      dss_cons (ds_for PassesOwn.never rfl (di_seq (de_var 0)) (tg_tup rfl (tgs_cons (tg_name sc_written.nd rfl (.inl rfl)) (tgs_cons (tg_name sc_written.nd rfl (.inl rfl)) (tgs_cons (tg_name sc_written.nd rfl (.inl rfl)) (tgs_nil))))) (dss_cons (ds_expr (de_bm app_snd PySem.F.plainAttrs_list PySem.F.slot_list_append PySem.F.type_list_append mt_append (de_var 1) (da_cons (de_bin opd_add (de_bin opd_add (de_gstr (by rfl) (He.str_ok U.X U.G (U.f 23))) (de_str)) (de_var 2)) (da_nil)))) (
      dss_cons (ds_for PassesOwn.never rfl (di_seq (de_var 3)) (tg_tup rfl (tgs_cons (tg_name sc_written.nd rfl (.inl rfl)) (tgs_cons (tg_name sc_written.nd rfl (.inl rfl)) (tgs_cons (tg_name sc_written.nd rfl (.inl rfl)) (tgs_nil))))) (dss_one (ds_expr (de_bm app_snd PySem.F.plainAttrs_list PySem.F.slot_list_append PySem.F.type_list_append mt_append (de_var 1) (da_cons (de_bm join_snd PySem.F.plainAttrs_str PySem.F.slot_str_join PySem.F.type_str_join (mt_joinD rfl) (de_str) (da_cons (de_lst (da_cons (de_gstr (by rfl) (He.str_ok U.X U.G (U.f 24))) (da_cons (de_callTy call_str (by rfl) (He.free_ok U.X U.G (U.f 48)) bt_str (da_cons (de_var 5) (da_nil))) (da_cons (de_var 6) (da_cons (de_if (dt_cmp opd_is (de_var 7) (de_non) (nomark _)) (de_gstr (by rfl) (He.str_ok U.X U.G (U.f 22))) (de_callTy call_str (by rfl) (He.free_ok U.X U.G (U.f 48)) bt_str (da_cons (de_var 7) (da_nil)))) (da_nil)))))) (da_nil))) (da_nil)))))) (
      dss_one (ds_expr (de_bm ext_snd PySem.F.plainAttrs_list PySem.F.slot_list_extend PySem.F.type_list_extend mt_extend (de_var 1) (da_cons (de_comp (own := [("card", 8)]) (g := gName 8) (gd := gV 8) (ix := [8]) rfl sc_written.nd (di_seq (de_var 4)) (blkOk_by (by kernel_rfl)) (fun _ _ _ _ _ => tg_name sc_written.nd rfl (.inl rfl)) (fun _ _ _ _ _ => dts_nil) (fun _ _ _ _ _ => de_bm join_snd PySem.F.plainAttrs_str PySem.F.slot_str_join PySem.F.type_str_join (mt_joinD rfl) (de_str) (da_cons (de_bin opd_add (de_tup (da_cons (de_gstr (by rfl) (He.str_ok U.X U.G (U.f 25))) (da_nil))) (de_var 8)) (da_nil))) (by decide) s H) (da_nil)))))))) (
      dss_one (ds_ret (de_bm join_snd PySem.F.plainAttrs_str PySem.F.slot_str_join PySem.F.type_str_join (mt_joinD rfl) (de_str) (da_cons (de_var 1) (da_nil)))))))
/-! number_of -/
theorem sc_number_of : FnScope ["word"] ["word"] (defScope Hd.snumber_of) := ⟨rfl, rfl, rfl, by decide +kernel, rfl, by decide +kernel, by decide +kernel⟩
theorem ok_number_of (U : Up K mg) : ∃ fd, Has P w K mg base ("number_of", none) 1 ["word"] d_number_of fd := by
  obtain ⟨fd, F⟩ := U.d 9
  refine ⟨fd, def_ok F sc_number_of fun cdv A outer s H hr => ?_, FunD.bindsN F fun _ _ _ _ _ _ us hl => match us, hl with | [_], _ => rfl, F.kp⟩
  exact dss_one (ds_ret (de_if (dt_w (dw_and (dt_cmp (opd_eq hr.units) (de_callB call_len (by rfl) (He.free_ok U.X U.G (U.f 42)) bt_len (da_cons (de_var 0) (da_nil))) (de_int) (nomark _)) (dw_and1 (dt_cmp opd_in (de_var 0) (de_gstr (by rfl) (He.str_ok U.X U.G (U.f 21))) (by rfl))))) (de_callTy call_intS (by rfl) (He.free_ok U.X U.G (U.f 49)) bt_int (da_cons (de_var 0) (da_nil))) (de_non)))
/-! Reader_init -/
theorem sc_Reader_init : FnScope ["self"] ["self"] (defScope Hd.sReader_u_init_u) := ⟨rfl, rfl, rfl, by decide +kernel, rfl, by decide +kernel, by decide +kernel⟩
theorem ok_Reader_init (U : Up K mg) : ∃ fd, Has P w K mg base ("Reader", some "__init__") 1 ["self"] d_Reader_init fd := by
  obtain ⟨fd, F⟩ := U.d 10
  refine ⟨fd, def_okN F sc_Reader_init fun cdv A outer s H hr => ?_, FunD.bindsN F fun _ _ _ _ _ _ us hl => match us, hl with | [_], _ => rfl, F.kp⟩
  exact dss_one (ds_fld "Reader" (de_var 0) (de_lstN (da_nil)) (He.cls_ok (U.f 29)) (He.noat_ok (U.f 32)))
/-! Reader_reads -/
theorem sc_Reader_reads : FnScope ["self", "words", "last", "number", "step"] ["self", "words"] (defScope Hd.sReader_reads) := ⟨rfl, rfl, rfl, by decide +kernel, rfl, by decide +kernel, by decide +kernel⟩
theorem ok_Reader_reads (U : Up K mg) : ∃ fd, Has P w K mg base ("Reader", some "reads") 2 ["self", "words"] d_Reader_reads fd := by
  obtain ⟨f_number_of, h_number_of⟩ := ok_number_of (P := P) (w := w) (base := base) U
  obtain ⟨fd, F⟩ := U.d 11
  refine ⟨fd, def_okN F sc_Reader_reads fun cdv A outer s H hr => ?_, FunD.bindsN F fun _ _ _ _ _ _ us hl => match us, hl with | [_, _], _ => rfl, F.kp⟩
  exact dss_cons (ds_if (dt_cmp (opd_eq hr.units) (de_ix ixd (de_var 1) (de_int)) (de_gstr (by rfl) (He.str_ok U.X U.G (U.f 23))) (nomark _)) (dss_cons (ds_expr (de_bm app_snd PySem.F.plainAttrs_list PySem.F.slot_list_append PySem.F.type_list_append mt_append (de_fld "Reader" (de_var 0) (He.cls_ok (U.f 29)) (He.noat_ok (U.f 32))) (da_cons (de_lstN (da_cons (de_ix ixd (de_var 1) (de_neg (de_int))) (da_cons (de_tup (da_nil)) (da_cons (de_tup (da_nil)) (da_nil))))) (da_nil)))) (
      dss_one (ds_ret (de_cmp (opd_eq hr.units) (de_callB call_len (by rfl) (He.free_ok U.X U.G (U.f 42)) bt_len (da_cons (de_var 1) (da_nil))) (de_int) (nomark _))))) (dss_nil)) (
      dss_cons (ds_if (dt_cmp (opd_eqR hr.units) (de_fld "Reader" (de_var 0) (He.cls_ok (U.f 29)) (He.noat_ok (U.f 32))) (de_lst (da_nil)) (nomark _)) (dss_one (ds_ret (de_bl))) (dss_nil)) (
      dss_cons (ds_set (i := 2) sc_Reader_reads.nd rfl (.inl rfl) (de_ix ixd (de_fld "Reader" (de_var 0) (He.cls_ok (U.f 29)) (He.noat_ok (U.f 32))) (de_neg (de_int)))) (
      dss_cons (ds_if (dt_w (dw_and (dt_cmp (opd_eq hr.units) (de_ix ixd (de_var 1) (de_int)) (de_gstr (by rfl) (He.str_ok U.X U.G (U.f 24))) (nomark _)) (dw_and (dt_cmp (opd_eq hr.units) (de_callB call_len (by rfl) (He.free_ok U.X U.G (U.f 42)) bt_len (da_cons (de_var 1) (da_nil))) (de_int) (nomark _)) (dw_and1 (dt_cmp (opd_eq hr.units) (de_ix ixd (de_var 2) (de_int)) (de_tup (da_nil)) (nomark _)))))) (dss_cons (ds_par (i := 3) (j := 4) rfl sc_Reader_reads.nd rfl rfl (by decide) (ps_par (by rfl) sc_Reader_reads.nd rfl rfl (by decide) rfl rfl (da_cons (de_call h_number_of.ok (hr.mono (by decide)) (by rfl) (He.glo_ok U.X U.G (U.f 27)) h_number_of.kp h_number_of.bd passD (da_cons (de_ix ixd (de_var 1) (de_int)) (da_nil))) (da_cons (de_call h_number_of.ok (hr.mono (by decide)) (by rfl) (He.glo_ok U.X U.G (U.f 27)) h_number_of.kp h_number_of.bd passD (da_cons (de_ix ixd (de_var 1) (de_int)) (da_nil))) (da_nil))) (by rfl))) (
      dss_cons (ds_setL (de_bin opd_add (de_ix ixd (de_var 2) (de_int)) (de_tup (da_cons (de_tup (da_cons (de_var 3) (da_cons (de_ix ixd (de_var 1) (de_int)) (da_cons (de_var 4) (da_nil))))) (da_nil)))) (de_var 2) (de_int)) (
      dss_one (ds_ret (de_and (de_cmp opd_isnot (de_var 3) (de_non) (nomark _)) (de_one (de_or (de_cmp opd_isnot (de_var 4) (de_non) (nomark _)) (de_one (de_cmp (opd_eq hr.units) (de_ix ixd (de_var 1) (de_int)) (de_gstr (by rfl) (He.str_ok U.X U.G (U.f 22))) (nomark _)))))))))) (dss_nil)) (
      dss_cons (ds_if (dt_w (dw_and (dt_cmp (opd_eq hr.units) (de_ix ixd (de_var 1) (de_int)) (de_gstr (by rfl) (He.str_ok U.X U.G (U.f 25))) (nomark _)) (dw_and1 (dt_cmp (opd_eq hr.units) (de_callB call_len (by rfl) (He.free_ok U.X U.G (U.f 42)) bt_len (da_cons (de_var 1) (da_nil))) (de_int) (nomark _))))) (dss_cons (ds_setL (de_bin opd_add (de_ix ixd (de_var 2) (de_int)) (de_tup (da_cons (de_callTy call_tuple (by rfl) (He.free_ok U.X U.G (U.f 47)) bt_tuple (da_cons (de_slice (de_var 1) (dp_some (de_int)) (dp_none)) (da_nil))) (da_nil)))) (de_var 2) (de_int)) (
      dss_one (ds_ret (de_bl)))) (dss_nil)) (
      dss_one (ds_ret (de_bl)))))))
/-! read -/
theorem sc_read : FnScope ["text", "reader", "number", "line", "deck", "step"] ["text"] (defScope Hd.sread) := ⟨rfl, rfl, rfl, by decide +kernel, rfl, by decide +kernel, by decide +kernel⟩
theorem ok_read (U : Up K mg) : ∃ fd, Has P w K mg base ("read", none) 5 ["text"] d_read fd := by
  obtain ⟨f_Reader_init, h_Reader_init⟩ := ok_Reader_init (P := P) (w := w) (base := base) U
  obtain ⟨f_Reader_reads, h_Reader_reads⟩ := ok_Reader_reads (P := P) (w := w) (base := base) U
  obtain ⟨f_need_deck, h_need_deck⟩ := ok_need_deck (P := P) (w := w) (base := base) U
  obtain ⟨fd, F⟩ := U.d 12
  refine ⟨fd, def_ok F sc_read fun cdv A outer s H hr => ?_, FunD.bindsN F fun _ _ _ _ _ _ us hl => match us, hl with | [_], _ => rfl, F.kp⟩
  exact dss_cons (ds_set (i := 1) sc_read.nd rfl (.inl rfl) (de_make0 (pe_make0 (He.mkr_ok (U.f 30)) h_Reader_init.ok (hr.mono (by decide)) (by rfl) (He.glo_ok U.X U.G (U.f 28)) h_Reader_init.bd .nil passD))) (
      dss_cons (ds_for PassesOwn.never rfl (di_enumS (by rfl) (He.free_ok U.X U.G (U.f 43)) (da_cons (de_bm split_snd PySem.F.plainAttrs_str PySem.F.slot_str_split PySem.F.type_str_split mt_split (de_var 0) (da_cons (de_str) (da_nil))) (da_nil))) (tg_tup rfl (tgs_cons (tg_name sc_read.nd rfl (.inl rfl)) (tgs_cons (tg_name sc_read.nd rfl (.inl rfl)) (tgs_nil)))) (dss_one (ds_if (dt_not (dt_val (de_meth (pe_meth (de_var 1) (He.cls_ok (U.f 29)) (He.meth_ok (U.f 31)) h_Reader_reads.ok (hr.mono (by decide)) h_Reader_reads.bd .nil passD (da_cons (de_bm split_snd PySem.F.plainAttrs_str PySem.F.slot_str_split PySem.F.type_str_split mt_split (de_var 3) (da_cons (de_str) (da_nil))) (da_nil)))))) (dss_one (ds_never)) (dss_nil)))) (
      dss_cons (ds_set (i := 4) sc_read.nd rfl (.inl rfl) (de_callTy call_tuple (by rfl) (He.free_ok U.X U.G (U.f 47)) bt_tuple (da_cons (de_comp (own := [("step", 5)]) (g := gName 5) (gd := gV 5) (ix := [5]) rfl sc_read.nd (di_seq (de_fld "Reader" (de_var 1) (He.cls_ok (U.f 29)) (He.noat_ok (U.f 32)))) (blkOk_by (by kernel_rfl)) (fun _ _ _ _ _ => tg_name sc_read.nd rfl (.inl rfl)) (fun _ _ _ _ _ => dts_nil) (fun _ _ _ _ _ => de_callTy call_tuple (by rfl) (He.free_ok U.X U.G (U.f 47)) bt_tuple (da_cons (de_var 5) (da_nil))) (by decide) s H) (da_nil)))) (
      dss_cons (ds_expr (de_call h_need_deck.ok (hr.mono (by decide)) (by rfl) (He.glo_ok U.X U.G (U.f 20)) h_need_deck.kp h_need_deck.bd passD (da_cons (de_var 4) (da_nil)))) (
      dss_one (ds_ret (de_var 4))))))
/-! law_mix -/
theorem sc_law_mix : FnScope ["_law_script", "_law_seed", "_law_mixed", "_law_cell"] ["_law_script", "_law_seed"] (defScope Hd.slaw_mix) := ⟨rfl, rfl, rfl, by decide +kernel, rfl, by decide +kernel, by decide +kernel⟩
theorem ok_law_mix (U : Up K mg) : ∃ fd, Has P w K mg base ("_law_mix", none) 1 ["_law_script", "_law_seed"] d_law_mix fd := by
  obtain ⟨fd, F⟩ := U.d 13
  refine ⟨fd, def_okN F sc_law_mix fun cdv A outer s H hr => ?_, FunD.bindsN F fun _ _ _ _ _ _ us hl => match us, hl with | [_, _], _ => rfl, F.kp⟩
  exact dss_cons (ds_set (i := 2) sc_law_mix.nd rfl (.inl rfl) (de_var 1)) (
      dss_cons (ds_for PassesOwn.never rfl (di_seq (de_var 0)) (tg_name sc_law_mix.nd rfl (.inl rfl)) (dss_one (ds_set (i := 2) sc_law_mix.nd rfl (.inl rfl) (de_bin opd_mod (de_bin opd_add (de_bin opd_add (de_bin opd_mul (de_var 2) (de_int)) (de_bin opd_mod (de_var 3) (de_int))) (de_int)) (de_int))))) (
      dss_one (ds_ret (de_lstN (da_cons (de_var 2) (da_cons (de_callTy call_listN (by rfl) (He.free_ok U.X U.G (U.f 46)) bt_list (da_cons (de_var 0) (da_nil))) (da_cons (de_int) (da_nil))))))))
/-! law_next -/
theorem sc_law_next : FnScope ["_law_h", "_law_many", "_law_at", "_law_cell"] ["_law_h", "_law_many"] (defScope Hd.slaw_next) := ⟨rfl, rfl, rfl, by decide +kernel, rfl, by decide +kernel, by decide +kernel⟩
theorem ok_law_next (U : Up K mg) : ∃ fd, Has P w K mg base ("_law_next", none) 1 ["_law_h", "_law_many"] d_law_next fd := by
  obtain ⟨fd, F⟩ := U.d 14
  refine ⟨fd, def_ok F sc_law_next fun cdv A outer s H hr => ?_, FunD.bindsN F fun _ _ _ _ _ _ us hl => match us, hl with | [_, _], _ => rfl, F.kp⟩
  exact dss_cons (ds_set (i := 2) sc_law_next.nd rfl (.inl rfl) (de_bin opd_mod (de_ix ixd (de_var 0) (de_int)) (de_callB (call_max rfl) (by rfl) (He.free_ok U.X U.G (U.f 45)) bt_max (da_cons (de_int) (da_cons (de_callB call_len (by rfl) (He.free_ok U.X U.G (U.f 42)) bt_len (da_cons (de_ix ixd (de_var 0) (de_int)) (da_nil))) (da_nil)))))) (
      dss_cons (ds_set (i := 3) sc_law_next.nd rfl (.inl rfl) (de_if (dt_cmp (opd_ne hr.units) (de_ix ixd (de_var 0) (de_int)) (de_lst (da_nil)) (nomark _)) (de_ix ixd (de_ix ixd (de_var 0) (de_int)) (de_var 2)) (de_int))) (
      dss_cons (ds_if (dt_cmp opd_ge (de_var 3) (de_bin opd_pow (de_int) (de_int)) (nomark _)) (dss_cons (ds_setL (de_bin opd_div (de_var 3) (de_var 1)) (de_ix ixd (de_var 0) (de_int)) (de_var 2)) (
      dss_one (ds_ret (de_bin opd_mod (de_var 3) (de_var 1))))) (dss_nil)) (
      dss_cons (ds_setL (de_bin opd_mod (de_bin opd_add (de_bin opd_add (de_bin opd_mul (de_ix ixd (de_var 0) (de_int)) (de_int)) (de_bin opd_mul (de_var 3) (de_int))) (de_int)) (de_int)) (de_var 0) (de_int)) (
      dss_cons (ds_setL (de_bin opd_add (de_ix ixd (de_var 0) (de_int)) (de_int)) (de_var 0) (de_int)) (
      dss_one (ds_ret (de_bin opd_mod (de_bin opd_div (de_ix ixd (de_var 0) (de_int)) (de_int)) (de_var 1))))))))
/-! law_card -/
theorem sc_law_card : FnScope ["_law_h", "_law_taken", "_law_names", "_law_begin", "_law_good", "_law_name"] ["_law_h", "_law_taken"] (defScope Hd.slaw_card) := ⟨rfl, rfl, rfl, by decide +kernel, rfl, by decide +kernel, by decide +kernel⟩
theorem ok_law_card (U : Up K mg) : ∃ fd, Has P w K mg base ("_law_card", none) 2 ["_law_h", "_law_taken"] d_law_card fd := by
  obtain ⟨f_law_next, h_law_next⟩ := ok_law_next (P := P) (w := w) (base := base) U
  obtain ⟨fd, F⟩ := U.d 15
  refine ⟨fd, def_ok F sc_law_card fun cdv A outer s H hr => ?_, FunD.bindsN F fun _ _ _ _ _ _ us hl => match us, hl with | [_, _], _ => rfl, F.kp⟩
  exact dss_cons (ds_setComp (i := 2) (own := [("_law_name", 5)]) (g := gName 5) (gd := gV 5) (ix := [5]) rfl sc_law_card.nd rfl rfl (sw_true rfl rfl rfl (by decide +kernel)) (di_seq (de_lst (da_cons (de_str) (da_cons (de_str) (da_cons (de_str) (da_cons (de_str) (da_cons (de_str) (da_cons (de_str) (da_cons (de_str) (da_cons (de_str) (da_nil))))))))))) (blkOk_by (by kernel_rfl)) (fun _ _ _ _ _ => tg_name sc_law_card.nd rfl (.inl rfl)) (fun _ _ _ _ _ => dts_one (dt_cmp opd_notin (de_var 5) (de_var 1) (by rfl))) (fun _ _ _ _ _ => de_var 5) (by decide) s H) (
      dss_cons (ds_set (i := 2) sc_law_card.nd rfl (.inl rfl) (de_if (dt_cmp opd_gt (de_call h_law_next.ok (hr.mono (by decide)) (by rfl) (He.glo_ok U.X U.G (U.f 35)) h_law_next.kp h_law_next.bd passD (da_cons (de_var 0) (da_cons (de_int) (da_nil)))) (de_int) (nomark _)) (de_slice (de_var 2) (dp_none) (dp_some (de_int))) (de_var 2))) (
      dss_cons (ds_set (i := 3) sc_law_card.nd rfl (.inl rfl) (de_ix ixd (de_lst (da_cons (de_str) (da_cons (de_str) (da_cons (de_str) (da_cons (de_str) (da_nil)))))) (de_call h_law_next.ok (hr.mono (by decide)) (by rfl) (He.glo_ok U.X U.G (U.f 35)) h_law_next.kp h_law_next.bd passD (da_cons (de_var 0) (da_cons (de_int) (da_nil)))))) (
      dss_cons (ds_set (i := 4) sc_law_card.nd rfl (.inl rfl) (de_ix ixd (de_lst (da_cons (de_str) (da_cons (de_str) (da_cons (de_str) (da_cons (de_str) (da_nil)))))) (de_call h_law_next.ok (hr.mono (by decide)) (by rfl) (He.glo_ok U.X U.G (U.f 35)) h_law_next.kp h_law_next.bd passD (da_cons (de_var 0) (da_cons (de_int) (da_nil)))))) (
      dss_one (ds_ret (de_tup (da_cons (de_ix ixd (de_var 2) (de_call h_law_next.ok (hr.mono (by decide)) (by rfl) (He.glo_ok U.X U.G (U.f 35)) h_law_next.kp h_law_next.bd passD (da_cons (de_var 0) (da_cons (de_callB call_len (by rfl) (He.free_ok U.X U.G (U.f 42)) bt_len (da_cons (de_var 2) (da_nil))) (da_nil))))) (da_cons (de_var 3) (da_cons (de_var 4) (da_cons (de_ix ixd (de_lst (da_cons (de_str) (da_cons (de_str) (da_nil)))) (de_call h_law_next.ok (hr.mono (by decide)) (by rfl) (He.glo_ok U.X U.G (U.f 35)) h_law_next.kp h_law_next.bd passD (da_cons (de_var 0) (da_cons (de_int) (da_nil))))) (da_nil)))))))))))
/-! law_step -/
theorem sc_law_step : FnScope ["_law_h", "_law_number", "_law_conds", "_law_k", "_law_step_here", "_law_cards", "_law_card_here"] ["_law_h", "_law_number"] (defScope Hd.slaw_step) := ⟨rfl, rfl, rfl, by decide +kernel, rfl, by decide +kernel, by decide +kernel⟩
theorem ok_law_step (U : Up K mg) : ∃ fd, Has P w K mg base ("_law_step", none) 3 ["_law_h", "_law_number"] d_law_step fd := by
  obtain ⟨f_law_next, h_law_next⟩ := ok_law_next (P := P) (w := w) (base := base) U
  obtain ⟨f_law_card, h_law_card⟩ := ok_law_card (P := P) (w := w) (base := base) U
  obtain ⟨fd, F⟩ := U.d 16
  refine ⟨fd, def_ok F sc_law_step fun cdv A outer s H hr => ?_, FunD.bindsN F fun _ _ _ _ _ _ us hl => match us, hl with | [_, _], _ => rfl, F.kp⟩
  exact dss_cons (ds_set (i := 2) sc_law_step.nd rfl (.inl rfl) (de_lstN (da_nil))) (
      dss_cons (ds_for PassesOwn.never rfl (di_range (by rfl) (He.free_ok U.X U.G (U.f 44)) (da_cons (de_ix ixd (de_lst (da_cons (de_int) (da_cons (de_int) (da_cons (de_call h_law_next.ok (hr.mono (by decide)) (by rfl) (He.glo_ok U.X U.G (U.f 35)) h_law_next.kp h_law_next.bd passD (da_cons (de_var 0) (da_cons (de_int) (da_nil)))) (da_nil))))) (de_call h_law_next.ok (hr.mono (by decide)) (by rfl) (He.glo_ok U.X U.G (U.f 35)) h_law_next.kp h_law_next.bd passD (da_cons (de_var 0) (da_cons (de_int) (da_nil))))) (da_nil))) (tg_name sc_law_step.nd rfl (.inl rfl)) (dss_cons (ds_set (i := 4) sc_law_step.nd rfl (.inl rfl) (de_if (dt_w (dw_or (dt_cmp (opd_eq hr.units) (de_var 1) (de_int) (nomark _)) (dw_or1 (dt_cmp (opd_eq hr.units) (de_call h_law_next.ok (hr.mono (by decide)) (by rfl) (He.glo_ok U.X U.G (U.f 35)) h_law_next.kp h_law_next.bd passD (da_cons (de_var 0) (da_cons (de_int) (da_nil)))) (de_int) (nomark _))))) (de_non) (de_call h_law_next.ok (hr.mono (by decide)) (by rfl) (He.glo_ok U.X U.G (U.f 35)) h_law_next.kp h_law_next.bd passD (da_cons (de_var 0) (da_cons (de_var 1) (da_nil)))))) (
      dss_one (ds_expr (de_bm app_snd PySem.F.plainAttrs_list PySem.F.slot_list_append PySem.F.type_list_append mt_append (de_var 2) (da_cons (de_tup (da_cons (de_call h_law_next.ok (hr.mono (by decide)) (by rfl) (He.glo_ok U.X U.G (U.f 35)) h_law_next.kp h_law_next.bd passD (da_cons (de_var 0) (da_cons (de_int) (da_nil)))) (da_cons (de_ix ixd (de_lst (da_cons (de_str) (da_cons (de_str) (da_cons (de_str) (da_cons (de_str) (da_cons (de_str) (da_cons (de_str) (da_nil)))))))) (de_call h_law_next.ok (hr.mono (by decide)) (by rfl) (He.glo_ok U.X U.G (U.f 35)) h_law_next.kp h_law_next.bd passD (da_cons (de_var 0) (da_cons (de_int) (da_nil))))) (da_cons (de_var 4) (da_nil))))) (da_nil))))))) (
      dss_cons (ds_set (i := 5) sc_law_step.nd rfl (.inl rfl) (de_lstN (da_nil))) (
      dss_cons (ds_for PassesOwn.never rfl (di_range (by rfl) (He.free_ok U.X U.G (U.f 44)) (da_cons (de_call h_law_next.ok (hr.mono (by decide)) (by rfl) (He.glo_ok U.X U.G (U.f 35)) h_law_next.kp h_law_next.bd passD (da_cons (de_var 0) (da_cons (de_ix ixd (de_lst (da_cons (de_int) (da_cons (de_int) (da_nil)))) (de_call h_law_next.ok (hr.mono (by decide)) (by rfl) (He.glo_ok U.X U.G (U.f 35)) h_law_next.kp h_law_next.bd passD (da_cons (de_var 0) (da_cons (de_int) (da_nil))))) (da_nil)))) (da_nil))) (tg_name sc_law_step.nd rfl (.inl rfl)) (dss_one (ds_expr (de_bm app_snd PySem.F.plainAttrs_list PySem.F.slot_list_append PySem.F.type_list_append mt_append (de_var 5) (da_cons (de_call h_law_card.ok (hr.mono (by decide)) (by rfl) (He.glo_ok U.X U.G (U.f 36)) h_law_card.kp h_law_card.bd passD (da_cons (de_var 0) (da_cons (de_comp (own := [("_law_card_here", 6)]) (g := gName 6) (gd := gV 6) (ix := [6]) rfl sc_law_step.nd (di_seq (de_var 5)) (blkOk_by (by kernel_rfl)) (fun _ _ _ _ _ => tg_name sc_law_step.nd rfl (.inl rfl)) (fun _ _ _ _ _ => dts_nil) (fun _ _ _ _ _ => de_ix ixd (de_var 6) (de_int)) (by decide) s H) (da_nil)))) (da_nil)))))) (
      dss_one (ds_ret (de_tup (da_cons (de_ix ixd (de_lst (da_cons (de_str) (da_cons (de_str) (da_cons (de_str) (da_cons (de_str) (da_nil)))))) (de_call h_law_next.ok (hr.mono (by decide)) (by rfl) (He.glo_ok U.X U.G (U.f 35)) h_law_next.kp h_law_next.bd passD (da_cons (de_var 0) (da_cons (de_int) (da_nil))))) (da_cons (de_callTy call_tuple (by rfl) (He.free_ok U.X U.G (U.f 47)) bt_tuple (da_cons (de_var 2) (da_nil))) (da_cons (de_callTy call_tuple (by rfl) (He.free_ok U.X U.G (U.f 47)) bt_tuple (da_cons (de_var 5) (da_nil))) (da_nil))))))))))
/-! law_deck -/
theorem sc_law_deck : FnScope ["_law_h", "_law_number"] ["_law_h"] (defScope Hd.slaw_deck) := ⟨rfl, rfl, rfl, by decide +kernel, rfl, by decide +kernel, by decide +kernel⟩
theorem ok_law_deck (U : Up K mg) : ∃ fd, Has P w K mg base ("_law_deck", none) 4 ["_law_h"] d_law_deck fd := by
  obtain ⟨f_law_next, h_law_next⟩ := ok_law_next (P := P) (w := w) (base := base) U
  obtain ⟨f_law_step, h_law_step⟩ := ok_law_step (P := P) (w := w) (base := base) U
  obtain ⟨fd, F⟩ := U.d 17
  refine ⟨fd, def_ok F sc_law_deck fun cdv A outer s H hr => ?_, FunD.bindsN F fun _ _ _ _ _ _ us hl => match us, hl with | [_], _ => rfl, F.kp⟩
  exact dss_one (ds_ret (de_callTy call_tuple (by rfl) (He.free_ok U.X U.G (U.f 47)) bt_tuple (da_cons (de_comp (own := [("_law_number", 1)]) (g := gName 1) (gd := gV 1) (ix := [1]) rfl sc_law_deck.nd (di_range (by rfl) (He.free_ok U.X U.G (U.f 44)) (da_cons (de_bin opd_add (de_int) (de_call h_law_next.ok (hr.mono (by decide)) (by rfl) (He.glo_ok U.X U.G (U.f 35)) h_law_next.kp h_law_next.bd passD (da_cons (de_var 0) (da_cons (de_int) (da_nil))))) (da_nil))) (blkOk_by (by kernel_rfl)) (fun _ _ _ _ _ => tg_name sc_law_deck.nd rfl (.inl rfl)) (fun _ _ _ _ _ => dts_nil) (fun _ _ _ _ _ => de_call h_law_step.ok (hr.mono (by decide)) (by rfl) (He.glo_ok U.X U.G (U.f 37)) h_law_step.kp h_law_step.bd passD (da_cons (de_var 0) (da_cons (de_var 1) (da_nil)))) (by decide) s H) (da_nil))))
/-! law_alike -/
theorem sc_law_alike : FnScope ["_law_found", "_law_due", "_law_k"] ["_law_found", "_law_due"] (defScope Hd.slaw_alike) := ⟨rfl, rfl, rfl, by decide +kernel, rfl, by decide +kernel, by decide +kernel⟩
theorem ok_law_alike (U : Up K mg) : ∃ fd, ∀ n, Has P w K mg base ("_law_alike", none) (1 + n) ["_law_found", "_law_due"] (d_law_alike n) fd := by
  obtain ⟨fd, F⟩ := U.d 18
  have B : Binds K fd ["_law_found", "_law_due"] [] := FunD.bindsN F fun _ _ _ _ _ _ us hl => match us, hl with | [_, _], _ => rfl
  refine ⟨fd, fun n => ?_⟩
  induction n with
  | zero => exact ⟨has_zero, B, F.kp⟩
  | succ n ih =>
    refine ⟨def_ok (k := 1 + n) F sc_law_alike fun cdv A outer s H hr => ?_, B, F.kp⟩
    exact dss_cons (ds_if (dt_val (de_isiT (by rfl) (He.free_ok U.X U.G (U.f 41)) (de_var 1) (pa_tyc (pe_ty (by rfl) (He.free_ok U.X U.G (U.f 47)) bt_tuple) (pa_tyc (pe_ty (by rfl) (He.free_ok U.X U.G (U.f 46)) bt_list) (pa_ty0))))) (dss_cons (ds_if (dt_w (dw_or (dt_not (dt_val (de_isiT (by rfl) (He.free_ok U.X U.G (U.f 41)) (de_var 0) (pa_tyc (pe_ty (by rfl) (He.free_ok U.X U.G (U.f 47)) bt_tuple) (pa_tyc (pe_ty (by rfl) (He.free_ok U.X U.G (U.f 46)) bt_list) (pa_ty0)))))) (dw_or1 (dt_cmp (opd_ne hr.units) (de_callB call_isinst (by rfl) (He.free_ok U.X U.G (U.f 41)) bt_isinstance (da_cons (de_var 0) (da_cons (de_ty (by rfl) (He.free_ok U.X U.G (U.f 46)) bt_list) da_nil))) (de_callB call_isinst (by rfl) (He.free_ok U.X U.G (U.f 41)) bt_isinstance (da_cons (de_var 1) (da_cons (de_ty (by rfl) (He.free_ok U.X U.G (U.f 46)) bt_list) da_nil))) (nomark _))))) (dss_one (ds_ret (de_bl))) (dss_nil)) (
      dss_cons (ds_if (dt_cmp (opd_ne hr.units) (de_callB call_len (by rfl) (He.free_ok U.X U.G (U.f 42)) bt_len (da_cons (de_var 0) (da_nil))) (de_callB call_len (by rfl) (He.free_ok U.X U.G (U.f 42)) bt_len (da_cons (de_var 1) (da_nil))) (nomark _)) (dss_one (ds_ret (de_bl))) (dss_nil)) (
      dss_one (ds_ret (de_cmp (opd_eq hr.units) (de_comp (own := [("_law_k", 2)]) (g := gName 2) (gd := gV 2) (ix := [2]) rfl sc_law_alike.nd (di_range (by rfl) (He.free_ok U.X U.G (U.f 44)) (da_cons (de_callB call_len (by rfl) (He.free_ok U.X U.G (U.f 42)) bt_len (da_cons (de_var 1) (da_nil))) (da_nil))) (blkOk_by (by kernel_rfl)) (fun _ _ _ _ _ => tg_name sc_law_alike.nd rfl (.inl rfl)) (fun _ _ _ _ _ => dts_one (dt_not (dt_val (de_call ih.ok (hr.mono (by omega)) (by rfl) (He.glo_ok U.X U.G (U.f 39)) ih.kp ih.bd passD (da_cons (de_ix ixd (de_var 0) (de_var 2)) (da_cons (de_ix ixd (de_var 1) (de_var 2)) (da_nil))))))) (fun _ _ _ _ _ => de_var 2) (by decide) s H) (de_lst (da_nil)) (nomark _)))))) (dss_nil)) (
      dss_cons (ds_if (dt_cmp opd_is (de_var 1) (de_non) (nomark _)) (dss_one (ds_ret (de_cmp opd_is (de_var 0) (de_non) (nomark _)))) (dss_nil)) (
      dss_cons (ds_if (dt_val (de_callB call_isinst (by rfl) (He.free_ok U.X U.G (U.f 41)) bt_isinstance (da_cons (de_var 1) (da_cons (de_ty (by rfl) (He.free_ok U.X U.G (U.f 48)) bt_str) da_nil)))) (dss_one (ds_ret (de_and (de_callB call_isinst (by rfl) (He.free_ok U.X U.G (U.f 41)) bt_isinstance (da_cons (de_var 0) (da_cons (de_ty (by rfl) (He.free_ok U.X U.G (U.f 48)) bt_str) da_nil))) (de_one (de_cmp (opd_eq hr.units) (de_var 0) (de_var 1) (nomark _)))))) (dss_nil)) (
      dss_cons (ds_if (dt_w (dw_or (dt_val (de_callB call_isinst (by rfl) (He.free_ok U.X U.G (U.f 41)) bt_isinstance (da_cons (de_var 1) (da_cons (de_ty (by rfl) (He.free_ok U.X U.G (U.f 50)) bt_bool) da_nil)))) (dw_or1 (dt_val (de_callB call_isinst (by rfl) (He.free_ok U.X U.G (U.f 41)) bt_isinstance (da_cons (de_var 0) (da_cons (de_ty (by rfl) (He.free_ok U.X U.G (U.f 50)) bt_bool) da_nil))))))) (dss_one (ds_ret (de_and (de_callB call_isinst (by rfl) (He.free_ok U.X U.G (U.f 41)) bt_isinstance (da_cons (de_var 1) (da_cons (de_ty (by rfl) (He.free_ok U.X U.G (U.f 50)) bt_bool) da_nil))) (de_and (de_callB call_isinst (by rfl) (He.free_ok U.X U.G (U.f 41)) bt_isinstance (da_cons (de_var 0) (da_cons (de_ty (by rfl) (He.free_ok U.X U.G (U.f 50)) bt_bool) da_nil))) (de_one (de_cmp (opd_eq hr.units) (de_var 0) (de_var 1) (nomark _))))))) (dss_nil)) (
      dss_one (ds_ret (de_and (de_callB call_isinst (by rfl) (He.free_ok U.X U.G (U.f 41)) bt_isinstance (da_cons (de_var 0) (da_cons (de_ty (by rfl) (He.free_ok U.X U.G (U.f 49)) bt_int) da_nil))) (de_one (de_cmp (opd_eq hr.units) (de_var 0) (de_var 1) (nomark _)))))))))
/-! law -/
theorem sc_law : FnScope ["_law_script", "_law_h", "_law_turn", "_law_deck_here", "_law_rows", "_law_flag", "_law_conds", "_law_cards", "_law_number", "_law_word", "_law_step_here", "_law_card_here", "_law_text"] ["_law_script"] (defScope Hd.slaw) := ⟨rfl, rfl, rfl, by decide +kernel, rfl, by decide +kernel, by decide +kernel⟩
theorem ok_law (U : Up K mg) : ∃ fd, (∀ (s : Shared) (v : Value), BindsTo s fd ⟨[v], []⟩ [("_law_script", v)]) ∧ ∀ base : Heap, Has P w K mg base ("law", none) 10 ["_law_script"] d_law fd := by
  obtain ⟨fd, F⟩ := U.d 19
  have b := FunD.bindsA (ps := ["_law_script"]) F fun _ _ _ _ _ _ us hl => match us, hl with | [_], _ => rfl
  refine ⟨fd, fun s v => b s [v] rfl, fun base => ?_⟩
  obtain ⟨f_law_mix, h_law_mix⟩ := ok_law_mix (P := P) (w := w) (base := base) U
  obtain ⟨f_law_deck, h_law_deck⟩ := ok_law_deck (P := P) (w := w) (base := base) U
  obtain ⟨f_law_alike, h_law_alike⟩ := ok_law_alike (P := P) (w := w) (base := base) U
  obtain ⟨f_written, h_written⟩ := ok_written (P := P) (w := w) (base := base) U
  obtain ⟨f_read, h_read⟩ := ok_read (P := P) (w := w) (base := base) U
  refine ⟨def_ok F sc_law fun cdv A outer s H hr => ?_, FunD.bindsN F fun _ _ _ _ _ _ us hl => match us, hl with | [_], _ => rfl, F.kp⟩
  exact dss_cons (ds_set (i := 1) sc_law.nd rfl (.inl rfl) (de_call h_law_mix.ok (hr.mono (by decide)) (by rfl) (He.glo_ok U.X U.G (U.f 34)) h_law_mix.kp h_law_mix.bd passD (da_cons (de_var 0) (da_cons (de_int) (da_nil))))) (
      dss_cons (ds_for PassesOwn.never rfl (di_range (by rfl) (He.free_ok U.X U.G (U.f 44)) (da_cons (de_int) (da_nil))) (tg_name sc_law.nd rfl (.inl rfl)) (dss_cons (ds_par (i := 3) (j := 4) rfl sc_law.nd rfl rfl (by decide) (ps_par (by rfl) sc_law.nd rfl rfl (by decide) rfl rfl (da_cons (de_call h_law_deck.ok (hr.mono (by decide)) (by rfl) (He.glo_ok U.X U.G (U.f 38)) h_law_deck.kp h_law_deck.bd passD (da_cons (de_var 1) (da_nil))) (da_cons (de_lstN (da_nil)) (da_nil))) (by rfl))) (
      dss_cons (ds_for PassesOwn.never rfl (di_seq (de_var 3)) (tg_tup rfl (tgs_cons (tg_name sc_law.nd rfl (.inl rfl)) (tgs_cons (tg_name sc_law.nd rfl (.inl rfl)) (tgs_cons (tg_name sc_law.nd rfl (.inl rfl)) (tgs_nil))))) (dss_cons (ds_expr (de_bm app_snd PySem.F.plainAttrs_list PySem.F.slot_list_append PySem.F.type_list_append mt_append (de_var 4) (da_cons (de_bin opd_add (de_str) (de_var 5)) (da_nil)))) (
      dss_cons (ds_for PassesOwn.never rfl (di_seq (de_var 6)) (tg_tup rfl (tgs_cons (tg_name sc_law.nd rfl (.inl rfl)) (tgs_cons (tg_name sc_law.nd rfl (.inl rfl)) (tgs_cons (tg_name sc_law.nd rfl (.inl rfl)) (tgs_nil))))) (dss_one (ds_expr (de_bm app_snd PySem.F.plainAttrs_list PySem.F.slot_list_append PySem.F.type_list_append mt_append (de_var 4) (da_cons (de_bin opd_add (de_bin opd_add (de_bin opd_add (de_bin opd_add (de_bin opd_add (de_str) (de_callTy call_str (by rfl) (He.free_ok U.X U.G (U.f 48)) bt_str (da_cons (de_var 8) (da_nil)))) (de_str)) (de_var 9)) (de_str)) (de_if (dt_cmp opd_is (de_var 10) (de_non) (nomark _)) (de_str) (de_callTy call_str (by rfl) (He.free_ok U.X U.G (U.f 48)) bt_str (da_cons (de_var 10) (da_nil))))) (da_nil)))))) (
      dss_one (ds_for PassesOwn.never rfl (di_seq (de_var 7)) (tg_name sc_law.nd rfl (.inl rfl)) (dss_one (ds_expr (de_bm app_snd PySem.F.plainAttrs_list PySem.F.slot_list_append PySem.F.type_list_append mt_append (de_var 4) (da_cons (de_bin opd_add (de_str) (de_bm join_snd PySem.F.plainAttrs_str PySem.F.slot_str_join PySem.F.type_str_join (mt_joinD rfl) (de_str) (da_cons (de_var 11) (da_nil)))) (da_nil)))))))))) (
      dss_cons (ds_set (i := 12) sc_law.nd rfl (.inl rfl) (de_bm join_snd PySem.F.plainAttrs_str PySem.F.slot_str_join PySem.F.type_str_join (mt_joinD rfl) (de_str) (da_cons (de_var 4) (da_nil)))) (
      dss_one (ds_if (dt_w (dw_or (dt_not (dt_val (de_call (h_law_alike 8).ok (hr.mono (by decide)) (by rfl) (He.glo_ok U.X U.G (U.f 39)) (h_law_alike 8).kp (h_law_alike 8).bd passD (da_cons (de_call h_written.ok (hr.mono (by decide)) (by rfl) (He.glo_ok U.X U.G (U.f 26)) h_written.kp h_written.bd passD (da_cons (de_var 3) (da_nil))) (da_cons (de_var 12) (da_nil)))))) (dw_or (dt_not (dt_val (de_call (h_law_alike 8).ok (hr.mono (by decide)) (by rfl) (He.glo_ok U.X U.G (U.f 39)) (h_law_alike 8).kp (h_law_alike 8).bd passD (da_cons (de_call h_read.ok (hr.mono (by decide)) (by rfl) (He.glo_ok U.X U.G (U.f 33)) h_read.kp h_read.bd passD (da_cons (de_var 12) (da_nil))) (da_cons (de_var 3) (da_nil)))))) (dw_or1 (dt_cmp (opd_ne hr.units) (de_call h_written.ok (hr.mono (by decide)) (by rfl) (He.glo_ok U.X U.G (U.f 26)) h_written.kp h_written.bd passD (da_cons (de_call h_read.ok (hr.mono (by decide)) (by rfl) (He.glo_ok U.X U.G (U.f 33)) h_read.kp h_read.bd passD (da_cons (de_var 12) (da_nil))) (da_nil))) (de_var 12) (nomark _)))))) (dss_one (ds_ret (de_bl))) (dss_nil))))))) (
      dss_one (ds_ret (de_cmp (opd_eq hr.units) (de_call h_read.ok (hr.mono (by decide)) (by rfl) (He.glo_ok U.X U.G (U.f 33)) h_read.kp h_read.bd passD (da_cons (de_str) (da_nil))) (de_tup (da_cons (de_tup (da_cons (de_str) (da_cons (de_tup (da_nil)) (da_cons (de_tup (da_nil)) (da_nil))))) (da_nil))) (nomark _)))))
end
end DL

namespace DL
open PySem PySem.Spec PyProof.Rows L2
theorem start_sp {K : PySem.W.Frag} {H : Hp} {a : Addr} {ns : List Int} (hS : SqL K H a (ns.map V.int)) : spD (CC K) 1 d_law [.ref a] H (fun v _ => v = .bl true) (fun _ _ _ => False) := by
  refine ⟨rfl, [.scr ns], [], H, [], rfl, ?_, ⟨.ref a, [], rfl, ⟨a, rfl, hS⟩, rfl⟩, ?_⟩
  · exact ⟨Same.refl H, rfl, List.nodup_nil, fun a h => (by cases h), fun n a mo h => by simp at h, fun n a mo h => by simp at h⟩
  · rw [z_law]
    intro G' ph' H' _ _ v r
    exact r
theorem walk_law {P : Program} {w : World} {mg : Str → Option Value} {fa : Addr} {h : Heap} (Y : Hd.hk.says w h) (G : h.Ns mainGlobals mg) (hmg : mg ("law" : Str) = some (.ref fa)) :
    ∃ (K : PySem.W.Frag) (fd : FuncData), K.In h ∧ (∀ (s : Shared) (v : Value), BindsTo s fd ⟨[v], []⟩ [("_law_script", v)]) ∧ ∀ base : Heap, FnOk P w K mg base CX0 10 fa fd ["_law_script"] (spD (CC K) 1 d_law) := by
  obtain ⟨K, KX, c⟩ := Y
  have U : Up K mg := ⟨⟨h, KX, G⟩, c.t.d, c.more⟩
  obtain ⟨fd, hb, hF⟩ := ok_law (P := P) (w := w) U
  have e := hmg.symm.trans (He.glo_ok KX G (U.f 40))
  cases e
  exact ⟨K, fd, KX, hb, fun base => (hF base).ok⟩
end DL
open PySem PySem.W PySem.Calls PyProof.Rows
theorem PySem.Challenge.cw_jobcards_k15_written_and_read_holds : PySem.Challenge.rw_jobcards_k15_written_and_read.Holds := by
  w_on; o_law
  refine HandSHeadRun.head_any (r := Hd.R) (q := view Hd.R.prog [40]) (H := Hd.hk) (ob := Hd.ob) (M := 5000) (loose := Hd.names) (d := HandSHeadRun.topDef Hd.R.prog 40) (kwd := []) Hd.ob_eq
    (by kernel_rfl) (fun s => by kernel_rfl) Hd.run (by kernel_rfl) (by kernel_rfl) (by kernel_rfl) (by rfl) (by first | assumption | decide +kernel) (by decide +kernel) ⟨rfl, rfl, rfl, rfl, rfl, by decide +kernel⟩ ?hw ?hc
  case hw => w_witness2
  case hc =>
    refine L2.walk_ofE (l := PySem.Challenge.rw_jobcards_k15_written_and_read) (n := 63) (k := 10) (x := "_law_script") (CX := L2.CX0) rfl (by decide) (by kernel_rfl) ⟨rfl, by decide, by decide⟩ ?F (fun _ _ _ _ z => z)
    intro w mg fa h Y G hm0
    have hm : mg ("law" : PySem.Str) = some (.ref fa) := by
      have en : (HandSHeadRun.topDef Hd.R.prog 40).name = ("law" : PySem.Str) := by kernel_rfl
      rw [← en]
      exact hm0
    obtain ⟨K, fd, KX, hb, hF⟩ := DL.walk_law (P := (PySem.Challenge.rw_jobcards_k15_written_and_read).prog) (w := w) Y G hm
    exact ⟨K, fd, DL.spD (DL.CC K) 1 DL.d_law, KX, hb, fun H a ns _ _ hS => DL.start_sp hS, fun base _ _ => hF base⟩


