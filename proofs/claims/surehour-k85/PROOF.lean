import PyProof.Rows.All
import Wide.All
import OpenK.AllK
import Wide.FinOn
import HandS.ForMost
import HandS.Lambda
import HandS.Property
import HandS.Defaults
import PySem.Challenge.RW_surehour_k85_whole_one_message_between_g
import HandS.IsInst
import HandS.Small
import HandS.TupAny
import HandS.DictComp
import HandS.ListItems
import HandS.Sort
import HandS.More
import HandS.Conv
import HandS.Style
import HandS.NoneIn
import HandS.Text
import HandS.EndTab
import HandS.Head0
import HandS.Head1
import HandS.Head2
import HandS.HeadHook1
import HandS.HeadHook2
import HandS.HeadHook3
import HandS.HeadHook4
import HandS.HeadNt
import HandS.HeadWalk
import HandS.RevTup
import KE.GoesEnum
import KE.GoesMore
import HandS.DictTup
import KE.KDictPairs
import KE.SortKeyHeap
import KE.SortUse
import HandS.SortKw
set_option Elab.async false
set_option linter.all false
section
set_option maxRecDepth 100000
namespace Sw
open PySem L2
abbrev Sub (G H : Hp) : Prop := ∀ b o, G b = some o → H b = some o
theorem Sub.rfl' (G : Hp) : Sub G G := fun _ _ h => h
theorem Sub.tr {G H K : Hp} (a : Sub G H) (b : Sub H K) : Sub G K := fun x o h => b x o (a x o h)
theorem Sub.nn {G H : Hp} (a : Sub G H) {b : Addr} (h : H b = none) : G b = none := by
  cases e : G b with
  | none => rfl
  | some o => rw [a b o e] at h; cases h
theorem Sub.new {G : Hp} {p : Addr} {o : HO} (h : G p = none) : Sub G (upd G p o) := fun b u e => by
  rw [upd_ne (ne_of_none e h)]
  exact e
theorem Sub.mut {G H : Hp} {p : Addr} {o : HO} (s : Sub G H) (h : G p = none) : Sub G (upd H p o) := fun b u e => by
  rw [upd_ne (ne_of_none e h)]
  exact s b u e
theorem Sub.both {G H : Hp} {p : Addr} {o : HO} (s : Sub G H) : Sub (upd G p o) (upd H p o) := fun b u e => by
  by_cases q : b = p
  · subst q
    rw [upd_same] at e ⊢
    exact e
  · rw [upd_ne q] at e ⊢
    exact s b u e
theorem upd_old {H : Hp} {p q : Addr} {o u : HO} (hq : H q = none) (h : H p = some o) : upd H q u p = some o := by
  rw [upd_ne (ne_of_none h hq)]
  exact h
/-- the tables of code that the lambdas are written into -/
class TL where
  lt : List (Addr × Str)
variable [TL]
/-- from (G, H) to (G', H'): G grew by new things alone; of H all stands but the cells of M and the tables -/
structure Go (M : Addr → Prop) (G H G' H' : Hp) : Prop where
  sub : Sub G G'
  inn : Sub G' H'
  fr : ∀ b o, H b = some o → ¬ M b → (∀ ps, o ≠ .tbl ps) → H' b = some o
  nw : ∀ b, H b ≠ none → G b = none → G' b = none
  dm : ∀ b, H b ≠ none → H' b ≠ none
  tb : LamX.Tabs TL.lt H → LamX.Tabs TL.lt H'
  nt : ∀ b ps, G' b = some (.tbl ps) → G b = some (.tbl ps)
abbrev M0 : Addr → Prop := fun _ => False
section
variable {M M' : Addr → Prop} {G H G' H' G'' H'' : Hp} {p : Addr} {o u : HO}
theorem Go.refl (h : Sub G H) : Go M G H G H := ⟨fun _ _ h => h, h, fun _ _ h _ _ => h, fun _ _ h => h, fun _ h => h, fun h => h, fun _ _ h => h⟩
theorem Go.trans (a : Go M G H G' H') (b : Go M' G' H' G'' H'') (hM : ∀ x, M' x → M x ∨ H x = none) : Go M G H G'' H'' where
  sub := a.sub.tr b.sub
  inn := b.inn
  fr := fun x z h n t => b.fr x z (a.fr x z h n t) (fun m => (hM x m).elim n fun q => by rw [q] at h; cases h) t
  nw := fun x h g => b.nw x (a.dm x h) (a.nw x h g)
  dm := fun x h => b.dm x (a.dm x h)
  tb := fun h => b.tb (a.tb h)
  nt := fun x ps h => a.nt x ps (b.nt x ps h)
/-- the callee changes no more than its caller -/
theorem Go.then (a : Go M G H G' H') (b : Go M G' H' G'' H'') : Go M G H G'' H'' := a.trans b fun _ m => .inl m
theorem Go.then0 (a : Go M G H G' H') (b : Go M0 G' H' G'' H'') : Go M G H G'' H'' := a.trans b fun _ m => m.elim
theorem tabs_new {T : List (Addr × Str)} (h : H p = none) (t : LamX.Tabs T H) : LamX.Tabs T (upd H p o) := t.ext fun b u e => upd_old h e
/-- a new thing that stays as it is -/
theorem Go.new (a : Go M G H G' H') (h : H' p = none) (ht : ∀ ps, o ≠ .tbl ps) : Go M G H (upd G' p o) (upd H' p o) where
  sub := a.sub.tr (Sub.new (a.inn.nn h))
  inn := a.inn.both
  fr := fun x z e n t => upd_old h (a.fr x z e n t)
  nw := fun x e g => by
    have hx : x ≠ p := fun q => a.dm x e (q ▸ h)
    rw [upd_ne hx]
    exact a.nw x e g
  dm := fun x e => by
    have hx : x ≠ p := fun q => a.dm x e (q ▸ h)
    rw [upd_ne hx]
    exact a.dm x e
  tb := fun t => tabs_new h (a.tb t)
  nt := fun x ps e => by
    by_cases q : x = p
    · subst q
      rw [upd_same] at e
      exact absurd (Option.some.inj e) (ht ps)
    · rw [upd_ne q] at e
      exact a.nt x ps e
/-- a new thing that will change -/
theorem Go.own (a : Go M G H G' H') (h : H' p = none) : Go M G H G' (upd H' p o) where
  sub := a.sub
  inn := a.inn.mut (a.inn.nn h)
  fr := fun x z e n t => upd_old h (a.fr x z e n t)
  nw := a.nw
  dm := fun x e => by
    have hx : x ≠ p := fun q => a.dm x e (q ▸ h)
    rw [upd_ne hx]
    exact a.dm x e
  tb := fun t => tabs_new h (a.tb t)
  nt := a.nt
theorem tabs_mut {T : List (Addr × Str)} (h : H p = some u) (h1 : ∀ ps, u ≠ .tbl ps) (h2 : ∀ φ, u ≠ .ext φ) (t : LamX.Tabs T H) : LamX.Tabs T (upd H p o) := fun q hq => by
  obtain ⟨ps, e1, e2, e3⟩ := t q hq
  refine ⟨ps, ?_, e2, fun pos cv hc => ?_⟩
  · rw [upd_ne fun z => by rw [z, h] at e1; exact h1 ps (Option.some.inj e1)]
    exact e1
  · obtain ⟨c, e4, e5⟩ := e3 pos cv hc
    refine ⟨c, e4, ?_⟩
    rw [upd_ne fun z => by rw [z, h] at e5; exact h2 _ (Option.some.inj e5)]
    exact e5
/-- a thing of one's own changes, or one of M -/
theorem Go.set (a : Go M G H G' H') (h : H' p = some u) (h1 : ∀ ps, u ≠ .tbl ps) (h2 : ∀ φ, u ≠ .ext φ) (hg : G' p = none) (hp : M p ∨ H p = none) : Go M G H G' (upd H' p o) where
  sub := a.sub
  inn := a.inn.mut hg
  fr := fun x z e n t => by
    have hx : x ≠ p := fun q => by
      subst q
      rcases hp with hp | hp
      · exact n hp
      · rw [hp] at e; cases e
    rw [upd_ne hx]
    exact a.fr x z e n t
  nw := a.nw
  dm := fun x e => by
    by_cases q : x = p
    · subst q
      rw [upd_same]
      exact fun z => nomatch z
    · rw [upd_ne q]
      exact a.dm x e
  tb := fun t => tabs_mut h h1 h2 (a.tb t)
  nt := a.nt
theorem Go.setL {xs ys : List V} (a : Go M G H G' H') (h : H' p = some (.lst xs)) (hg : G' p = none) (hp : M p ∨ H p = none) : Go M G H G' (upd H' p (.lst ys)) := a.set h (fun _ z => nomatch z) (fun _ z => nomatch z) hg hp
theorem Go.setK {xs ys : List (Key × V)} (a : Go M G H G' H') (h : H' p = some (.dK xs)) (hg : G' p = none) (hp : M p ∨ H p = none) : Go M G H G' (upd H' p (.dK ys)) := a.set h (fun _ z => nomatch z) (fun _ z => nomatch z) hg hp
theorem Go.setT {xs ys : List (List Key × V)} (a : Go M G H G' H') (h : H' p = some (.dT xs)) (hg : G' p = none) (hp : M p ∨ H p = none) : Go M G H G' (upd H' p (.dT ys)) := a.set h (fun _ z => nomatch z) (fun _ z => nomatch z) hg hp
/-- a thing of one's own stays from now on -/
theorem Go.fix (a : Go M G H G' H') (h : H' p = some o) (hp : H p = none) (hg : G' p = none) (ht : ∀ ps, o ≠ .tbl ps) : Go M G H (upd G' p o) H' where
  sub := a.sub.tr (Sub.new hg)
  inn := fun b u e => by
    by_cases q : b = p
    · subst q
      rw [upd_same] at e
      rw [h]
      exact e
    · rw [upd_ne q] at e
      exact a.inn b u e
  fr := a.fr
  nw := fun x e g => by
    have hx : x ≠ p := fun q => e (q ▸ hp)
    rw [upd_ne hx]
    exact a.nw x e g
  dm := a.dm
  tb := a.tb
  nt := fun x ps e => by
    by_cases q : x = p
    · subst q
      rw [upd_same] at e
      exact absurd (Option.some.inj e) (ht ps)
    · rw [upd_ne q] at e
      exact a.nt x ps e
/-- what the caller has of its own, behind a call -/
theorem Go.keep (a : Go M G H G' H') (h : H p = some o) (hm : ¬ M p) (ht : ∀ ps, o ≠ .tbl ps) : H' p = some o := a.fr p o h hm ht
theorem Go.keepG (a : Go M G H G' H') (h : H p = some o) (hg : G p = none) : G' p = none := a.nw p (by rw [h]; exact fun z => nomatch z) hg
end
inductive Da where
  | non | bl (b : Bool) | int (i : Int) | str (s : Str) | tup (l : List Da) | lst (l : List Da) | dct (l : List (Key × Da))
mutual
def Rep (G : Hp) : Da → V → Prop
  | .non, v => v = .non
  | .bl b, v => v = .bl b
  | .int i, v => v = .int i
  | .str s, v => v = .str s
  | .tup l, v => ∃ a vs, v = .ref a ∧ G a = some (.tup vs) ∧ RepL G l vs
  | .lst l, v => ∃ a vs, v = .ref a ∧ G a = some (.lst vs) ∧ RepL G l vs
  | .dct l, v => ∃ a vs, v = .ref a ∧ G a = some (.dK vs) ∧ RepK G l vs
def RepL (G : Hp) : List Da → List V → Prop
  | [], vs => vs = []
  | d :: ds, vs => ∃ v r, vs = v :: r ∧ Rep G d v ∧ RepL G ds r
def RepK (G : Hp) : List (Key × Da) → List (Key × V) → Prop
  | [], vs => vs = []
  | (k, d) :: ds, vs => ∃ v r, vs = (k, v) :: r ∧ Rep G d v ∧ RepK G ds r
end
mutual
theorem Rep.mono {G G' : Hp} (s : Sub G G') : ∀ (d : Da) {v : V}, Rep G d v → Rep G' d v
  | .non, _, h => h
  | .bl _, _, h => h
  | .int _, _, h => h
  | .str _, _, h => h
  | .tup l, _, h => let ⟨a, vs, e, g, r⟩ := h; ⟨a, vs, e, s a _ g, RepL.mono s l r⟩
  | .lst l, _, h => let ⟨a, vs, e, g, r⟩ := h; ⟨a, vs, e, s a _ g, RepL.mono s l r⟩
  | .dct l, _, h => let ⟨a, vs, e, g, r⟩ := h; ⟨a, vs, e, s a _ g, RepK.mono s l r⟩
theorem RepL.mono {G G' : Hp} (s : Sub G G') : ∀ (d : List Da) {v : List V}, RepL G d v → RepL G' d v
  | [], _, h => h
  | d :: ds, _, h => let ⟨v, r, e, h1, h2⟩ := h; ⟨v, r, e, Rep.mono s d h1, RepL.mono s ds h2⟩
theorem RepK.mono {G G' : Hp} (s : Sub G G') : ∀ (d : List (Key × Da)) {v : List (Key × V)}, RepK G d v → RepK G' d v
  | [], _, h => h
  | (k, d) :: ds, _, h => let ⟨v, r, e, h1, h2⟩ := h; ⟨v, r, e, Rep.mono s d h1, RepK.mono s ds h2⟩
end
theorem RepL.len {G : Hp} : ∀ {ds : List Da} {vs : List V}, RepL G ds vs → vs.length = ds.length
  | [], _, h => by rw [show _ = [] from h]; rfl
  | d :: ds, _, h => by
    obtain ⟨v, r, rfl, _, h2⟩ := h
    rw [List.length_cons, List.length_cons, RepL.len h2]
theorem RepL.get {G : Hp} : ∀ {ds : List Da} {vs : List V} {i : Nat} {d : Da}, RepL G ds vs → ds[i]? = some d → ∃ v, vs[i]? = some v ∧ Rep G d v
  | [], _, i, d, _, h => by simp at h
  | e :: ds, _, 0, d, h, hi => by
    obtain ⟨v, r, rfl, h1, _⟩ := h
    simp at hi
    subst hi
    exact ⟨v, rfl, h1⟩
  | e :: ds, _, i + 1, d, h, hi => by
    obtain ⟨v, r, rfl, _, h2⟩ := h
    obtain ⟨u, h3, h4⟩ := RepL.get (i := i) h2 (by simpa using hi)
    exact ⟨u, by simpa using h3, h4⟩
theorem RepL.got {G : Hp} : ∀ {ds : List Da} {vs : List V} {i : Nat} {v : V}, RepL G ds vs → vs[i]? = some v → ∃ d, ds[i]? = some d ∧ Rep G d v := fun {ds vs i v} h e => by
  have hl := h.len
  have hi : i < vs.length := (List.getElem?_eq_some_iff.mp e).1
  have hd : ds[i]? = some ds[i] := List.getElem?_eq_getElem (by omega)
  obtain ⟨u, h1, h2⟩ := h.get hd
  rw [e] at h1
  cases h1
  exact ⟨_, hd, h2⟩
theorem RepL.app {G : Hp} : ∀ {ds es : List Da} {vs ws : List V}, RepL G ds vs → RepL G es ws → RepL G (ds ++ es) (vs ++ ws)
  | [], _, _, _, h, h' => by rw [show _ = [] from h]; exact h'
  | d :: ds, _, _, _, h, h' => by
    obtain ⟨v, r, rfl, h1, h2⟩ := h
    exact ⟨v, _, rfl, h1, RepL.app h2 h'⟩
theorem RepL.one {G : Hp} {d : Da} {v : V} (h : Rep G d v) : RepL G [d] [v] := ⟨v, [], rfl, h, rfl⟩
theorem RepL.snoc {G : Hp} {ds : List Da} {vs : List V} {d : Da} {v : V} (h : RepL G ds vs) (h' : Rep G d v) : RepL G (ds ++ [d]) (vs ++ [v]) := h.app (.one h')
theorem RepL.take {G : Hp} : ∀ (n : Nat) {ds : List Da} {vs : List V}, RepL G ds vs → RepL G (ds.take n) (vs.take n)
  | 0, _, _, _ => rfl
  | _ + 1, [], _, h => by rw [show _ = [] from h]; exact rfl
  | n + 1, d :: ds, _, h => by
    obtain ⟨v, r, rfl, h1, h2⟩ := h
    exact ⟨v, _, rfl, h1, RepL.take n h2⟩
theorem RepL.drop {G : Hp} : ∀ (n : Nat) {ds : List Da} {vs : List V}, RepL G ds vs → RepL G (ds.drop n) (vs.drop n)
  | 0, _, _, h => h
  | _ + 1, [], _, h => by rw [show _ = [] from h]; exact rfl
  | n + 1, d :: ds, _, h => by
    obtain ⟨v, r, rfl, h1, h2⟩ := h
    exact RepL.drop n h2
theorem RepL.ints {G : Hp} : ∀ {ns : List Int} {vs : List V}, RepL G (ns.map Da.int) vs ↔ vs = ns.map V.int
  | [], _ => Iff.rfl
  | n :: ns, vs => by
    constructor
    · rintro ⟨v, r, rfl, h1, h2⟩
      rw [RepL.ints.mp h2, show v = .int n from h1]
      rfl
    · rintro rfl
      exact ⟨_, _, rfl, rfl, RepL.ints.mpr rfl⟩
theorem RepL.strs {G : Hp} : ∀ {ns : List Str} {vs : List V}, RepL G (ns.map Da.str) vs ↔ vs = ns.map V.str
  | [], _ => Iff.rfl
  | n :: ns, vs => by
    constructor
    · rintro ⟨v, r, rfl, h1, h2⟩
      rw [RepL.strs.mp h2, show v = .str n from h1]
      rfl
    · rintro rfl
      exact ⟨_, _, rfl, rfl, RepL.strs.mpr rfl⟩
end Sw
end
section
set_option maxRecDepth 100000
namespace Sw
open PySem L2
def top (i : Nat) : Stmt := PySem.Challenge.pw_surehour_k85_whole_one_message_between_g.main.body.getD i (.Pass ⟨0, 0, 0, 0⟩)
abbrev s_is_between : Stmt := top 20
abbrev n_is_between : List Str := ["value", "least", "most"]
theorem sc_is_between : FnScope n_is_between ["value", "least", "most"] (defScope s_is_between) := ⟨rfl, rfl, rfl, by decide +kernel, rfl, by decide +kernel, by decide +kernel⟩
abbrev s_is_name : Stmt := top 21
abbrev n_is_name : List Str := ["value", "sign"]
theorem sc_is_name : FnScope n_is_name ["value"] (defScope s_is_name) := ⟨rfl, rfl, rfl, by decide +kernel, rfl, by decide +kernel, by decide +kernel⟩
abbrev s_is_list : Stmt := top 22
abbrev n_is_list : List Str := ["value"]
theorem sc_is_list : FnScope n_is_list ["value"] (defScope s_is_list) := ⟨rfl, rfl, rfl, by decide +kernel, rfl, by decide +kernel, by decide +kernel⟩
abbrev s_are_drifts : Stmt := top 23
abbrev n_are_drifts : List Str := ["value", "name", "drift"]
theorem sc_are_drifts : FnScope n_are_drifts ["value"] (defScope s_are_drifts) := ⟨rfl, rfl, rfl, by decide +kernel, rfl, by decide +kernel, by decide +kernel⟩
abbrev s_are_sources : Stmt := top 24
abbrev n_are_sources : List Str := ["value", "name"]
theorem sc_are_sources : FnScope n_are_sources ["value"] (defScope s_are_sources) := ⟨rfl, rfl, rfl, by decide +kernel, rfl, by decide +kernel, by decide +kernel⟩
abbrev s_Network_init : Stmt := inClass (top 25) 0
abbrev n_Network_init : List Str := ["self", "drifts", "sources", "wrong", "name"]
theorem sc_Network_init : FnScope n_Network_init ["self", "drifts", "sources", "wrong"] (defScope s_Network_init) := ⟨rfl, rfl, rfl, by decide +kernel, rfl, by decide +kernel, by decide +kernel⟩
abbrev s_Network_drifts : Stmt := inClass (top 25) 2
abbrev n_Network_drifts : List Str := ["self"]
theorem sc_Network_drifts : FnScope n_Network_drifts ["self"] (defScope s_Network_drifts) := ⟨rfl, rfl, rfl, by decide +kernel, rfl, by decide +kernel, by decide +kernel⟩
abbrev s_Network_stations : Stmt := inClass (top 25) 3
abbrev n_Network_stations : List Str := ["self"]
theorem sc_Network_stations : FnScope n_Network_stations ["self"] (defScope s_Network_stations) := ⟨rfl, rfl, rfl, by decide +kernel, rfl, by decide +kernel, by decide +kernel⟩
abbrev s_Network_sources : Stmt := inClass (top 25) 4
abbrev n_Network_sources : List Str := ["self"]
theorem sc_Network_sources : FnScope n_Network_sources ["self"] (defScope s_Network_sources) := ⟨rfl, rfl, rfl, by decide +kernel, rfl, by decide +kernel, by decide +kernel⟩
abbrev s_Network_wrong : Stmt := inClass (top 25) 5
abbrev n_Network_wrong : List Str := ["self"]
theorem sc_Network_wrong : FnScope n_Network_wrong ["self"] (defScope s_Network_wrong) := ⟨rfl, rfl, rfl, by decide +kernel, rfl, by decide +kernel, by decide +kernel⟩
abbrev s_is_fact : Stmt := top 26
abbrev n_is_fact : List Str := ["value", "at", "network", "word", "what", "least", "most"]
theorem sc_is_fact : FnScope n_is_fact ["value", "at", "network"] (defScope s_is_fact) := ⟨rfl, rfl, rfl, by decide +kernel, rfl, by decide +kernel, by decide +kernel⟩
abbrev s_is_event : Stmt := top 27
abbrev n_is_event : List Str := ["value", "at", "network", "station", "reading", "facts", "fact"]
theorem sc_is_event : FnScope n_is_event ["value", "at", "network"] (defScope s_is_event) := ⟨rfl, rfl, rfl, by decide +kernel, rfl, by decide +kernel, by decide +kernel⟩
abbrev s_check_events : Stmt := top 28
abbrev n_check_events : List Str := ["events", "network", "last", "at", "event"]
theorem sc_check_events : FnScope n_check_events ["events", "network"] (defScope s_check_events) := ⟨rfl, rfl, rfl, by decide +kernel, rfl, by decide +kernel, by decide +kernel⟩
abbrev s_History_init : Stmt := inClass (top 29) 0
abbrev n_History_init : List Str := ["self", "network", "events"]
theorem sc_History_init : FnScope n_History_init ["self", "network", "events"] (defScope s_History_init) := ⟨rfl, rfl, rfl, by decide +kernel, rfl, by decide +kernel, by decide +kernel⟩
abbrev s_History_network : Stmt := inClass (top 29) 3
abbrev n_History_network : List Str := ["self"]
theorem sc_History_network : FnScope n_History_network ["self"] (defScope s_History_network) := ⟨rfl, rfl, rfl, by decide +kernel, rfl, by decide +kernel, by decide +kernel⟩
abbrev s_History_events : Stmt := inClass (top 29) 4
abbrev n_History_events : List Str := ["self"]
theorem sc_History_events : FnScope n_History_events ["self"] (defScope s_History_events) := ⟨rfl, rfl, rfl, by decide +kernel, rfl, by decide +kernel, by decide +kernel⟩
abbrev s_subsets : Stmt := top 35
abbrev n_subsets : List Str := ["names", "many", "found", "at", "name", "rest"]
theorem sc_subsets : FnScope n_subsets ["names", "many"] (defScope s_subsets) := ⟨rfl, rfl, rfl, by decide +kernel, rfl, by decide +kernel, by decide +kernel⟩
abbrev s_choices : Stmt := top 36
abbrev n_choices : List Str := ["network"]
theorem sc_choices : FnScope n_choices ["network"] (defScope s_choices) := ⟨rfl, rfl, rfl, by decide +kernel, rfl, by decide +kernel, by decide +kernel⟩
abbrev s_is_moment : Stmt := top 37
abbrev n_is_moment : List Str := ["network", "value"]
theorem sc_is_moment : FnScope n_is_moment ["network", "value"] (defScope s_is_moment) := ⟨rfl, rfl, rfl, by decide +kernel, rfl, by decide +kernel, by decide +kernel⟩
abbrev s_check_moment : Stmt := top 38
abbrev n_check_moment : List Str := ["network", "value"]
theorem sc_check_moment : FnScope n_check_moment ["network", "value"] (defScope s_check_moment) := ⟨rfl, rfl, rfl, by decide +kernel, rfl, by decide +kernel, by decide +kernel⟩
abbrev s_put : Stmt := top 39
abbrev n_put : List Str := ["table", "one", "other", "bound"]
theorem sc_put : FnScope n_put ["table", "one", "other", "bound"] (defScope s_put) := ⟨rfl, rfl, rfl, by decide +kernel, rfl, by decide +kernel, by decide +kernel⟩
abbrev s_put_drift : Stmt := top 40
abbrev n_put_drift : List Str := ["table", "line", "drift", "reading", "one", "later", "other", "ticks"]
theorem sc_put_drift : FnScope n_put_drift ["table", "line", "drift"] (defScope s_put_drift) := ⟨rfl, rfl, rfl, by decide +kernel, rfl, by decide +kernel, by decide +kernel⟩
abbrev s_lines_of : Stmt := top 41
abbrev n_lines_of : List Str := ["history", "station", "found", "at", "reading", "facts"]
theorem sc_lines_of : FnScope n_lines_of ["history"] (defScope s_lines_of) := ⟨rfl, rfl, rfl, by decide +kernel, rfl, by decide +kernel, by decide +kernel⟩
abbrev s_put_moment : Stmt := top 42
abbrev n_put_moment : List Str := ["table", "line", "node", "reading", "other", "there", "spot", "one"]
theorem sc_put_moment : FnScope n_put_moment ["table", "line", "node", "reading"] (defScope s_put_moment) := ⟨rfl, rfl, rfl, by decide +kernel, rfl, by decide +kernel, by decide +kernel⟩
abbrev s_put_facts : Stmt := top 43
abbrev n_put_facts : List Str := ["table", "at", "facts", "choice", "word", "what", "least", "most"]
theorem sc_put_facts : FnScope n_put_facts ["table", "at", "facts", "choice"] (defScope s_put_facts) := ⟨rfl, rfl, rfl, by decide +kernel, rfl, by decide +kernel, by decide +kernel⟩
abbrev s_table_with : Stmt := top 44
abbrev n_table_with : List Str := ["history", "choice", "moments", "table", "lines", "node", "station", "reading", "line", "at", "facts"]
theorem sc_table_with : FnScope n_table_with ["history", "choice", "moments"] (defScope s_table_with) := ⟨rfl, rfl, rfl, by decide +kernel, rfl, by decide +kernel, by decide +kernel⟩
abbrev s_nodes_of : Stmt := top 45
abbrev n_nodes_of : List Str := ["table", "pair", "node"]
theorem sc_nodes_of : FnScope n_nodes_of ["table"] (defScope s_nodes_of) := ⟨rfl, rfl, rfl, by decide +kernel, rfl, by decide +kernel, by decide +kernel⟩
abbrev s_relaxed : Stmt := top 46
abbrev n_relaxed : List Str := ["table", "nodes", "times", "before", "found", "turn", "one", "other", "bound", "node"]
theorem sc_relaxed : FnScope n_relaxed ["table"] (defScope s_relaxed) := ⟨rfl, rfl, rfl, by decide +kernel, rfl, by decide +kernel, by decide +kernel⟩
abbrev s_negative_ring : Stmt := top 47
abbrev n_negative_ring : List Str := ["table", "times", "before", "node", "turn", "found"]
theorem sc_negative_ring : FnScope n_negative_ring ["table"] (defScope s_negative_ring) := ⟨rfl, rfl, rfl, by decide +kernel, rfl, by decide +kernel, by decide +kernel⟩
abbrev s_farthest : Stmt := top 48
abbrev n_farthest : List Str := ["table", "begin", "found", "is_done", "one", "other", "bound"]
theorem sc_farthest : FnScope n_farthest ["table", "begin"] (defScope s_farthest) := ⟨rfl, rfl, rfl, by decide +kernel, rfl, by decide +kernel, by decide +kernel⟩
abbrev s_joined_spans : Stmt := top 50
abbrev n_joined_spans : List Str := ["spans", "low", "high", "opened", "rest", "found", "span"]
theorem sc_joined_spans : FnScope n_joined_spans ["spans"] (defScope s_joined_spans) := ⟨rfl, rfl, rfl, by decide +kernel, rfl, by decide +kernel, by decide +kernel⟩
abbrev s_span_between : Stmt := top 51
abbrev n_span_between : List Str := ["table", "one", "other", "above", "below"]
theorem sc_span_between : FnScope n_span_between ["table", "one", "other"] (defScope s_span_between) := ⟨rfl, rfl, rfl, by decide +kernel, rfl, by decide +kernel, by decide +kernel⟩
abbrev s_spans_between : Stmt := top 52
abbrev n_spans_between : List Str := ["history", "moments", "one", "other", "found", "choice", "table"]
theorem sc_spans_between : FnScope n_spans_between ["history", "moments", "one", "other"] (defScope s_spans_between) := ⟨rfl, rfl, rfl, by decide +kernel, rfl, by decide +kernel, by decide +kernel⟩
abbrev s_known : Stmt := top 53
abbrev n_known : List Str := ["history", "moment"]
theorem sc_known : FnScope n_known ["history", "moment"] (defScope s_known) := ⟨rfl, rfl, rfl, by decide +kernel, rfl, by decide +kernel, by decide +kernel⟩
abbrev s_differences : Stmt := top 54
abbrev n_differences : List Str := ["history", "one", "other"]
theorem sc_differences : FnScope n_differences ["history", "one", "other"] (defScope s_differences) := ⟨rfl, rfl, rfl, by decide +kernel, rfl, by decide +kernel, by decide +kernel⟩
abbrev s_law_begin : Stmt := top 56
abbrev n_law_begin : List Str := ["_law_script", "_law_large", "_law_cell"]
theorem sc_law_begin : FnScope n_law_begin ["_law_script"] (defScope s_law_begin) := ⟨rfl, rfl, rfl, by decide +kernel, rfl, by decide +kernel, by decide +kernel⟩
abbrev s_law_take : Stmt := top 57
abbrev n_law_take : List Str := ["_law_draw", "_law_size", "_law_cell", "_law_found"]
theorem sc_law_take : FnScope n_law_take ["_law_draw", "_law_size"] (defScope s_law_take) := ⟨rfl, rfl, rfl, by decide +kernel, rfl, by decide +kernel, by decide +kernel⟩
abbrev s_law_pick : Stmt := top 58
abbrev n_law_pick : List Str := ["_law_draw", "_law_some"]
theorem sc_law_pick : FnScope n_law_pick ["_law_draw", "_law_some"] (defScope s_law_pick) := ⟨rfl, rfl, rfl, by decide +kernel, rfl, by decide +kernel, by decide +kernel⟩
abbrev s_law_words : Stmt := top 59
abbrev n_law_words : List Str := ["_law_draw", "_law_many", "_law_menu", "_law_found", "_law_k", "_law_word", "_law_some", "_law_sign", "_law_here"]
theorem sc_law_words : FnScope n_law_words ["_law_draw", "_law_many"] (defScope s_law_words) := ⟨rfl, rfl, rfl, by decide +kernel, rfl, by decide +kernel, by decide +kernel⟩
abbrev s_law_saying : Stmt := top 60
abbrev n_law_saying : List Str := ["_law_draw", "_law_net", "_law_liars", "_law_hour", "_law_voice", "_law_shift", "_law_low", "_law_high"]
theorem sc_law_saying : FnScope n_law_saying ["_law_draw", "_law_net", "_law_liars", "_law_hour"] (defScope s_law_saying) := ⟨rfl, rfl, rfl, by decide +kernel, rfl, by decide +kernel, by decide +kernel⟩
abbrev s_law_message : Stmt := top 61
abbrev n_law_message : List Str := ["_law_draw", "_law_hours", "_law_hour", "_law_at", "_law_early", "_law_way", "_law_here"]
theorem sc_law_message : FnScope n_law_message ["_law_draw", "_law_hours", "_law_hour"] (defScope s_law_message) := ⟨rfl, rfl, rfl, by decide +kernel, rfl, by decide +kernel, by decide +kernel⟩
abbrev s_law_deeds : Stmt := top 62
abbrev n_law_deeds : List Str := ["_law_draw", "_law_net", "_law_many", "_law_places", "_law_liars", "_law_found", "_law_hours", "_law_last", "_law_at", "_law_place", "_law_tick", "_law_hour", "_law_more", "_law_notes", "_law_k", "_law_is_said", "_law_note", "_law_voice"]
theorem sc_law_deeds : FnScope n_law_deeds ["_law_draw", "_law_net", "_law_many"] (defScope s_law_deeds) := ⟨rfl, rfl, rfl, by decide +kernel, rfl, by decide +kernel, by decide +kernel⟩
abbrev s_law_choices : Stmt := top 63
abbrev n_law_choices : List Str := ["_law_net", "_law_found", "_law_k", "_law_longer", "_law_some", "_law_voice"]
theorem sc_law_choices : FnScope n_law_choices ["_law_net"] (defScope s_law_choices) := ⟨rfl, rfl, rfl, by decide +kernel, rfl, by decide +kernel, by decide +kernel⟩
abbrev s_law_steps : Stmt := top 64
abbrev n_law_steps : List Str := ["_law_net", "_law_deeds_here", "_law_spots", "_law_place", "_law_lines", "_law_at", "_law_deed", "_law_k", "_law_tick", "_law_found", "_law_line", "_law_kind", "_law_here", "_law_later", "_law_sort", "_law_there", "_law_more"]
theorem sc_law_steps : FnScope n_law_steps ["_law_net", "_law_deeds_here", "_law_spots"] (defScope s_law_steps) := ⟨rfl, rfl, rfl, by decide +kernel, rfl, by decide +kernel, by decide +kernel⟩
abbrev s_law_rules : Stmt := top 65
abbrev n_law_rules : List Str := ["_law_net", "_law_deeds_here", "_law_some", "_law_spots", "_law_found", "_law_at", "_law_deed", "_law_word", "_law_what", "_law_least", "_law_most"]
theorem sc_law_rules : FnScope n_law_rules ["_law_net", "_law_deeds_here", "_law_some", "_law_spots"] (defScope s_law_rules) := ⟨rfl, rfl, rfl, by decide +kernel, rfl, by decide +kernel, by decide +kernel⟩
abbrev s_law_closed : Stmt := top 66
abbrev n_law_closed : List Str := ["_law_nodes_here", "_law_rules_here", "_law_here", "_law_far", "_law_there", "_law_gap", "_law_mid", "_law_into", "_law_out"]
theorem sc_law_closed : FnScope n_law_closed ["_law_nodes_here", "_law_rules_here"] (defScope s_law_closed) := ⟨rfl, rfl, rfl, by decide +kernel, rfl, by decide +kernel, by decide +kernel⟩
abbrev s_law_nodes : Stmt := top 67
abbrev n_law_nodes : List Str := ["_law_deeds_here", "_law_spots", "_law_k"]
theorem sc_law_nodes : FnScope n_law_nodes ["_law_deeds_here", "_law_spots"] (defScope s_law_nodes) := ⟨rfl, rfl, rfl, by decide +kernel, rfl, by decide +kernel, by decide +kernel⟩
abbrev s_law_united : Stmt := top 68
abbrev n_law_united : List Str := ["_law_ranges_here", "_law_low", "_law_high", "_law_found", "_law_pairs"]
theorem sc_law_united : FnScope n_law_united ["_law_ranges_here"] (defScope s_law_united) := ⟨rfl, rfl, rfl, by decide +kernel, rfl, by decide +kernel, by decide +kernel⟩
abbrev s_law_ranges : Stmt := top 69
abbrev n_law_ranges : List Str := ["_law_net", "_law_deeds_here", "_law_spots", "_law_here", "_law_there", "_law_found", "_law_some", "_law_far", "_law_low"]
theorem sc_law_ranges : FnScope n_law_ranges ["_law_net", "_law_deeds_here", "_law_spots", "_law_here", "_law_there"] (defScope s_law_ranges) := ⟨rfl, rfl, rfl, by decide +kernel, rfl, by decide +kernel, by decide +kernel⟩
abbrev s_law_told : Stmt := top 70
abbrev n_law_told : List Str := ["_law_net", "_law_deeds_here", "_law_spot_here"]
theorem sc_law_told : FnScope n_law_told ["_law_net", "_law_deeds_here", "_law_spot_here"] (defScope s_law_told) := ⟨rfl, rfl, rfl, by decide +kernel, rfl, by decide +kernel, by decide +kernel⟩
abbrev s_law_spot : Stmt := top 71
abbrev n_law_spot : List Str := ["_law_draw", "_law_net", "_law_deeds_here", "_law_place", "_law_ticks", "_law_deed"]
theorem sc_law_spot : FnScope n_law_spot ["_law_draw", "_law_net", "_law_deeds_here"] (defScope s_law_spot) := ⟨rfl, rfl, rfl, by decide +kernel, rfl, by decide +kernel, by decide +kernel⟩
abbrev s_law_shuffled : Stmt := top 72
abbrev n_law_shuffled : List Str := ["_law_draw", "_law_some", "_law_left", "_law_found"]
theorem sc_law_shuffled : FnScope n_law_shuffled ["_law_draw", "_law_some"] (defScope s_law_shuffled) := ⟨rfl, rfl, rfl, by decide +kernel, rfl, by decide +kernel, by decide +kernel⟩
abbrev s_law_groups : Stmt := top 73
abbrev n_law_groups : List Str := ["_law_draw", "_law_doubt", "_law_words_here", "_law_voices", "_law_cut", "_law_part", "_law_wrong", "_law_groups_here", "_law_some", "_law_said", "_law_leans", "_law_net", "_law_deeds_here", "_law_hours", "_law_word"]
theorem sc_law_groups : FnScope n_law_groups ["_law_draw", "_law_doubt"] (defScope s_law_groups) := ⟨rfl, rfl, rfl, by decide +kernel, rfl, by decide +kernel, by decide +kernel⟩
abbrev s_law_woven : Stmt := top 74
abbrev n_law_woven : List Str := ["_law_draw", "_law_groups_here", "_law_found", "_law_places", "_law_k", "_law_place", "_law_tick", "_law_notes", "_law_carried_on", "_law_note"]
theorem sc_law_woven : FnScope n_law_woven ["_law_draw", "_law_groups_here"] (defScope s_law_woven) := ⟨rfl, rfl, rfl, by decide +kernel, rfl, by decide +kernel, by decide +kernel⟩
abbrev s_law_ends : Stmt := top 75
abbrev n_law_ends : List Str := ["_law_ranges_here", "_law_low", "_law_high"]
theorem sc_law_ends : FnScope n_law_ends ["_law_ranges_here"] (defScope s_law_ends) := ⟨rfl, rfl, rfl, by decide +kernel, rfl, by decide +kernel, by decide +kernel⟩
abbrev s_law_both : Stmt := top 76
abbrev n_law_both : List Str := ["_law_ranges_here", "_law_others", "_law_found", "_law_low", "_law_high", "_law_left", "_law_right"]
theorem sc_law_both : FnScope n_law_both ["_law_ranges_here", "_law_others"] (defScope s_law_both) := ⟨rfl, rfl, rfl, by decide +kernel, rfl, by decide +kernel, by decide +kernel⟩
abbrev s_law_moved : Stmt := top 77
abbrev n_law_moved : List Str := ["_law_ranges_here", "_law_others", "_law_found", "_law_low", "_law_high", "_law_left", "_law_right"]
theorem sc_law_moved : FnScope n_law_moved ["_law_ranges_here", "_law_others"] (defScope s_law_moved) := ⟨rfl, rfl, rfl, by decide +kernel, rfl, by decide +kernel, by decide +kernel⟩
abbrev s_law_turned : Stmt := top 78
abbrev n_law_turned : List Str := ["_law_ranges_here", "_law_low", "_law_high"]
theorem sc_law_turned : FnScope n_law_turned ["_law_ranges_here"] (defScope s_law_turned) := ⟨rfl, rfl, rfl, by decide +kernel, rfl, by decide +kernel, by decide +kernel⟩
abbrev s_law_bridge : Stmt := top 79
abbrev n_law_bridge : List Str := ["_law_draw", "_law_groups_here", "_law_at", "_law_to", "_law_way", "_law_least", "_law_group"]
theorem sc_law_bridge : FnScope n_law_bridge ["_law_draw", "_law_groups_here"] (defScope s_law_bridge) := ⟨rfl, rfl, rfl, by decide +kernel, rfl, by decide +kernel, by decide +kernel⟩
abbrev s_law_joined : Stmt := top 80
abbrev n_law_joined : List Str := ["_law_draw", "_law_groups_here", "_law_bridge_here", "_law_at", "_law_to", "_law_least", "_law_most", "_law_first", "_law_second", "_law_early", "_law_late", "_law_deeds_here", "_law_places", "_law_place", "_law_tick", "_law_notes", "_law_ours", "_law_theirs", "_law_carried_on", "_law_k", "_law_rest", "_law_own", "_law_note"]
theorem sc_law_joined : FnScope n_law_joined ["_law_draw", "_law_groups_here", "_law_bridge_here"] (defScope s_law_joined) := ⟨rfl, rfl, rfl, by decide +kernel, rfl, by decide +kernel, by decide +kernel⟩
abbrev s_law_shares_right : Stmt := top 81
abbrev n_law_shares_right : List Str := ["_law_draw", "_law_story", "_law_groups_here", "_law_spots", "_law_told_here", "_law_k", "_law_net", "_law_deeds_here", "_law_spot_here", "_law_apart", "_law_due"]
theorem sc_law_shares_right : FnScope n_law_shares_right ["_law_draw", "_law_story", "_law_groups_here", "_law_spots", "_law_told_here"] (defScope s_law_shares_right) := ⟨rfl, rfl, rfl, by decide +kernel, rfl, by decide +kernel, by decide +kernel⟩
abbrev s_law : Stmt := top 82
abbrev n_law : List Str := ["_law_script", "_law_draw", "_law_turn", "_law_groups_here", "_law_net", "_law_at", "_law_to", "_law_least", "_law_most", "_law_story", "_law_spots", "_law_ours", "_law_theirs", "_law_told_here", "_law_due", "_law_k"]
theorem sc_law : FnScope n_law ["_law_script"] (defScope s_law) := ⟨rfl, rfl, rfl, by decide +kernel, rfl, by decide +kernel, by decide +kernel⟩
/-- a def as the top has left it -/
structure Df (K : PySem.W.Frag) (mg : Str → Option Value) (x : Str) (st : Stmt) (ps : List Str) where
  a : Addr
  fd : FuncData
  F : Fun K x x st a fd
  g : mg x = some (.ref a)
  b : Binds K fd ps []
/-- a method -/
structure Mf (K : PySem.W.Frag) (x qual : Str) (st : Stmt) (ps : List Str) where
  a : Addr
  fd : FuncData
  F : Fun K x qual st a fd
  b : Binds K fd ps []
/-- a method with one default -/
structure Mv (K : PySem.W.Frag) (x qual : Str) (st : Stmt) (ps : List Str) where
  a : Addr
  fd : FuncData
  v : V
  F : FunD K x qual (defArgs st) (defBody st) (defScope st) [v] [] a fd
  b : Binds K fd ps []
structure Cd (K : PySem.W.Frag) (mg : Str → Option Value) (x : Str) (i : Addr) where
  C : Addr
  cl : Cls K C
  g : mg x = some (.ref C)
  M : Mk K C i
structure Pd (K : PySem.W.Frag) (C : Addr) (f : Str) (g : Addr) where
  p : Addr
  h : PropOf K C f p g
/-- what the top has left -/
structure Txt (K : PySem.W.Frag) (mg : Str → Option Value) where
  is_between : Df K mg "is_between" s_is_between ["value", "least", "most"]
  is_name : Df K mg "is_name" s_is_name ["value"]
  is_list : Df K mg "is_list" s_is_list ["value"]
  are_drifts : Df K mg "are_drifts" s_are_drifts ["value"]
  are_sources : Df K mg "are_sources" s_are_sources ["value"]
  Network_init : Mf K "__init__" "Network.__init__" s_Network_init ["self", "drifts", "sources", "wrong"]
  Network_drifts : Mf K "drifts" "Network.drifts" s_Network_drifts ["self"]
  Network_stations : Mf K "stations" "Network.stations" s_Network_stations ["self"]
  Network_sources : Mf K "sources" "Network.sources" s_Network_sources ["self"]
  Network_wrong : Mf K "wrong" "Network.wrong" s_Network_wrong ["self"]
  is_fact : Df K mg "is_fact" s_is_fact ["value", "at", "network"]
  is_event : Df K mg "is_event" s_is_event ["value", "at", "network"]
  check_events : Df K mg "check_events" s_check_events ["events", "network"]
  History_init : Mv K "__init__" "History.__init__" s_History_init ["self", "network", "events"]
  History_network : Mf K "network" "History.network" s_History_network ["self"]
  History_events : Mf K "events" "History.events" s_History_events ["self"]
  subsets : Df K mg "subsets" s_subsets ["names", "many"]
  choices : Df K mg "choices" s_choices ["network"]
  is_moment : Df K mg "is_moment" s_is_moment ["network", "value"]
  check_moment : Df K mg "check_moment" s_check_moment ["network", "value"]
  put : Df K mg "put" s_put ["table", "one", "other", "bound"]
  put_drift : Df K mg "put_drift" s_put_drift ["table", "line", "drift"]
  lines_of : Df K mg "lines_of" s_lines_of ["history"]
  put_moment : Df K mg "put_moment" s_put_moment ["table", "line", "node", "reading"]
  put_facts : Df K mg "put_facts" s_put_facts ["table", "at", "facts", "choice"]
  table_with : Df K mg "table_with" s_table_with ["history", "choice", "moments"]
  nodes_of : Df K mg "nodes_of" s_nodes_of ["table"]
  relaxed : Df K mg "relaxed" s_relaxed ["table"]
  negative_ring : Df K mg "negative_ring" s_negative_ring ["table"]
  farthest : Df K mg "farthest" s_farthest ["table", "begin"]
  joined_spans : Df K mg "joined_spans" s_joined_spans ["spans"]
  span_between : Df K mg "span_between" s_span_between ["table", "one", "other"]
  spans_between : Df K mg "spans_between" s_spans_between ["history", "moments", "one", "other"]
  known : Df K mg "known" s_known ["history", "moment"]
  differences : Df K mg "differences" s_differences ["history", "one", "other"]
  law_begin : Df K mg "_law_begin" s_law_begin ["_law_script"]
  law_take : Df K mg "_law_take" s_law_take ["_law_draw", "_law_size"]
  law_pick : Df K mg "_law_pick" s_law_pick ["_law_draw", "_law_some"]
  law_words : Df K mg "_law_words" s_law_words ["_law_draw", "_law_many"]
  law_saying : Df K mg "_law_saying" s_law_saying ["_law_draw", "_law_net", "_law_liars", "_law_hour"]
  law_message : Df K mg "_law_message" s_law_message ["_law_draw", "_law_hours", "_law_hour"]
  law_deeds : Df K mg "_law_deeds" s_law_deeds ["_law_draw", "_law_net", "_law_many"]
  law_choices : Df K mg "_law_choices" s_law_choices ["_law_net"]
  law_steps : Df K mg "_law_steps" s_law_steps ["_law_net", "_law_deeds_here", "_law_spots"]
  law_rules : Df K mg "_law_rules" s_law_rules ["_law_net", "_law_deeds_here", "_law_some", "_law_spots"]
  law_closed : Df K mg "_law_closed" s_law_closed ["_law_nodes_here", "_law_rules_here"]
  law_nodes : Df K mg "_law_nodes" s_law_nodes ["_law_deeds_here", "_law_spots"]
  law_united : Df K mg "_law_united" s_law_united ["_law_ranges_here"]
  law_ranges : Df K mg "_law_ranges" s_law_ranges ["_law_net", "_law_deeds_here", "_law_spots", "_law_here", "_law_there"]
  law_told : Df K mg "_law_told" s_law_told ["_law_net", "_law_deeds_here", "_law_spot_here"]
  law_spot : Df K mg "_law_spot" s_law_spot ["_law_draw", "_law_net", "_law_deeds_here"]
  law_shuffled : Df K mg "_law_shuffled" s_law_shuffled ["_law_draw", "_law_some"]
  law_groups : Df K mg "_law_groups" s_law_groups ["_law_draw", "_law_doubt"]
  law_woven : Df K mg "_law_woven" s_law_woven ["_law_draw", "_law_groups_here"]
  law_ends : Df K mg "_law_ends" s_law_ends ["_law_ranges_here"]
  law_both : Df K mg "_law_both" s_law_both ["_law_ranges_here", "_law_others"]
  law_moved : Df K mg "_law_moved" s_law_moved ["_law_ranges_here", "_law_others"]
  law_turned : Df K mg "_law_turned" s_law_turned ["_law_ranges_here"]
  law_bridge : Df K mg "_law_bridge" s_law_bridge ["_law_draw", "_law_groups_here"]
  law_joined : Df K mg "_law_joined" s_law_joined ["_law_draw", "_law_groups_here", "_law_bridge_here"]
  law_shares_right : Df K mg "_law_shares_right" s_law_shares_right ["_law_draw", "_law_story", "_law_groups_here", "_law_spots", "_law_told_here"]
  law : Df K mg "law" s_law ["_law_script"]
  Network : Cd K mg "Network" Network_init.a
  History : Cd K mg "History" History_init.a
  nA_Network_n_drifts : NoAttr K Network.C "n_drifts"
  nA_Network_n_sources : NoAttr K Network.C "n_sources"
  nA_Network_n_wrong : NoAttr K Network.C "n_wrong"
  nA_History_h_network : NoAttr K History.C "h_network"
  nA_History_h_events : NoAttr K History.C "h_events"
  p_Network_drifts : Pd K Network.C "drifts" Network_drifts.a
  p_Network_stations : Pd K Network.C "stations" Network_stations.a
  p_Network_sources : Pd K Network.C "sources" Network_sources.a
  p_Network_wrong : Pd K Network.C "wrong" Network_wrong.a
  p_History_network : Pd K History.C "network" History_network.a
  p_History_events : Pd K History.C "events" History_events.a
  c_ALPHABET : ∃ u, mg "ALPHABET" = some u ∧ RelV (.str "abcdefghijklmnopqrstuvwxyz") u
  c_MOST_SIGNS : ∃ u, mg "MOST_SIGNS" = some u ∧ RelV (.int 6) u
  c_MOST_STATIONS : ∃ u, mg "MOST_STATIONS" = some u ∧ RelV (.int 4) u
  c_MOST_SOURCES : ∃ u, mg "MOST_SOURCES" = some u ∧ RelV (.int 6) u
  c_MOST_WRONG : ∃ u, mg "MOST_WRONG" = some u ∧ RelV (.int 2) u
  c_MOST_DRIFT : ∃ u, mg "MOST_DRIFT" = some u ∧ RelV (.int 500) u
  c_MOST_EVENTS : ∃ u, mg "MOST_EVENTS" = some u ∧ RelV (.int 30) u
  c_MOST_FACTS : ∃ u, mg "MOST_FACTS" = some u ∧ RelV (.int 3) u
  c_MOST_READING : ∃ u, mg "MOST_READING" = some u ∧ RelV (.int 1000000000) u
  c_MOST_TIME : ∃ u, mg "MOST_TIME" = some u ∧ RelV (.int 1000000000000000) u
  c_MOST_DELAY : ∃ u, mg "MOST_DELAY" = some u ∧ RelV (.int 1000000000000) u
  c_FROM : ∃ u, mg "FROM" = some u ∧ RelV (.str "from") u
  c_SAYS : ∃ u, mg "SAYS" = some u ∧ RelV (.str "says") u
  c_MOMENT : ∃ u, mg "MOMENT" = some u ∧ RelV (.str "moment") u
  c_OTHER : ∃ u, mg "OTHER" = some u ∧ RelV (.str "other") u
  c_ORIGIN : ∃ u, mg "ORIGIN" = some u ∧ RelV (.str "origin") u
  c_EXACT : ∃ u, mg "EXACT" = some u ∧ RelV (.int 1000) u
  z_abs : mg "abs" = none
  z_all : mg "all" = none
  z_bool : mg "bool" = none
  z_dict : mg "dict" = none
  z_divmod : mg "divmod" = none
  z_enumerate : mg "enumerate" = none
  z_int : mg "int" = none
  z_isinstance : mg "isinstance" = none
  z_len : mg "len" = none
  z_list : mg "list" = none
  z_max : mg "max" = none
  z_min : mg "min" = none
  z_range : mg "range" = none
  z_sorted : mg "sorted" = none
  z_str : mg "str" = none
  z_tuple : mg "tuple" = none
  z_zip : mg "zip" = none
end Sw
end
section
set_option maxRecDepth 100000
namespace Sw
open PySem L2
variable [TL]
section
variable {X : Cx} {x : Str} {pos : Pos}
theorem pe_gcV {v : V} (hg : Gl X x) (h : ∃ u, X.mg x = some u ∧ RelV v u) (hd : (x == ("__debug__" : Str)) = false := by decide) : PE X (.Name x pos) (tC v) := by
  obtain ⟨u, e, r⟩ := h
  exact pe_glob hg e r hd
theorem pe_ty {n : String} (hg : Gl X x) (hm : X.mg x = none) (hv : bootBuiltins x = some (.type n)) (hn : x ≠ "__name__" := by decide) (hd : (x == ("__debug__" : Str)) = false := by decide) : PE X (.Name x pos) (tC (.ty n)) := pe_bltn hg hm hv (show RelV (.ty n) (.type n) from rfl) hn hd
theorem pass0n : Passes CX0 X.nox E0 := fun _ _ _ _ _ _ _ h => h.elim
end
structure Dr where
  d : Addr
  l : Addr
  c : Addr
def Dr.has (D : Dr) (b : Addr) : Prop := b = D.d ∨ b = D.l ∨ b = D.c
abbrev kk (s : String) : Key := Sum.inr (Str.ofString s)
def drawK (l c : Addr) (r t m : Int) : List (Key × V) := [(kk "large", .ref l), (kk "cells", .ref c), (kk "rest", .int r), (kk "turn", .int t), (kk "mix", .int m)]
structure DrawAt (H : Hp) (D : Dr) : Prop where
  dict : ∃ r t m, H D.d = some (.dK (drawK D.l D.c r t m)) ∧ 0 ≤ r ∧ 0 ≤ m ∧ m < 2147483629
  large : ∃ ns : List Int, H D.l = some (.lst (ns.map V.int)) ∧ ∀ n ∈ ns, 0 ≤ n
  cells : ∃ ns : List Int, H D.c = some (.lst (ns.map V.int)) ∧ ns.length ≤ 63
  ne2 : D.l ≠ D.c
def Dr.off (D : Dr) (G : Hp) : Prop := ∀ b, D.has b → G b = none
structure Ok (D : Dr) (G H : Hp) : Prop where
  inn : Sub G H
  dr : DrawAt H D
  off : D.off G
theorem DrawAt.ne {H : Hp} {D : Dr} (k : DrawAt H D) {p : Addr} (h : H p = none) : ¬ D.has p := by
  rintro (rfl | rfl | rfl)
  · obtain ⟨_, _, _, e, _⟩ := k.dict; rw [h] at e; cases e
  · obtain ⟨_, e, _⟩ := k.large; rw [h] at e; cases e
  · obtain ⟨_, e, _⟩ := k.cells; rw [h] at e; cases e
theorem DrawAt.nn {H : Hp} {D : Dr} (k : DrawAt H D) {b : Addr} (hb : D.has b) : H b ≠ none := fun h => k.ne h hb
theorem DrawAt.upd {H : Hp} {D : Dr} (k : DrawAt H D) {p : Addr} {o : HO} (h : ¬ D.has p) : DrawAt (upd H p o) D := by
  have n1 : D.d ≠ p := fun z => h (.inl z.symm)
  have n2 : D.l ≠ p := fun z => h (.inr (.inl z.symm))
  have n3 : D.c ≠ p := fun z => h (.inr (.inr z.symm))
  refine ⟨?_, ?_, ?_, k.ne2⟩
  · rw [upd_ne n1]; exact k.dict
  · rw [upd_ne n2]; exact k.large
  · rw [upd_ne n3]; exact k.cells
section
variable {D : Dr} {G H G' H' : Hp} {p : Addr} {o : HO}
theorem Ok.ne (k : Ok D G H) (h : H p = none) : ¬ D.has p := k.dr.ne h
theorem Ok.new (k : Ok D G H) (h : H p = none) : Ok D (upd G p o) (upd H p o) := ⟨k.inn.both, k.dr.upd (k.ne h), fun b hb => by rw [upd_ne fun z => k.ne h (by rw [← z]; exact hb)]; exact k.off b hb⟩
theorem Ok.own (k : Ok D G H) (h : H p = none) : Ok D G (L2.upd H p o) := ⟨k.inn.mut (k.inn.nn h), k.dr.upd (k.ne h), k.off⟩
theorem Ok.set (k : Ok D G H) (hn : ¬ D.has p) (hg : G p = none) : Ok D G (L2.upd H p o) := ⟨k.inn.mut hg, k.dr.upd hn, k.off⟩
theorem Ok.fix (k : Ok D G H) (hn : ¬ D.has p) (h : H p = some o) : Ok D (upd G p o) H := ⟨fun b u e => by
  by_cases q : b = p
  · subst q
    rw [upd_same] at e
    rw [h]
    exact e
  · rw [upd_ne q] at e
    exact k.inn b u e, k.dr, fun b hb => by rw [upd_ne fun z => hn (by rw [← z]; exact hb)]; exact k.off b hb⟩
theorem Ok.pure (k : Ok D G H) (g : Go M0 G H G' H') : Ok D G' H' := by
  refine ⟨g.inn, ⟨?_, ?_, ?_, k.dr.ne2⟩, fun b hb => g.nw b (k.dr.nn hb) (k.off b hb)⟩
  · obtain ⟨r, t, m, e, h⟩ := k.dr.dict
    exact ⟨r, t, m, g.fr _ _ e id (fun _ z => nomatch z), h⟩
  · obtain ⟨r, e, h⟩ := k.dr.large
    exact ⟨r, g.fr _ _ e id (fun _ z => nomatch z), h⟩
  · obtain ⟨r, e, h⟩ := k.dr.cells
    exact ⟨r, g.fr _ _ e id (fun _ z => nomatch z), h⟩
end
theorem kLC : ¬ kk "large" = kk "cells" := by decide +kernel
theorem kLR : ¬ kk "large" = kk "rest" := by decide +kernel
theorem kLT : ¬ kk "large" = kk "turn" := by decide +kernel
theorem kLM : ¬ kk "large" = kk "mix" := by decide +kernel
theorem kCR : ¬ kk "cells" = kk "rest" := by decide +kernel
theorem kCT : ¬ kk "cells" = kk "turn" := by decide +kernel
theorem kCM : ¬ kk "cells" = kk "mix" := by decide +kernel
theorem kRT : ¬ kk "rest" = kk "turn" := by decide +kernel
theorem kRM : ¬ kk "rest" = kk "mix" := by decide +kernel
theorem kTM : ¬ kk "turn" = kk "mix" := by decide +kernel
section
variable (l c : Addr) (r t m x : Int)
theorem draw_large : valV (drawK l c r t m) (kk "large") = some (.ref l) := valV_pos (p := (kk "large", V.ref l)) rfl
theorem draw_cells : valV (drawK l c r t m) (kk "cells") = some (.ref c) := (valV_neg (p := (kk "large", V.ref l)) kLC).trans (valV_pos (p := (kk "cells", V.ref c)) rfl)
theorem draw_rest : valV (drawK l c r t m) (kk "rest") = some (.int r) := (valV_neg (p := (kk "large", V.ref l)) kLR).trans ((valV_neg (p := (kk "cells", V.ref c)) kCR).trans (valV_pos (p := (kk "rest", V.int r)) rfl))
theorem draw_turn : valV (drawK l c r t m) (kk "turn") = some (.int t) := (valV_neg (p := (kk "large", V.ref l)) kLT).trans ((valV_neg (p := (kk "cells", V.ref c)) kCT).trans ((valV_neg (p := (kk "rest", V.int r)) kRT).trans (valV_pos (p := (kk "turn", V.int t)) rfl)))
theorem draw_mix : valV (drawK l c r t m) (kk "mix") = some (.int m) := (valV_neg (p := (kk "large", V.ref l)) kLM).trans ((valV_neg (p := (kk "cells", V.ref c)) kCM).trans ((valV_neg (p := (kk "rest", V.int r)) kRM).trans ((valV_neg (p := (kk "turn", V.int t)) kTM).trans (valV_pos (p := (kk "mix", V.int m)) rfl))))
theorem put_there {kvs : List (Key × V)} {k : Key} (v : V) (h : (valV kvs k).isSome = true) : putK kvs k v = kvs.map fun kv => if kv.1 = k then (kv.1, v) else kv := by
  unfold putK
  rw [if_pos]
  rw [valV_any]
  exact h
theorem draw_put_rest : putK (drawK l c r t m) (kk "rest") (.int x) = drawK l c x t m := by
  rw [put_there _ (by rw [draw_rest]; rfl)]
  unfold drawK
  simp only [List.map_cons, List.map_nil, if_neg kLR, if_neg kCR, if_true, if_neg (Ne.symm kRT), if_neg (Ne.symm kRM)]
theorem draw_put_turn : putK (drawK l c r t m) (kk "turn") (.int x) = drawK l c r x m := by
  rw [put_there _ (by rw [draw_turn]; rfl)]
  unfold drawK
  simp only [List.map_cons, List.map_nil, if_neg kLT, if_neg kCT, if_true, if_neg kRT, if_neg (Ne.symm kTM)]
theorem draw_put_mix : putK (drawK l c r t m) (kk "mix") (.int x) = drawK l c r t x := by
  rw [put_there _ (by rw [draw_mix]; rfl)]
  unfold drawK
  simp only [List.map_cons, List.map_nil, if_neg kLM, if_neg kCM, if_true, if_neg kRM, if_neg kTM]
end
end Sw
end
section
set_option maxRecDepth 100000
namespace Sw
open PySem L2
variable [TL]
section
variable {K : PySem.W.Frag} {σ : L2.St} {H : Hp} {Q : VK} {D : Ends} {t u : TS} {te ta tb tc td ty tx : TE} {c c' : TT} {tr : TA} {g : TG}
theorem x_var {i : Nat} {v : V} (h : σ[i]? = some (some v)) (q : Q v H) : tVar i σ H Q := ⟨v, h, q⟩
theorem x_c {v : V} (q : Q v H) : tC v σ H Q := q
theorem x_seq (h : t { D with nx := u D } σ H) : tSeq t u D σ H := h
theorem x_asg (h : te σ H fun x H1 => g x σ H1 D.nx) : tAsg te g D σ H := h
theorem x_ret (h : te σ H D.rt) : tRet te D σ H := h
theorem x_drop (h : te σ H fun _ H1 => D.nx σ H1) : tDrop te D σ H := h
theorem x_ifS (h : c σ H fun b H1 => if b = true then t D σ H1 else u D σ H1) : tIfS c t u D σ H := h
theorem x_next (h : D.nx σ H) : tNext D σ H := h
theorem x_brk (h : D.bk σ H) : tBreak D σ H := h
theorem x_cont (h : D.ct σ H) : tCont D σ H := h
theorem x_par {i j : Nat} (h : tr σ H fun vs H1 => ∃ v w, vs = [v, w] ∧ D.nx ((σ.set i (some v)).set j (some w)) H1) : tPar i j tr D σ H := h
theorem x_par2 {i j : Nat} {v w : V} {R : L2.St → Hp → Prop} (h : R ((σ.set i (some v)).set j (some w)) H) : ∃ v' w', [v, w] = [v', w'] ∧ R ((σ.set i (some v')).set j (some w')) H := ⟨v, w, rfl, h⟩
theorem x_nil {R : List V → Hp → Prop} (h : R [] H) : tNil σ H R := h
theorem x_cons {R : List V → Hp → Prop} (h : te σ H fun x H1 => tr σ H1 fun xs H2 => R (x :: xs) H2) : tCons te tr σ H R := h
theorem x_op {r : R2} (h : ta σ H fun x H1 => tb σ H1 fun y H2 => r x y H2 Q) : tOp r ta tb σ H Q := h
theorem x_un {r : V → Hp → VK → Prop} (h : ta σ H fun x H1 => r x H1 Q) : tUn r ta σ H Q := h
theorem x_cb {r : List V → Hp → VK → Prop} (h : tr σ H fun vs H1 => r vs H1 Q) : tCB r tr σ H Q := h
theorem x_call {sp : Sp} {dvs : List V} {E : XK} (h : tr σ H fun vs H1 => sp (vs ++ dvs) H1 Q E) : tCall sp dvs E tr σ H Q := h
theorem x_bm {T : String} {r : V → List V → Hp → VK → Prop} (h : ta σ H fun x H1 => tyV K T x H1 ∧ tr σ H1 fun xs H2 => r x xs H2 Q) : tBM K T r ta tr σ H Q := h
theorem x_test {R : Bool → Hp → Prop} (h : te σ H fun x H' => ∃ k, x = .bl k ∧ R k H') : tTest te σ H R := h
theorem x_B {R : Bool → Hp → Prop} (h : te σ H fun x H' => ∃ k, x = .bl k ∧ R k H') : tB te σ H R := h
theorem x_and {R : Bool → Hp → Prop} (h : c σ H fun b H1 => if b = true then c' σ H1 R else R false H1) : tAnd c c' σ H R := h
theorem x_or {R : Bool → Hp → Prop} (h : c σ H fun b H1 => if b = true then R true H1 else c' σ H1 R) : tOr c c' σ H R := h
theorem x_not {R : Bool → Hp → Prop} (h : c σ H fun b H1 => R (!b) H1) : tNot c σ H R := h
theorem x_yes {R : Bool → Hp → Prop} (h : R true H) : tYes σ H R := h
theorem x_andV (h : ta σ H fun x H1 => ∃ c, x = .bl c ∧ if c = true then tb σ H1 Q else Q (.bl false) H1) : tAndV ta tb σ H Q := h
theorem x_notV (h : ta σ H fun x H1 => ∃ c, x = .bl c ∧ Q (.bl (!c)) H1) : tNotV ta σ H Q := h
theorem x_if (h : c σ H fun b H1 => if b = true then ta σ H1 Q else tb σ H1 Q) : tIf c ta tb σ H Q := h
theorem x_chain {r r' : R2} (h : ta σ H fun x H1 => tb σ H1 fun y H2 => r x y H2 fun z H3 => ∃ k, z = .bl k ∧ (if k = true then tc σ H3 fun w' H4 => r' y w' H4 Q else Q (.bl false) H3)) : tChain r r' ta tb tc σ H Q := h
theorem x_tup (h : tr σ H fun xs H1 => xs.length ≤ sizeLine ∧ ∀ p, H1 p = none → Q (.ref p) (upd H1 p (.tup xs))) : tTup tr σ H Q := h
theorem x_lst (h : tr σ H fun xs H1 => xs.length ≤ sizeLine ∧ ∀ p, H1 p = none → Q (.ref p) (upd H1 p (.lst xs))) : tLst tr σ H Q := h
theorem x_fld {f : Str} (h : ta σ H fun x H1 => ∃ a C dx fs v, x = .ref a ∧ H1 a = some (.ins C dx fs) ∧ Cls K C ∧ NoAttr K C f ∧ fs.lookup f = some v ∧ Q v H1) : tFld K ta f σ H Q := h
theorem x_prop {C : Addr} {sp : Sp} {dvs : List V} {E : XK} (h : ta σ H fun x H1 => ∃ a dx fs, x = .ref a ∧ H1 a = some (.ins C dx fs) ∧ sp (.ref a :: dvs) H1 Q E) : tProp C sp dvs E ta σ H Q := h
theorem x_dget (h : td σ H fun x H1 => ty σ H1 fun y H2 => ∃ a v, x = .ref a ∧ DGet H2 a y (some v) ∧ Q v H2) : tDGet td ty σ H Q := h
theorem x_dget1 (h : td σ H fun x H1 => ∃ a, x = .ref a ∧ IsD H1 a ∧ ty σ H1 fun y H2 => ∃ o, DGet H2 a y o ∧ Q (o.getD .non) H2) : tDGet1 td ty σ H Q := h
theorem x_dget2 (h : td σ H fun x H1 => ∃ a, x = .ref a ∧ IsD H1 a ∧ ty σ H1 fun y H2 => tx σ H2 fun z H3 => ∃ o, DGet H3 a y o ∧ Q (o.getD z) H3) : tDGet2 td ty tx σ H Q := h
theorem x_din (h : ty σ H fun y H1 => td σ H1 fun x H2 => ∃ a o, x = .ref a ∧ DGet H2 a y o ∧ Q (.bl o.isSome) H2) : tDIn ty td σ H Q := h
theorem x_dnotin (h : ty σ H fun y H1 => td σ H1 fun x H2 => ∃ a o, x = .ref a ∧ DGet H2 a y o ∧ Q (.bl (!o.isSome)) H2) : tDNotIn ty td σ H Q := h
theorem x_dput (h : te σ H fun v H1 => td σ H1 fun x H2 => ty σ H2 fun y H3 => ∃ a H4, x = .ref a ∧ DPut H3 a y v H4 ∧ D.nx σ H4) : sDPut td ty te D σ H := h
theorem x_dnewK (h : ∀ p, H p = none → Q (.ref p) (upd H p (.dK []))) : tDNewK σ H Q := h
theorem x_dnewT (h : ∀ p, H p = none → Q (.ref p) (upd H p (.dT []))) : tDNewT σ H Q := h
theorem x_sl {r : V → Option Int → Option Int → Hp → VK → Prop} {tl th : TO} (h : te σ H fun x H1 => tl σ H1 fun l H2 => th σ H2 fun u H3 => r x l u H3 Q) : tSl r te tl th σ H Q := h
theorem x_nopart {R : Option Int → Hp → Prop} (h : R none H) : tNoPart σ H R := h
theorem x_part {R : Option Int → Hp → Prop} (h : te σ H fun x H1 => ∃ i, x = .int i ∧ R (some i) H1) : tPart te σ H R := h
theorem x_for {wi : TI} {tb : TS} (h : wi σ H fun J H1 => ∃ W : Nat → Nat → L2.St → Hp → Prop, (∃ m, W 0 m σ H1) ∧ ∀ i m σ H, W i m σ H → (J.stop i H ∧ D.nx σ H) ∨ (J.go i H ∧ ∃ N : L2.St → Hp → Prop, (∀ σ' H', N σ' H' → ∃ m', m' < m ∧ W (i + 1) m' σ' H') ∧ ∀ x H', J.yld i H x H' → g x σ H' fun σ2 H2 => tb { D with nx := N, ct := N, bk := D.nx } σ2 H2)) : tFor wi g tb D σ H := h
theorem x_gName {i : Nat} {v : V} {R : L2.St → Hp → Prop} (h : R (σ.set i (some v)) H) : gName i v σ H R := h
theorem x_gCons {t : TG} {u : TGs} {v : V} {r : List V} {R : L2.St → Hp → Prop} (h : t v σ H fun σ' H' => u r σ' H' R) : gCons t u (v :: r) σ H R := ⟨v, r, rfl, h⟩
theorem x_gNil {R : L2.St → Hp → Prop} (h : R σ H) : gNil [] σ H R := ⟨rfl, h⟩
theorem x_gTup {n : Nat} {t : TGs} {a : Addr} {xs : List V} {R : L2.St → Hp → Prop} (ha : H a = some (.tup xs)) (hl : xs.length = n) (h : t xs σ H R) : gTup K n t (.ref a) σ H R := ⟨a, xs, rfl, SqT.of ha, hl, h⟩
theorem x_gUnl {n : Nat} {t : TGs} {a : Addr} {xs : List V} {R : L2.St → Hp → Prop} (ha : H a = some (.lst xs)) (hl : xs.length = n) (h : t xs σ H R) : gUnl K n t (.ref a) σ H R := ⟨a, xs, rfl, SqL.of ha, hl, h⟩
theorem x_gSub {t : TSet} {v : V} {R : L2.St → Hp → Prop} (h : ta σ H fun o H1 => tb σ H1 fun i H2 => t o i v H2 fun H3 => R σ H3) : gSub ta tb t v σ H R := h
theorem x_iList {R : It → Hp → Prop} (h : te σ H fun x H1 => ∃ a, x = .ref a ∧ (∃ xs, SqL K H1 a xs) ∧ R (Itl K a) H1) : iList K te σ H R := h
theorem x_iTup {R : It → Hp → Prop} (h : te σ H fun x H1 => ∃ a, x = .ref a ∧ (∃ xs, SqT K H1 a xs) ∧ R (Itt K a) H1) : iTup K te σ H R := h
theorem x_iRng1 {R : It → Hp → Prop} (h : tr σ H fun vs H1 => ∃ j : Int, vs = [.int j] ∧ -(2 ^ 62) ≤ j ∧ j < 2 ^ 62 ∧ R (Itr 0 j.toNat) H1) : iRng1 tr σ H R := h
theorem x_iEnum {R : It → Hp → Prop} (h : tr σ H fun vs H1 => ∃ a xs, vs = [.ref a] ∧ SqL K H1 a xs ∧ R (Ite K a) H1) : iEnum K tr σ H R := h
theorem x_iZip {R : It → Hp → Prop} (h : tr σ H fun vs H1 => ∃ a b xs ys, vs = [.ref a, .ref b] ∧ SqL K H1 a xs ∧ SqL K H1 b ys ∧ R (Itz K a b) H1) : iZip K tr σ H R := h
theorem x_iStr {R : It → Hp → Prop} (h : te σ H fun v H1 => ∃ x, v = .str x ∧ R (Its x) H1) : iStr te σ H R := h
theorem x_iKeys {R : It → Hp → Prop} (h : td σ H fun x H1 => ∃ d o, x = .ref d ∧ ((∃ kvs, H1 d = some (.frz o (.dK kvs)) ∧ R (Itk d o kvs) H1) ∨ ∃ kvs, H1 d = some (.frz o (.dT kvs)) ∧ R (Itkt d o kvs) H1)) : iKeys td σ H R := h
theorem x_iItems {R : It → Hp → Prop} (h : td σ H fun x H1 => ∃ d o kvs, x = .ref d ∧ H1 d = some (.frz o (.dK kvs)) ∧ R (Iti d o kvs) H1) : iItems td σ H R := h
-- leaves
theorem l_I0 {f : Int → Int → V} {i j : Int} (q : Q (f i j) H) : rI0 f (.int i) (.int j) H Q := ⟨i, j, rfl, rfl, q⟩
theorem l_I {C : Int → Int → Prop} {f : Int → Int → V} {i j : Int} (hc : C i j) (q : Q (f i j) H) : rI C f (.int i) (.int j) H Q := ⟨i, j, rfl, rfl, hc, q⟩
theorem l_U {f : Int → V} {i : Int} (q : Q (f i) H) : rU f (.int i) H Q := ⟨i, rfl, q⟩
theorem l_eq {x y : V} (h : scal x y = true) (q : Q (.bl (decide (x = y))) H) : rEq x y H Q := ⟨h, q⟩
theorem l_ne {x y : V} (h : scal x y = true) (q : Q (.bl (!decide (x = y))) H) : rNe x y H Q := ⟨h, q⟩
theorem l_bl {b : Bool} {R : Bool → Hp → Prop} (q : R b H) : ∃ k, V.bl b = .bl k ∧ R k H := ⟨b, rfl, q⟩
theorem l_blp {b : Bool} {R : Bool → Prop} (q : R b) : ∃ k, V.bl b = .bl k ∧ R k := ⟨b, rfl, q⟩
theorem l_intp {b : Int} {R : Int → Prop} (q : R b) : ∃ k, V.int b = .int k ∧ R k := ⟨b, rfl, q⟩
theorem l_refp {b : Addr} {R : Addr → Prop} (q : R b) : ∃ k, V.ref b = .ref k ∧ R k := ⟨b, rfl, q⟩
theorem l_strp {b : Str} {R : Str → Prop} (q : R b) : ∃ k, V.str b = .str k ∧ R k := ⟨b, rfl, q⟩
theorem l_dgS {a : Addr} {kvs : List (Key × V)} {k : Str} {v : V} {R : V → Prop} (h : H a = some (.dK kvs)) (hv : valV kvs (.inr k) = some v) (q : R v) : ∃ a' v', V.ref a = .ref a' ∧ DGet H a' (.str k) (some v') ∧ R v' :=
  ⟨a, v, rfl, hv ▸ DGet.k (k := .inr k) h, q⟩
theorem l_dgK {a : Addr} {kvs : List (Key × V)} {k : Key} {v : V} {R : V → Prop} (h : H a = some (.dK kvs)) (hv : valV kvs k = some v) (q : R v) : ∃ a' v', V.ref a = .ref a' ∧ DGet H a' (kV k) (some v') ∧ R v' :=
  ⟨a, v, rfl, hv ▸ DGet.k (k := k) h, q⟩
theorem l_doS {a : Addr} {kvs : List (Key × V)} {k : Str} {R : Option V → Prop} (h : H a = some (.dK kvs)) (q : R (valV kvs (.inr k))) : ∃ o, DGet H a (.str k) o ∧ R o := ⟨_, DGet.k (k := .inr k) h, q⟩
theorem l_doSr {a : Addr} {kvs : List (Key × V)} {k : Str} {R : Option V → Prop} (h : H a = some (.dK kvs)) (q : R (valV kvs (.inr k))) : ∃ a' o, V.ref a = .ref a' ∧ DGet H a' (.str k) o ∧ R o := ⟨a, _, rfl, DGet.k (k := .inr k) h, q⟩
theorem l_dpS {a : Addr} {kvs : List (Key × V)} {k : Str} {v : V} {R : Hp → Prop} (h : H a = some (.dK kvs)) (hl : kvs.length < sizeLine) (q : R (upd H a (.dK (putK kvs (.inr k) v)))) : ∃ a' H', V.ref a = .ref a' ∧ DPut H a' (.str k) v H' ∧ R H' :=
  ⟨a, _, rfl, DPut.k (k := .inr k) h hl, q⟩
theorem l_dpK {a : Addr} {kvs : List (Key × V)} {k : Key} {v : V} {R : Hp → Prop} (h : H a = some (.dK kvs)) (hl : kvs.length < sizeLine) (q : R (upd H a (.dK (putK kvs k v)))) : ∃ a' H', V.ref a = .ref a' ∧ DPut H a' (kV k) v H' ∧ R H' :=
  ⟨a, _, rfl, DPut.k (k := k) h hl, q⟩
theorem l_setS {a : Addr} {kvs : List (Key × V)} {k : Str} {v : V} {R : Hp → Prop} (h : H a = some (.dK kvs)) (hl : kvs.length < sizeLine) (q : R (upd H a (.dK (putK kvs (.inr k) v)))) : rSetD (.ref a) (.str k) v H R :=
  ⟨a, _, rfl, DPut.k (k := .inr k) h hl, q⟩
theorem l_tyL {l : Addr} {xs : List V} {R : Prop} (h : H l = some (.lst xs)) (q : R) : tyV K "list" (.ref l) H ∧ R := ⟨.inl ⟨rfl, _, SqL.of h⟩, q⟩
theorem l_app {l : Addr} {xs : List V} {y : V} (h : H l = some (.lst xs)) (hl : xs.length < sizeLine) (q : Q .non (upd H l (.lst (xs ++ [y])))) : rAppend (.ref l) [y] H Q := ⟨l, xs, y, rfl, rfl, h, hl, q⟩
theorem l_ext {l b : Addr} {xs ys : List V} (h : H l = some (.lst xs)) (h' : H b = some (.lst ys)) (hl : xs.length + ys.length ≤ sizeLine) (q : Q .non (upd H l (.lst (xs ++ ys)))) : rExtend (.ref l) [.ref b] H Q := ⟨l, b, xs, ys, rfl, rfl, h, h', hl, q⟩
theorem l_ixL {p : Addr} {xs : List V} {i : Int} {v : V} (h : H p = some (.lst xs)) (hi : atI xs i = some v) (q : Q v H) : rIxL K (.ref p) (.int i) H Q := ⟨p, xs, i, v, rfl, rfl, SqL.of h, hi, q⟩
theorem l_ixT {p : Addr} {xs : List V} {i : Int} {v : V} (h : H p = some (.tup xs)) (hi : atI xs i = some v) (q : Q v H) : rIxT K (.ref p) (.int i) H Q := ⟨p, xs, i, v, rfl, rfl, SqT.of h, hi, q⟩
theorem l_cat {l b : Addr} {xs ys : List V} (h : H l = some (.lst xs)) (h' : H b = some (.lst ys)) (hl : xs.length + ys.length ≤ sizeLine) (q : ∀ p, H p = none → Q (.ref p) (upd H p (.lst (xs ++ ys)))) : rCat (.ref l) (.ref b) H Q := ⟨l, b, xs, ys, rfl, rfl, h, h', hl, q⟩
theorem l_new {xs : List V} {R : Prop} (h : xs.length ≤ 1000) (q : R) : xs.length ≤ sizeLine ∧ R := ⟨Nat.le_trans h (by decide), q⟩
theorem l_iT {A B : Prop} (h : A) : if true = true then A else B := iteT h
theorem l_iF {A B : Prop} (h : B) : if false = true then A else B := iteF h
theorem l_if {b : Bool} {A B : Prop} (h1 : b = true → A) (h2 : b = false → B) : if b = true then A else B := by
  cases b with
  | true => exact iteT (h1 rfl)
  | false => exact iteF (h2 rfl)
theorem l_ifd {p A B : Prop} [Decidable p] (h1 : p → A) (h2 : ¬ p → B) : if decide p = true then A else B := l_if (fun z => h1 (of_decide_eq_true z)) fun z => h2 (of_decide_eq_false z)
theorem l_ifn {p A B : Prop} [Decidable p] (h1 : ¬ p → A) (h2 : p → B) : if (!decide p) = true then A else B := by
  by_cases h : p
  · rw [decide_eq_true h]
    exact iteF (h2 h)
  · rw [decide_eq_false h]
    exact iteT (h1 h)
end
end Sw
end
section
set_option maxRecDepth 100000
namespace Sw
open PySem L2
variable [TL]
def Pln (o : HO) : Prop := (∀ ps, o ≠ .tbl ps) ∧ ∀ φ, o ≠ .ext φ
structure Sta (M : Addr → Prop) (D : Option Dr) (G0 H0 G H : Hp) (L : List (Addr × HO)) : Prop where
  go : Go M G0 H0 G H
  own : ∀ x ∈ L, H x.1 = some x.2 ∧ G x.1 = none ∧ (M x.1 ∨ H0 x.1 = none) ∧ Pln x.2
  nd : (L.map Prod.fst).Nodup
  dr : ∀ d, D = some d → DrawAt H d ∧ d.off G ∧ (∀ b, d.has b → M b) ∧ ∀ x ∈ L, ¬ d.has x.1
section
variable {M : Addr → Prop} {D : Option Dr} {d : Dr} {G0 H0 G H G' H' : Hp} {L : List (Addr × HO)} {p : Addr} {o u : HO} {i : Nat}
theorem nd_get {L : List (Addr × HO)} (h : (L.map Prod.fst).Nodup) {i j : Nat} {p : Addr} {o u : HO} (hi : L[i]? = some (p, o)) (hj : L[j]? = some (p, u)) : i = j := by
  have a : (L.map Prod.fst)[i]? = some p := by rw [List.getElem?_map, hi]; rfl
  have b : (L.map Prod.fst)[j]? = some p := by rw [List.getElem?_map, hj]; rfl
  have l1 := (List.getElem?_eq_some_iff.mp a).1
  have l2 := (List.getElem?_eq_some_iff.mp b).1
  have w := List.pairwise_iff_getElem.mp h
  have a2 := (List.getElem?_eq_some_iff.mp a).2
  have b2 := (List.getElem?_eq_some_iff.mp b).2
  rcases Nat.lt_trichotomy i j with k | k | k
  · exact absurd (a2.trans b2.symm) (w i j l1 l2 k)
  · exact k
  · exact absurd (b2.trans a2.symm) (w j i l2 l1 k)
theorem Sta.at (S : Sta M D G0 H0 G H L) (hi : L[i]? = some (p, o)) : H p = some o := (S.own _ (List.mem_of_getElem? hi)).1
theorem Sta.off (S : Sta M D G0 H0 G H L) (hi : L[i]? = some (p, o)) : G p = none := (S.own _ (List.mem_of_getElem? hi)).2.1
theorem Sta.inn (S : Sta M D G0 H0 G H L) : Sub G H := S.go.inn
theorem Sta.sub (S : Sta M D G0 H0 G H L) : Sub G0 G := S.go.sub
theorem Sta.isin (S : Sta M D G0 H0 G H L) (h : G p = some o) : H p = some o := S.go.inn p o h
theorem Sta.ok (S : Sta M (some d) G0 H0 G H L) : Ok d G H := ⟨S.go.inn, (S.dr d rfl).1, (S.dr d rfl).2.1⟩
theorem Sta.new (S : Sta M D G0 H0 G H L) (h : H p = none) (hp : Pln o) : Sta M D G0 H0 (upd G p o) (upd H p o) L where
  go := S.go.new h hp.1
  own := fun x hx => by
    obtain ⟨a, b, c, e⟩ := S.own x hx
    refine ⟨upd_old h a, ?_, c, e⟩
    rw [upd_ne (ne_of_none a h)]
    exact b
  nd := S.nd
  dr := fun d e => by
    obtain ⟨a, b, c, f⟩ := S.dr d e
    exact ⟨a.upd (a.ne h), fun q hq => by rw [upd_ne fun z => a.ne h (by rw [← z]; exact hq)]; exact b q hq, c, f⟩
theorem Sta.mine (S : Sta M D G0 H0 G H L) (h : H p = none) (hp : Pln o) : Sta M D G0 H0 G (upd H p o) ((p, o) :: L) where
  go := S.go.own h
  own := fun x hx => by
    rcases List.mem_cons.mp hx with rfl | hx
    · refine ⟨upd_same, S.go.inn.nn h, .inr ?_, hp⟩
      cases e : H0 p with
      | none => rfl
      | some z => exact absurd h (S.go.dm p (by rw [e]; exact fun z => nomatch z))
    · obtain ⟨a, b, c, e⟩ := S.own x hx
      exact ⟨upd_old h a, b, c, e⟩
  nd := by
    show (p :: L.map Prod.fst).Nodup
    refine List.nodup_cons.mpr ⟨fun z => ?_, S.nd⟩
    obtain ⟨x, hx, rfl⟩ := List.mem_map.mp z
    rw [(S.own x hx).1] at h
    cases h
  dr := fun d e => by
    obtain ⟨a, b, c, f⟩ := S.dr d e
    refine ⟨a.upd (a.ne h), b, c, fun x hx => ?_⟩
    rcases List.mem_cons.mp hx with rfl | hx
    · exact a.ne h
    · exact f x hx
theorem Sta.set (S : Sta M D G0 H0 G H L) (hi : L[i]? = some (p, u)) (hp : Pln o) : Sta M D G0 H0 G (upd H p o) (L.set i (p, o)) := by
  obtain ⟨a, b, c, e⟩ := S.own _ (List.mem_of_getElem? hi)
  have hl := (List.getElem?_eq_some_iff.mp hi).1
  refine ⟨S.go.set a e.1 e.2 b c, fun x hx => ?_, ?_, fun d e => ?_⟩
  · obtain ⟨j, hj⟩ := List.getElem?_of_mem hx
    rw [List.getElem?_set] at hj
    by_cases q : i = j
    · rw [if_pos q, if_pos hl] at hj
      cases hj
      exact ⟨upd_same, b, c, hp⟩
    · rw [if_neg q] at hj
      obtain ⟨a', b', c', e'⟩ := S.own _ (List.mem_of_getElem? hj)
      have hx : x.1 ≠ p := fun z => q (nd_get S.nd hi (u := x.2) (by rw [hj, ← z]))
      exact ⟨by rw [upd_ne hx]; exact a', b', c', e'⟩
  · have : (L.set i (p, o)).map Prod.fst = L.map Prod.fst := by
      rw [List.map_set]
      refine List.ext_getElem? fun j => ?_
      rw [List.getElem?_set]
      by_cases q : i = j
      · subst q
        rw [if_pos rfl, List.getElem?_map, hi]
        simp [hl]
      · rw [if_neg q]
    rw [this]
    exact S.nd
  · obtain ⟨a', b', c', f'⟩ := S.dr d e
    have hn : ¬ d.has p := f' _ (List.mem_of_getElem? hi)
    refine ⟨a'.upd hn, b', c', fun x hx => ?_⟩
    rcases List.mem_or_eq_of_mem_set hx with hx | rfl
    · exact f' x hx
    · exact hn
theorem Sta.fewer (S : Sta M D G0 H0 G H L) {L' : List (Addr × HO)} (h : L'.Sublist L) : Sta M D G0 H0 G H L' :=
  ⟨S.go, fun x hx => S.own x (h.subset hx), List.Nodup.sublist (h.map _) S.nd, fun d e => let ⟨a, b, c, f⟩ := S.dr d e; ⟨a, b, c, fun x hx => f x (h.subset hx)⟩⟩
theorem Sta.drop (S : Sta M D G0 H0 G H L) (i : Nat) : Sta M D G0 H0 G H (L.eraseIdx i) := S.fewer (List.eraseIdx_sublist L i)
theorem Sta.done (S : Sta M D G0 H0 G H L) : Sta M D G0 H0 G H [] := S.fewer (List.nil_sublist L)
theorem Sta.fix (S : Sta M D G0 H0 G H L) (hi : L[i]? = some (p, o)) (hn : ¬ M p) : Sta M D G0 H0 (upd G p o) H (L.eraseIdx i) := by
  obtain ⟨a, b, c, e⟩ := S.own _ (List.mem_of_getElem? hi)
  refine ⟨S.go.fix a (c.resolve_left hn) b e.1, fun x hx => ?_, (S.drop i).nd, fun d q => ?_⟩
  · obtain ⟨j, hj⟩ := List.getElem?_of_mem hx
    have hx' := (List.eraseIdx_sublist L i).subset hx
    obtain ⟨a', b', c', e'⟩ := S.own x hx'
    refine ⟨a', ?_, c', e'⟩
    have hl := (List.getElem?_eq_some_iff.mp hi).1
    have : x.1 ≠ p := fun z => by
      rw [List.getElem?_eraseIdx] at hj
      by_cases q : j < i
      · rw [if_pos q] at hj
        have := nd_get S.nd hi (j := j) (u := x.2) (by rw [hj, ← z])
        omega
      · rw [if_neg q] at hj
        have := nd_get S.nd hi (j := j + 1) (u := x.2) (by rw [hj, ← z])
        omega
    rw [upd_ne this]
    exact b'
  · obtain ⟨a', b', c', f'⟩ := S.dr d q
    exact ⟨a', fun z hz => by rw [upd_ne fun y => hn (c' p (by rw [← y]; exact hz))]; exact b' z hz, c', fun x hx => f' x ((List.eraseIdx_sublist L i).subset hx)⟩
theorem Sta.call (S : Sta M D G0 H0 G H L) (g : Go M0 G H G' H') : Sta M D G0 H0 G' H' L where
  go := S.go.then0 g
  own := fun x hx => let ⟨a, b, c, e⟩ := S.own x hx; ⟨g.fr _ _ a id e.1, g.nw _ (by rw [a]; exact fun z => nomatch z) b, c, e⟩
  nd := S.nd
  dr := fun d e => by
    obtain ⟨a, b, c, f⟩ := S.dr d e
    have k := (⟨S.go.inn, a, b⟩ : Ok d G H).pure g
    exact ⟨k.dr, k.off, c, f⟩
theorem Sta.callD (S : Sta M (some d) G0 H0 G H L) (g : Go d.has G H G' H') (k : Ok d G' H') : Sta M (some d) G0 H0 G' H' L := by
  obtain ⟨a, b, c, f⟩ := S.dr d rfl
  exact ⟨S.go.trans g fun x hx => .inl (c x hx), fun x hx => let ⟨a, b, c, e⟩ := S.own x hx; ⟨g.fr _ _ a (f x hx) e.1, g.nw _ (by rw [a]; exact fun z => nomatch z) b, c, e⟩, S.nd, fun d' e => by cases e; exact ⟨k.dr, k.off, c, f⟩⟩
theorem Sta.callM (S : Sta M D G0 H0 G H L) (hi : L[i]? = some (p, u)) (g : Go (· = p) G H G' H') (e : H' p = some o) (hp : Pln o) : Sta M D G0 H0 G' H' (L.set i (p, o)) := by
  obtain ⟨a1, b1, c1, e1⟩ := S.own _ (List.mem_of_getElem? hi)
  have hl := (List.getElem?_eq_some_iff.mp hi).1
  have go : Go M G0 H0 G' H' := S.go.trans g fun x hx => by
    have hx : x = p := hx
    subst hx
    exact c1
  have own : ∀ x ∈ L, x.1 ≠ p → H' x.1 = some x.2 ∧ G' x.1 = none ∧ (M x.1 ∨ H0 x.1 = none) ∧ Pln x.2 := fun x hx hn => let ⟨a, b, c, e⟩ := S.own x hx; ⟨g.fr _ _ a hn e.1, g.nw _ (by rw [a]; exact fun z => nomatch z) b, c, e⟩
  have S2 := S.set hi hp (o := o)
  refine ⟨go, fun x hx => ?_, S2.nd, fun d q => ?_⟩
  · obtain ⟨j, hj⟩ := List.getElem?_of_mem hx
    rw [List.getElem?_set] at hj
    by_cases q : i = j
    · rw [if_pos q, if_pos hl] at hj
      cases hj
      exact ⟨e, g.nw _ (by rw [a1]; exact fun z => nomatch z) b1, c1, hp⟩
    · rw [if_neg q] at hj
      exact own x (List.mem_of_getElem? hj) fun z => q (nd_get S.nd hi (u := x.2) (by rw [hj, ← z]))
  · obtain ⟨a', b', c', f'⟩ := S.dr d q
    have hn : ∀ b, d.has b → b ≠ p := fun b hb z => f' _ (List.mem_of_getElem? hi) (by rw [← z]; exact hb)
    refine ⟨⟨?_, ?_, ?_, a'.ne2⟩, fun b hb => g.nw _ (a'.nn hb) (b' b hb), c', (S2.dr d q).2.2.2⟩
    · obtain ⟨r, t, m, z, k⟩ := a'.dict
      exact ⟨r, t, m, g.fr _ _ z (hn _ (.inl rfl)) (fun _ z => nomatch z), k⟩
    · obtain ⟨r, z, k⟩ := a'.large
      exact ⟨r, g.fr _ _ z (hn _ (.inr (.inl rfl))) (fun _ z => nomatch z), k⟩
    · obtain ⟨r, z, k⟩ := a'.cells
      exact ⟨r, g.fr _ _ z (hn _ (.inr (.inr rfl))) (fun _ z => nomatch z), k⟩
theorem Sta.start (s : Sub G H) : Sta M0 none G H G H [] := ⟨.refl s, fun x hx => (nomatch hx), .nil, fun d e => (nomatch e)⟩
theorem Sta.startD (k : Ok d G H) : Sta d.has (some d) G H G H [] := ⟨.refl k.inn, fun x hx => (nomatch hx), .nil, fun d' e => by cases e; exact ⟨k.dr, k.off, fun _ h => h, fun x hx => (nomatch hx)⟩⟩
theorem Sta.startM (s : Sub G H) (h : H p = some o) (hg : G p = none) (hp : Pln o) : Sta (· = p) none G H G H [(p, o)] := ⟨.refl s, fun x hx => by
  rw [List.mem_singleton.mp hx]
  exact ⟨h, hg, .inl rfl, hp⟩, by simp, fun d e => nomatch e⟩
/-- an age: which one is the other one's -/
theorem Sta.ne (S : Sta M D G0 H0 G H L) {j : Nat} {q : Addr} (hi : L[i]? = some (p, o)) (hj : L[j]? = some (q, u)) (h : i ≠ j) : p ≠ q := fun z => by
  subst z
  exact h (nd_get S.nd hi hj)
theorem Sta.startA (k : Ok d G H) : ∃ (r t m : Int) (ns cs : List Int), Sta d.has none G H G H [(d.d, .dK (drawK d.l d.c r t m)), (d.l, .lst (ns.map V.int)), (d.c, .lst (cs.map V.int))] ∧ 0 ≤ r ∧ 0 ≤ m ∧ m < 2147483629 ∧ (∀ n ∈ ns, 0 ≤ n) ∧ cs.length ≤ 63 := by
  obtain ⟨r, t, m, e1, h⟩ := k.dr.dict
  obtain ⟨ns, e2, h2⟩ := k.dr.large
  obtain ⟨cs, e3, h3⟩ := k.dr.cells
  have n1 : d.d ≠ d.l := fun z => by rw [z, e2] at e1; cases e1
  have n2 : d.d ≠ d.c := fun z => by rw [z, e3] at e1; cases e1
  have n3 := k.dr.ne2
  refine ⟨r, t, m, ns, cs, ⟨.refl k.inn, fun x hx => ?_, by simp [n1, n2, n3], fun d e => (nomatch e)⟩, h.1, h.2.1, h.2.2, h2, h3⟩
  rcases List.mem_cons.mp hx with rfl | hx
  · exact ⟨e1, k.off _ (.inl rfl), .inl (.inl rfl), fun _ z => (nomatch z), fun _ z => (nomatch z)⟩
  rcases List.mem_cons.mp hx with rfl | hx
  · exact ⟨e2, k.off _ (.inr (.inl rfl)), .inl (.inr (.inl rfl)), fun _ z => (nomatch z), fun _ z => (nomatch z)⟩
  · rw [List.mem_singleton.mp hx]
    exact ⟨e3, k.off _ (.inr (.inr rfl)), .inl (.inr (.inr rfl)), fun _ z => (nomatch z), fun _ z => (nomatch z)⟩
theorem Sta.endA {r t m : Int} {ns cs : List Int} (hi : L = [(d.d, .dK (drawK d.l d.c r t m)), (d.l, .lst (ns.map V.int)), (d.c, .lst (cs.map V.int))]) (S : Sta M D G0 H0 G H L) (h1 : 0 ≤ r) (h2 : 0 ≤ m) (h3 : m < 2147483629) (h4 : ∀ n ∈ ns, 0 ≤ n) (h5 : cs.length ≤ 63) : Ok d G H := by
  subst hi
  refine ⟨S.inn, ⟨⟨r, t, m, S.at (i := 0) rfl, h1, h2, h3⟩, ⟨ns, S.at (i := 1) rfl, h4⟩, ⟨cs, S.at (i := 2) rfl, h5⟩, S.ne (i := 1) (j := 2) rfl rfl (by decide)⟩, ?_⟩
  rintro b (rfl | rfl | rfl)
  · exact S.off (i := 0) rfl
  · exact S.off (i := 1) rfl
  · exact S.off (i := 2) rfl
theorem Sta.notD (S : Sta d.has (some d) G0 H0 G H L) (hi : L[i]? = some (p, o)) : ¬ d.has p := (S.dr d rfl).2.2.2 _ (List.mem_of_getElem? hi)
theorem Sta.fixD (S : Sta d.has (some d) G0 H0 G H L) (i : Nat) (hi : L[i]? = some (p, o)) : ∃ G', Sub G G' ∧ Sta d.has (some d) G0 H0 G' H (L.eraseIdx i) ∧ G' p = some o :=
  ⟨_, Sub.new (S.off hi), S.fix hi (S.notD hi), upd_same⟩
theorem Sta.fix0 (S : Sta M0 D G0 H0 G H L) (i : Nat) (hi : L[i]? = some (p, o)) : ∃ G', Sub G G' ∧ Sta M0 D G0 H0 G' H (L.eraseIdx i) ∧ G' p = some o :=
  ⟨_, Sub.new (S.off hi), S.fix hi id, upd_same⟩
theorem Sta.fixM (S : Sta M D G0 H0 G H L) (i : Nat) (hi : L[i]? = some (p, o)) (hn : ¬ M p) : ∃ G', Sub G G' ∧ Sta M D G0 H0 G' H (L.eraseIdx i) ∧ G' p = some o :=
  ⟨_, Sub.new (S.off hi), S.fix hi hn, upd_same⟩
theorem Sub.to (s : Sub G G') (h : G p = some o) : G' p = some o := s p o h
end
def New (Q : VK) (o : HO) (H : Hp) : Prop := ∀ p, H p = none → Q (.ref p) (upd H p o)
section
variable {M : Addr → Prop} {D : Option Dr} {d : Dr} {G0 H0 G H G' H' : Hp} {L : List (Addr × HO)} {p : Addr} {o u : HO} {Q : VK} {σ : L2.St} {K : PySem.W.Frag}
theorem n_fix (S : Sta M D G0 H0 G H L) (h : ∀ p G' H', Sub G G' → Sta M D G0 H0 G' H' L → G' p = some o → Q (.ref p) H') (hp : Pln o := by exact ⟨fun _ z => (nomatch z), fun _ z => (nomatch z)⟩) : New Q o H :=
  fun p hn => h p _ _ (Sub.new (S.inn.nn hn)) (S.new hn hp) upd_same
theorem n_own (S : Sta M D G0 H0 G H L) (h : ∀ p H', Sta M D G0 H0 G H' ((p, o) :: L) → Q (.ref p) H') (hp : Pln o := by exact ⟨fun _ z => (nomatch z), fun _ z => (nomatch z)⟩) : New Q o H :=
  fun p hn => h p _ (S.mine hn hp)
theorem xs_tup {tr : TA} (h : tr σ H fun xs H1 => xs.length ≤ sizeLine ∧ New Q (.tup xs) H1) : tTup tr σ H Q := h
theorem xs_lst {tr : TA} (h : tr σ H fun xs H1 => xs.length ≤ sizeLine ∧ New Q (.lst xs) H1) : tLst tr σ H Q := h
theorem xs_dnewK (h : New Q (.dK []) H) : tDNewK σ H Q := h
theorem xs_dnewT (h : New Q (.dT []) H) : tDNewT σ H Q := h
theorem ls_cat {l b : Addr} {xs ys : List V} (h : H l = some (.lst xs)) (h' : H b = some (.lst ys)) (hl : xs.length + ys.length ≤ 1000) (q : New Q (.lst (xs ++ ys)) H) : rCat (.ref l) (.ref b) H Q := ⟨l, b, xs, ys, rfl, rfl, h, h', Nat.le_trans hl (by decide), q⟩
theorem ls_slL {a : Addr} {xs : List V} {lo hi : Option Int} (h : H a = some (.lst xs)) (q : New Q (.lst (cutV xs lo hi)) H) : rSlL K (.ref a) lo hi H Q := ⟨a, xs, rfl, SqL.of h, q⟩
theorem ls_app {l : Addr} {xs : List V} {y : V} (S : Sta M D G0 H0 G H L) (i : Nat) (hi : L[i]? = some (l, .lst xs)) (hl : xs.length ≤ 1000) (q : ∀ H', Sta M D G0 H0 G H' (L.set i (l, .lst (xs ++ [y]))) → Q .non H') : rAppend (.ref l) [y] H Q :=
  ⟨l, xs, y, rfl, rfl, S.at hi, Nat.lt_of_le_of_lt hl (by decide), q _ (S.set hi ⟨fun _ z => (nomatch z), fun _ z => (nomatch z)⟩)⟩
theorem ls_ext {l b : Addr} {xs ys : List V} (S : Sta M D G0 H0 G H L) (i : Nat) (hi : L[i]? = some (l, .lst xs)) (hb : H b = some (.lst ys)) (hl : xs.length + ys.length ≤ 1000) (q : ∀ H', Sta M D G0 H0 G H' (L.set i (l, .lst (xs ++ ys))) → Q .non H') : rExtend (.ref l) [.ref b] H Q :=
  ⟨l, b, xs, ys, rfl, rfl, S.at hi, hb, Nat.le_trans hl (by decide), q _ (S.set hi ⟨fun _ z => (nomatch z), fun _ z => (nomatch z)⟩)⟩
theorem ls_putK {l : Addr} {xs : List (Key × V)} {v : V} {k : Key} {R : Hp → Prop} (S : Sta M D G0 H0 G H L) (i : Nat) (hi : L[i]? = some (l, .dK xs)) (hl : xs.length ≤ 1000) (q : ∀ H', Sta M D G0 H0 G H' (L.set i (l, .dK (putK xs k v))) → R H') : ∃ a H', V.ref l = .ref a ∧ DPut H a (kV k) v H' ∧ R H' :=
  ⟨l, _, rfl, DPut.k (S.at hi) (Nat.lt_of_le_of_lt hl (by decide)), q _ (S.set hi ⟨fun _ z => (nomatch z), fun _ z => (nomatch z)⟩)⟩
theorem ls_putS {l : Addr} {xs : List (Key × V)} {v : V} {k : Str} {R : Hp → Prop} (S : Sta M D G0 H0 G H L) (i : Nat) (hi : L[i]? = some (l, .dK xs)) (hl : xs.length ≤ 1000) (q : ∀ H', Sta M D G0 H0 G H' (L.set i (l, .dK (putK xs (.inr k) v))) → R H') : ∃ a H', V.ref l = .ref a ∧ DPut H a (.str k) v H' ∧ R H' := ls_putK (k := .inr k) S i hi hl q
end
/-- a plain function: what it is given, what it answers -/
def Pur {α : Type} (args : Hp → List V → α → Prop) (out : Hp → Hp → α → V → Prop) : Sp := fun vs H Q _ => ∃ (a : α) (G : Hp), Sub G H ∧ args G vs a ∧ ∀ G' H' v, Go M0 G H G' H' → out G' H' a v → Q v H'
/-- .. that draws -/
def Drw {α : Type} (args : Hp → List V → α → Prop) (out : Hp → Hp → α → V → Prop) : Sp := fun vs H Q _ => ∃ (a : α) (G : Hp) (D : Dr) (ws : List V), vs = .ref D.d :: ws ∧ Ok D G H ∧ args G ws a ∧ ∀ G' H' v, Go D.has G H G' H' → Ok D G' H' → out G' H' a v → Q v H'
section
variable {M : Addr → Prop} {D : Option Dr} {d : Dr} {G0 H0 G H G' H' : Hp} {L : List (Addr × HO)} {Q : VK} {E : XK} {α : Type} {args : Hp → List V → α → Prop} {out : Hp → Hp → α → V → Prop} {vs : List V}
theorem c_pur (S : Sta M D G0 H0 G H L) (a : α) (h : args G vs a) (q : ∀ G' H' v, Sub G G' → Sta M D G0 H0 G' H' L → out G' H' a v → Q v H') : Pur args out vs H Q E :=
  ⟨a, G, S.inn, h, fun G' H' v g o => q G' H' v g.sub (S.call g) o⟩
theorem c_drw (S : Sta M (some d) G0 H0 G H L) (a : α) (h : args G vs a) (q : ∀ G' H' v, Sub G G' → Sta M (some d) G0 H0 G' H' L → out G' H' a v → Q v H') : Drw args out (.ref d.d :: vs) H Q E :=
  ⟨a, G, d, vs, rfl, S.ok, h, fun G' H' v g k o => q G' H' v g.sub (S.callD g k) o⟩
end
/-- .. that read what the caller has of its own -/
def PurH {α : Type} (args : Hp → Hp → List V → α → Prop) (out : Hp → Hp → α → V → Prop) : Sp := fun vs H Q _ => ∃ (a : α) (G : Hp), Sub G H ∧ args G H vs a ∧ ∀ G' H' v, Go M0 G H G' H' → out G' H' a v → Q v H'
def DrwH {α : Type} (args : Dr → Hp → Hp → List V → α → Prop) (out : Hp → Hp → α → V → Prop) : Sp := fun vs H Q _ => ∃ (a : α) (G : Hp) (D : Dr) (ws : List V), vs = .ref D.d :: ws ∧ Ok D G H ∧ args D G H ws a ∧ ∀ G' H' v, Go D.has G H G' H' → Ok D G' H' → out G' H' a v → Q v H'
section
variable {M : Addr → Prop} {D : Option Dr} {d : Dr} {G0 H0 G H G' H' : Hp} {L : List (Addr × HO)} {Q : VK} {E : XK} {α : Type} {args : Hp → Hp → List V → α → Prop} {out : Hp → Hp → α → V → Prop} {vs : List V}
theorem c_purH (S : Sta M D G0 H0 G H L) (a : α) (h : args G H vs a) (q : ∀ G' H' v, Sub G G' → Sta M D G0 H0 G' H' L → out G' H' a v → Q v H') : PurH args out vs H Q E :=
  ⟨a, G, S.inn, h, fun G' H' v g o => q G' H' v g.sub (S.call g) o⟩
theorem c_drwH {args : Dr → Hp → Hp → List V → α → Prop} (S : Sta M (some d) G0 H0 G H L) (a : α) (h : args d G H vs a) (q : ∀ G' H' v, Sub G G' → Sta M (some d) G0 H0 G' H' L → out G' H' a v → Q v H') : DrwH args out (.ref d.d :: vs) H Q E :=
  ⟨a, G, d, vs, rfl, S.ok, h, fun G' H' v g k o => q G' H' v g.sub (S.callD g k) o⟩
end
end Sw
end
section
set_option maxRecDepth 100000
namespace Sw
open PySem L2
variable [TL]
section
variable {M : Addr → Prop} {D : Option Dr} {d : Dr} {G0 H0 G H G' H' : Hp} {L : List (Addr × HO)} {p a : Addr} {o u : HO} {Q : VK} {σ : L2.St} {K : PySem.W.Frag}
theorem Sta.newE (S : Sta M D G0 H0 G H L) (h : H p = none) (e : H' = upd H p o) (hp : Pln o := by exact ⟨fun _ z => (nomatch z), fun _ z => (nomatch z)⟩) : ∃ G', Sub G G' ∧ Sta M D G0 H0 G' H' L ∧ G' p = some o :=
  ⟨_, Sub.new (S.inn.nn h), by rw [e]; exact S.new h hp, upd_same⟩
theorem Sta.mineE (S : Sta M D G0 H0 G H L) (h : H p = none) (e : H' = upd H p o) (hp : Pln o := by exact ⟨fun _ z => (nomatch z), fun _ z => (nomatch z)⟩) : Sta M D G0 H0 G H' ((p, o) :: L) := by
  rw [e]
  exact S.mine h hp
def ForB (J : It) (g : TG) (tb : TS) (D : Ends) (σ : L2.St) (H : Hp) : Prop := ∃ W : Nat → Nat → L2.St → Hp → Prop, (∃ m, W 0 m σ H) ∧ ∀ i m σ H, W i m σ H → (J.stop i H ∧ D.nx σ H) ∨ (J.go i H ∧ ∃ N : L2.St → Hp → Prop, (∀ σ' H', N σ' H' → ∃ m', m' < m ∧ W (i + 1) m' σ' H') ∧ ∀ x H', J.yld i H x H' → g x σ H' fun σ2 H2 => tb { D with nx := N, ct := N, bk := D.nx } σ2 H2)
theorem xs_for {wi : TI} {g : TG} {tb : TS} {D : Ends} (h : wi σ H fun J H1 => ForB J g tb D σ H1) : tFor wi g tb D σ H := h
section
variable {J : It} {g : TG} {tb : TS} {E : Ends}
theorem for_n (n : Nat) (inv : Nat → L2.St → Hp → Prop) (h0 : inv 0 σ H) (stop : ∀ σ H, inv n σ H → J.stop n H ∧ E.nx σ H)
    (go : ∀ i σ H, i < n → inv i σ H → J.go i H ∧ ∀ x H', J.yld i H x H' → g x σ H' fun σ2 H2 => tb { E with nx := inv (i + 1), ct := inv (i + 1), bk := E.nx } σ2 H2) : ForB J g tb E σ H := by
  refine ⟨fun i m σ H => m = n - i ∧ i ≤ n ∧ inv i σ H, ⟨n, rfl, Nat.zero_le _, h0⟩, ?_⟩
  rintro i m σ H ⟨rfl, hi, hv⟩
  by_cases q : i = n
  · subst q
    exact .inl (stop σ H hv)
  · obtain ⟨h1, h2⟩ := go i σ H (by omega) hv
    exact .inr ⟨h1, inv (i + 1), fun σ' H' h => ⟨n - (i + 1), by omega, rfl, by omega, h⟩, h2⟩
theorem for_l {xs : List V} (inv : Nat → L2.St → Hp → Prop) (h0 : inv 0 σ H) (rd : ∀ i σ H, inv i σ H → H a = some (.lst xs)) (fin : ∀ σ H, inv xs.length σ H → E.nx σ H)
    (step : ∀ i v σ H, xs[i]? = some v → inv i σ H → g v σ H fun σ2 H2 => tb { E with nx := inv (i + 1), ct := inv (i + 1), bk := E.nx } σ2 H2) : ForB (Itl K a) g tb E σ H :=
  for_n xs.length inv h0 (fun σ H h => ⟨⟨xs, SqL.of (rd _ σ H h), Nat.le_refl _⟩, fin σ H h⟩) fun i σ H hi h =>
    ⟨⟨xs, xs[i], SqL.of (rd _ σ H h), List.getElem?_eq_getElem hi⟩, fun x H' y => by
      obtain ⟨rfl, q⟩ := y
      exact step i x σ _ (q xs (SqL.of (rd _ σ _ h))) h⟩
theorem for_t {xs : List V} (inv : Nat → L2.St → Hp → Prop) (h0 : inv 0 σ H) (rd : ∀ i σ H, inv i σ H → H a = some (.tup xs)) (fin : ∀ σ H, inv xs.length σ H → E.nx σ H)
    (step : ∀ i v σ H, xs[i]? = some v → inv i σ H → g v σ H fun σ2 H2 => tb { E with nx := inv (i + 1), ct := inv (i + 1), bk := E.nx } σ2 H2) : ForB (Itt K a) g tb E σ H :=
  for_n xs.length inv h0 (fun σ H h => ⟨⟨xs, SqT.of (rd _ σ H h), Nat.le_refl _⟩, fin σ H h⟩) fun i σ H hi h =>
    ⟨⟨xs, xs[i], SqT.of (rd _ σ H h), List.getElem?_eq_getElem hi⟩, fun x H' y => by
      obtain ⟨rfl, q⟩ := y
      exact step i x σ _ (q xs (SqT.of (rd _ σ _ h))) h⟩
theorem for_r {n : Nat} {lo : Int} (inv : Nat → L2.St → Hp → Prop) (h0 : inv 0 σ H) (fin : ∀ σ H, inv n σ H → E.nx σ H)
    (step : ∀ (i : Nat) σ H, i < n → inv i σ H → g (.int (lo + i)) σ H fun σ2 H2 => tb { E with nx := inv (i + 1), ct := inv (i + 1), bk := E.nx } σ2 H2) : ForB (Itr lo n) g tb E σ H :=
  for_n n inv h0 (fun σ H h => ⟨Nat.le_refl _, fin σ H h⟩) fun i σ H hi h => ⟨hi, fun x H' y => by
    obtain ⟨rfl, rfl⟩ := y
    exact step i σ _ hi h⟩
theorem for_e {xs : List V} (inv : Nat → L2.St → Hp → Prop) (h0 : inv 0 σ H) (rd : ∀ i σ H, inv i σ H → H a = some (.lst xs)) (fin : ∀ σ H, inv xs.length σ H → E.nx σ H)
    (step : ∀ (i : Nat) v T σ H H', xs[i]? = some v → inv i σ H → H T = none → H' = upd H T (.tup [.int (i : Nat), v]) → g (.ref T) σ H' fun σ2 H2 => tb { E with nx := inv (i + 1), ct := inv (i + 1), bk := E.nx } σ2 H2) : ForB (Ite K a) g tb E σ H :=
  for_n xs.length inv h0 (fun σ H h => ⟨⟨xs, SqL.of (rd _ σ H h), Nat.le_refl _⟩, fin σ H h⟩) fun i σ H hi h =>
    ⟨⟨xs, xs[i], SqL.of (rd _ σ H h), List.getElem?_eq_getElem hi⟩, fun v H' y => by
      obtain ⟨T, x, rfl, hT, e, q⟩ := y
      exact step i x T σ H H' (q xs (SqL.of (rd _ σ _ h))) h hT e⟩
theorem for_z {xs ys : List V} {b : Addr} (inv : Nat → L2.St → Hp → Prop) (h0 : inv 0 σ H) (rd : ∀ i σ H, inv i σ H → H a = some (.lst xs) ∧ H b = some (.lst ys)) (fin : ∀ σ H, inv (min xs.length ys.length) σ H → E.nx σ H)
    (step : ∀ (i : Nat) v w T σ H H', xs[i]? = some v → ys[i]? = some w → inv i σ H → H T = none → H' = upd H T (.tup [v, w]) → g (.ref T) σ H' fun σ2 H2 => tb { E with nx := inv (i + 1), ct := inv (i + 1), bk := E.nx } σ2 H2) : ForB (Itz K a b) g tb E σ H :=
  for_n (min xs.length ys.length) inv h0 (fun σ H h => ⟨⟨xs, ys, SqL.of (rd _ σ H h).1, SqL.of (rd _ σ H h).2, by omega⟩, fin σ H h⟩) fun i σ H hi h =>
    ⟨⟨xs, ys, xs[i], ys[i], SqL.of (rd _ σ H h).1, SqL.of (rd _ σ H h).2, List.getElem?_eq_getElem (by omega), List.getElem?_eq_getElem (by omega)⟩, fun v H' y => by
      obtain ⟨T, x, z, rfl, hT, e, q, q'⟩ := y
      exact step i x z T σ H H' (q xs (SqL.of (rd _ σ _ h).1)) (q' ys (SqL.of (rd _ σ _ h).2)) h hT e⟩
theorem for_i {kvs : List (Key × V)} {od : Obj} (inv : Nat → L2.St → Hp → Prop) (h0 : inv 0 σ H) (rd : ∀ i σ H, inv i σ H → H a = some (.frz od (.dK kvs))) (fin : ∀ σ H, inv kvs.length σ H → E.nx σ H)
    (step : ∀ (i : Nat) k v T σ H H', kvs[i]? = some (k, v) → inv i σ H → H T = none → H' = upd H T (.tup [kV k, v]) → g (.ref T) σ H' fun σ2 H2 => tb { E with nx := inv (i + 1), ct := inv (i + 1), bk := E.nx } σ2 H2) : ForB (Iti a od kvs) g tb E σ H :=
  for_n kvs.length inv h0 (fun σ H h => ⟨⟨rd _ σ H h, Nat.le_refl _⟩, fin σ H h⟩) fun i σ H hi h =>
    ⟨⟨rd _ σ H h, hi⟩, fun v H' y => by
      obtain ⟨T, k, x, q, rfl, hT, e⟩ := y
      exact step i k x T σ H H' q h hT e⟩
end
def LcB (J : It) (g : TG) (tt : TT) (te : TE) (vs : List Nat) (σ : L2.St) (Q : VK) (H1 : Hp) : Prop := ∀ D, H1 D = none → ∃ W : Nat → Nat → Hp → Prop, (∃ m, W 0 m (upd H1 D (.lst []))) ∧ ∀ i m H, W i m H →
  (J.stop i H ∧ Q (.ref D) H) ∨ (J.go i H ∧ ∃ Nx : Hp → Prop, (∀ H', Nx H' → ∃ m', m' < m ∧ W (i + 1) m' H') ∧ ∀ x H', J.yld i H x H' → g x (wipe σ vs) H' fun σ2 H2 => wipe σ2 vs = wipe σ vs ∧ tt σ2 H2 fun b H3 =>
    if b = true then te σ2 H3 fun y H4 => ∃ acc, H4 D = some (.lst acc) ∧ acc.length < sizeLine ∧ Nx (upd H4 D (.lst (acc ++ [y]))) else Nx H3)
theorem xs_lc {wi : TI} {g : TG} {tt : TT} {te : TE} {vs : List Nat} (h : wi σ H fun J H1 => LcB J g tt te vs σ Q H1) : tLc wi g tt te vs σ H Q := h
theorem xs_yes {R : Bool → Hp → Prop} (h : R true H) : tYes σ H R := h
/-- a turn's end: the list stands at what the turns have made -/
def LcP (M : Addr → Prop) (D : Option Dr) (G0 H0 G : Hp) (L : List (Addr × HO)) (l : Addr) (k : Nat) (inv : Hp → List V → Prop) (H : Hp) : Prop := ∃ G1 acc, acc.length ≤ k ∧ Sub G G1 ∧ Sta M D G0 H0 G1 H ((l, .lst acc) :: L) ∧ inv G1 acc
def LcN (M : Addr → Prop) (D : Option Dr) (G0 H0 G : Hp) (L : List (Addr × HO)) (l : Addr) (k : Nat) (inv : Hp → List V → Prop) : VK := fun y H4 => ∃ acc, H4 l = some (.lst acc) ∧ acc.length < sizeLine ∧ LcP M D G0 H0 G L l k inv (upd H4 l (.lst (acc ++ [y])))
theorem lc_in {G1 : Hp} {l : Addr} {k : Nat} {inv : Hp → List V → Prop} {acc : List V} {y : V} (s : Sub G G1) (S : Sta M D G0 H0 G1 H ((l, .lst acc) :: L)) (hl : acc.length < k) (hk : k ≤ 1000) (h : inv G1 (acc ++ [y])) : LcN M D G0 H0 G L l k inv y H :=
  ⟨acc, S.at (i := 0) rfl, Nat.lt_of_lt_of_le hl (Nat.le_trans hk (by decide)), G1, acc ++ [y], by simp; omega, s, S.set (i := 0) rfl ⟨fun _ z => (nomatch z), fun _ z => (nomatch z)⟩, h⟩
theorem lc_out {G1 : Hp} {l : Addr} {k : Nat} {inv : Hp → List V → Prop} {acc : List V} (s : Sub G G1) (S : Sta M D G0 H0 G1 H ((l, .lst acc) :: L)) (hl : acc.length ≤ k) (h : inv G1 acc) : LcP M D G0 H0 G L l k inv H := ⟨G1, acc, hl, s, S, h⟩
section
variable {J : It} {g : TG} {tt : TT} {te : TE} {vs : List Nat}
theorem lc_n (S : Sta M D G0 H0 G H L) (n : Nat) (inv : Nat → Hp → List V → Prop) (h0 : inv 0 G [])
    (stop : ∀ l G1 H1 acc, Sub G G1 → Sta M D G0 H0 G1 H1 ((l, .lst acc) :: L) → acc.length ≤ n → inv n G1 acc → J.stop n H1 ∧ Q (.ref l) H1)
    (go : ∀ i l G1 H1 acc, i < n → Sub G G1 → Sta M D G0 H0 G1 H1 ((l, .lst acc) :: L) → acc.length ≤ i → inv i G1 acc → J.go i H1 ∧ ∀ x H2, J.yld i H1 x H2 →
      g x (wipe σ vs) H2 fun σ2 H2 => wipe σ2 vs = wipe σ vs ∧ tt σ2 H2 fun b H3 => if b = true then te σ2 H3 (LcN M D G0 H0 G L l (i + 1) (inv (i + 1))) else LcP M D G0 H0 G L l (i + 1) (inv (i + 1)) H3) : LcB J g tt te vs σ Q H := by
  intro l hl
  refine ⟨fun i m H1 => m = n - i ∧ i ≤ n ∧ LcP M D G0 H0 G L l i (inv i) H1, ⟨n, rfl, Nat.zero_le _, G, [], Nat.le_refl _, Sub.rfl' _, S.mine hl ⟨fun _ z => (nomatch z), fun _ z => (nomatch z)⟩, h0⟩, ?_⟩
  rintro i m H1 ⟨rfl, hi, G1, acc, ha, s1, S1, hv⟩
  by_cases q : i = n
  · subst q
    exact .inl (stop l G1 H1 acc s1 S1 ha hv)
  · obtain ⟨h1, h2⟩ := go i l G1 H1 acc (by omega) s1 S1 ha hv
    exact .inr ⟨h1, LcP M D G0 H0 G L l (i + 1) (inv (i + 1)), fun H' h => ⟨n - (i + 1), by omega, rfl, by omega, h⟩, h2⟩
theorem lc_l {xs : List V} (S : Sta M D G0 H0 G H L) (inv : Nat → Hp → List V → Prop) (h0 : inv 0 G [])
    (rd : ∀ G1 H1 x, Sub G G1 → Sta M D G0 H0 G1 H1 (x :: L) → H1 a = some (.lst xs))
    (stop : ∀ l G1 H1 acc, Sub G G1 → Sta M D G0 H0 G1 H1 ((l, .lst acc) :: L) → acc.length ≤ xs.length → inv xs.length G1 acc → Q (.ref l) H1)
    (step : ∀ i v l G1 H1 acc, xs[i]? = some v → Sub G G1 → Sta M D G0 H0 G1 H1 ((l, .lst acc) :: L) → acc.length ≤ i → inv i G1 acc →
      g v (wipe σ vs) H1 fun σ2 H2 => wipe σ2 vs = wipe σ vs ∧ tt σ2 H2 fun b H3 => if b = true then te σ2 H3 (LcN M D G0 H0 G L l (i + 1) (inv (i + 1))) else LcP M D G0 H0 G L l (i + 1) (inv (i + 1)) H3) : LcB (Itl K a) g tt te vs σ Q H :=
  lc_n S xs.length inv h0 (fun l G1 H1 acc s1 S1 ha hv => ⟨⟨xs, SqL.of (rd _ _ _ s1 S1), Nat.le_refl _⟩, stop l G1 H1 acc s1 S1 ha hv⟩) fun i l G1 H1 acc hi s1 S1 ha hv =>
    ⟨⟨xs, xs[i], SqL.of (rd _ _ _ s1 S1), List.getElem?_eq_getElem hi⟩, fun x H2 y => by
      obtain ⟨rfl, q⟩ := y
      exact step i x l G1 _ acc (q xs (SqL.of (rd _ _ _ s1 S1))) s1 S1 ha hv⟩
theorem lc_t {xs : List V} (S : Sta M D G0 H0 G H L) (inv : Nat → Hp → List V → Prop) (h0 : inv 0 G [])
    (rd : ∀ G1 H1 x, Sub G G1 → Sta M D G0 H0 G1 H1 (x :: L) → H1 a = some (.tup xs))
    (stop : ∀ l G1 H1 acc, Sub G G1 → Sta M D G0 H0 G1 H1 ((l, .lst acc) :: L) → acc.length ≤ xs.length → inv xs.length G1 acc → Q (.ref l) H1)
    (step : ∀ i v l G1 H1 acc, xs[i]? = some v → Sub G G1 → Sta M D G0 H0 G1 H1 ((l, .lst acc) :: L) → acc.length ≤ i → inv i G1 acc →
      g v (wipe σ vs) H1 fun σ2 H2 => wipe σ2 vs = wipe σ vs ∧ tt σ2 H2 fun b H3 => if b = true then te σ2 H3 (LcN M D G0 H0 G L l (i + 1) (inv (i + 1))) else LcP M D G0 H0 G L l (i + 1) (inv (i + 1)) H3) : LcB (Itt K a) g tt te vs σ Q H :=
  lc_n S xs.length inv h0 (fun l G1 H1 acc s1 S1 ha hv => ⟨⟨xs, SqT.of (rd _ _ _ s1 S1), Nat.le_refl _⟩, stop l G1 H1 acc s1 S1 ha hv⟩) fun i l G1 H1 acc hi s1 S1 ha hv =>
    ⟨⟨xs, xs[i], SqT.of (rd _ _ _ s1 S1), List.getElem?_eq_getElem hi⟩, fun x H2 y => by
      obtain ⟨rfl, q⟩ := y
      exact step i x l G1 _ acc (q xs (SqT.of (rd _ _ _ s1 S1))) s1 S1 ha hv⟩
theorem lc_r {n : Nat} {lo : Int} (S : Sta M D G0 H0 G H L) (inv : Nat → Hp → List V → Prop) (h0 : inv 0 G [])
    (stop : ∀ l G1 H1 acc, Sub G G1 → Sta M D G0 H0 G1 H1 ((l, .lst acc) :: L) → acc.length ≤ n → inv n G1 acc → Q (.ref l) H1)
    (step : ∀ (i : Nat) l G1 H1 acc, i < n → Sub G G1 → Sta M D G0 H0 G1 H1 ((l, .lst acc) :: L) → acc.length ≤ i → inv i G1 acc →
      g (.int (lo + i)) (wipe σ vs) H1 fun σ2 H2 => wipe σ2 vs = wipe σ vs ∧ tt σ2 H2 fun b H3 => if b = true then te σ2 H3 (LcN M D G0 H0 G L l (i + 1) (inv (i + 1))) else LcP M D G0 H0 G L l (i + 1) (inv (i + 1)) H3) : LcB (Itr lo n) g tt te vs σ Q H :=
  lc_n S n inv h0 (fun l G1 H1 acc s1 S1 ha hv => ⟨Nat.le_refl _, stop l G1 H1 acc s1 S1 ha hv⟩) fun i l G1 H1 acc hi s1 S1 ha hv =>
    ⟨hi, fun x H2 y => by
      obtain ⟨rfl, rfl⟩ := y
      exact step i l G1 _ acc hi s1 S1 ha hv⟩
theorem lc_s {x : Str} (S : Sta M D G0 H0 G H L) (inv : Nat → Hp → List V → Prop) (h0 : inv 0 G [])
    (stop : ∀ l G1 H1 acc, Sub G G1 → Sta M D G0 H0 G1 H1 ((l, .lst acc) :: L) → acc.length ≤ x.cps.size → inv x.cps.size G1 acc → Q (.ref l) H1)
    (step : ∀ i c l G1 H1 acc, x.cps[i]? = some c → Sub G G1 → Sta M D G0 H0 G1 H1 ((l, .lst acc) :: L) → acc.length ≤ i → inv i G1 acc →
      g (.str ⟨#[c]⟩) (wipe σ vs) H1 fun σ2 H2 => wipe σ2 vs = wipe σ vs ∧ tt σ2 H2 fun b H3 => if b = true then te σ2 H3 (LcN M D G0 H0 G L l (i + 1) (inv (i + 1))) else LcP M D G0 H0 G L l (i + 1) (inv (i + 1)) H3) : LcB (Its x) g tt te vs σ Q H :=
  lc_n S x.cps.size inv h0 (fun l G1 H1 acc s1 S1 ha hv => ⟨Nat.le_refl _, stop l G1 H1 acc s1 S1 ha hv⟩) fun i l G1 H1 acc hi s1 S1 ha hv =>
    ⟨hi, fun y H2 z => by
      obtain ⟨rfl, c, q, rfl⟩ := z
      exact step i c l G1 _ acc q s1 S1 ha hv⟩
theorem lc_e {xs : List V} (S : Sta M D G0 H0 G H L) (inv : Nat → Hp → List V → Prop) (h0 : inv 0 G [])
    (rd : ∀ G1 H1 x, Sub G G1 → Sta M D G0 H0 G1 H1 (x :: L) → H1 a = some (.lst xs))
    (stop : ∀ l G1 H1 acc, Sub G G1 → Sta M D G0 H0 G1 H1 ((l, .lst acc) :: L) → acc.length ≤ xs.length → inv xs.length G1 acc → Q (.ref l) H1)
    (step : ∀ (i : Nat) v T l G1 H1 H2 acc, xs[i]? = some v → Sub G G1 → Sta M D G0 H0 G1 H1 ((l, .lst acc) :: L) → acc.length ≤ i → inv i G1 acc → H1 T = none → H2 = upd H1 T (.tup [.int (i : Nat), v]) →
      g (.ref T) (wipe σ vs) H2 fun σ2 H2 => wipe σ2 vs = wipe σ vs ∧ tt σ2 H2 fun b H3 => if b = true then te σ2 H3 (LcN M D G0 H0 G L l (i + 1) (inv (i + 1))) else LcP M D G0 H0 G L l (i + 1) (inv (i + 1)) H3) : LcB (Ite K a) g tt te vs σ Q H :=
  lc_n S xs.length inv h0 (fun l G1 H1 acc s1 S1 ha hv => ⟨⟨xs, SqL.of (rd _ _ _ s1 S1), Nat.le_refl _⟩, stop l G1 H1 acc s1 S1 ha hv⟩) fun i l G1 H1 acc hi s1 S1 ha hv =>
    ⟨⟨xs, xs[i], SqL.of (rd _ _ _ s1 S1), List.getElem?_eq_getElem hi⟩, fun v H2 y => by
      obtain ⟨T, x, rfl, hT, e, q⟩ := y
      exact step i x T l G1 H1 H2 acc (q xs (SqL.of (rd _ _ _ s1 S1))) s1 S1 ha hv hT e⟩
theorem lc_i {kvs : List (Key × V)} {od : Obj} (S : Sta M D G0 H0 G H L) (inv : Nat → Hp → List V → Prop) (h0 : inv 0 G [])
    (rd : ∀ G1 H1 x, Sub G G1 → Sta M D G0 H0 G1 H1 (x :: L) → H1 a = some (.frz od (.dK kvs)))
    (stop : ∀ l G1 H1 acc, Sub G G1 → Sta M D G0 H0 G1 H1 ((l, .lst acc) :: L) → acc.length ≤ kvs.length → inv kvs.length G1 acc → Q (.ref l) H1)
    (step : ∀ (i : Nat) k v T l G1 H1 H2 acc, kvs[i]? = some (k, v) → Sub G G1 → Sta M D G0 H0 G1 H1 ((l, .lst acc) :: L) → acc.length ≤ i → inv i G1 acc → H1 T = none → H2 = upd H1 T (.tup [kV k, v]) →
      g (.ref T) (wipe σ vs) H2 fun σ2 H2 => wipe σ2 vs = wipe σ vs ∧ tt σ2 H2 fun b H3 => if b = true then te σ2 H3 (LcN M D G0 H0 G L l (i + 1) (inv (i + 1))) else LcP M D G0 H0 G L l (i + 1) (inv (i + 1)) H3) : LcB (Iti a od kvs) g tt te vs σ Q H :=
  lc_n S kvs.length inv h0 (fun l G1 H1 acc s1 S1 ha hv => ⟨⟨rd _ _ _ s1 S1, Nat.le_refl _⟩, stop l G1 H1 acc s1 S1 ha hv⟩) fun i l G1 H1 acc hi s1 S1 ha hv =>
    ⟨⟨rd _ _ _ s1 S1, hi⟩, fun v H2 y => by
      obtain ⟨T, k, x, q, rfl, hT, e⟩ := y
      exact step i k x T l G1 H1 H2 acc q s1 S1 ha hv hT e⟩
theorem lc_k {kvs : List (Key × V)} {od : Obj} (S : Sta M D G0 H0 G H L) (inv : Nat → Hp → List V → Prop) (h0 : inv 0 G [])
    (rd : ∀ G1 H1 x, Sub G G1 → Sta M D G0 H0 G1 H1 (x :: L) → H1 a = some (.frz od (.dK kvs)))
    (stop : ∀ l G1 H1 acc, Sub G G1 → Sta M D G0 H0 G1 H1 ((l, .lst acc) :: L) → acc.length ≤ kvs.length → inv kvs.length G1 acc → Q (.ref l) H1)
    (step : ∀ (i : Nat) k v l G1 H1 acc, kvs[i]? = some (k, v) → Sub G G1 → Sta M D G0 H0 G1 H1 ((l, .lst acc) :: L) → acc.length ≤ i → inv i G1 acc →
      g (kV k) (wipe σ vs) H1 fun σ2 H2 => wipe σ2 vs = wipe σ vs ∧ tt σ2 H2 fun b H3 => if b = true then te σ2 H3 (LcN M D G0 H0 G L l (i + 1) (inv (i + 1))) else LcP M D G0 H0 G L l (i + 1) (inv (i + 1)) H3) : LcB (Itk a od kvs) g tt te vs σ Q H :=
  lc_n S kvs.length inv h0 (fun l G1 H1 acc s1 S1 ha hv => ⟨⟨rd _ _ _ s1 S1, Nat.le_refl _⟩, stop l G1 H1 acc s1 S1 ha hv⟩) fun i l G1 H1 acc hi s1 S1 ha hv =>
    ⟨⟨rd _ _ _ s1 S1, hi⟩, fun v H2 y => by
      obtain ⟨rfl, k, x, q, rfl⟩ := y
      exact step i k x l G1 _ acc q s1 S1 ha hv⟩
end
def DcB (J : It) (g : TG) (tt : TT) (tk tv : TE) (vs : List Nat) (σ : L2.St) (Q : VK) (H1 : Hp) : Prop := ∀ D, H1 D = none → ∃ W : Nat → Nat → Hp → Prop, (∃ m, W 0 m (upd H1 D (.dK []))) ∧ ∀ i m H, W i m H →
  (J.stop i H ∧ Q (.ref D) H) ∨ (J.go i H ∧ ∃ Nx : Hp → Prop, (∀ H', Nx H' → ∃ m', m' < m ∧ W (i + 1) m' H') ∧ ∀ x H', J.yld i H x H' → g x (wipe σ vs) H' fun σ2 H2 => wipe σ2 vs = wipe σ vs ∧ tt σ2 H2 fun b H3 =>
    if b = true then tk σ2 H3 fun y H4 => tv σ2 H4 fun z H5 => ∃ kvs k, y = kV k ∧ H5 D = some (.dK kvs) ∧ kvs.length < sizeLine ∧ Nx (upd H5 D (.dK (putK kvs k z))) else Nx H3)
theorem xs_dc {wi : TI} {g : TG} {tt : TT} {tk tv : TE} {vs : List Nat} (h : wi σ H fun J H1 => DcB J g tt tk tv vs σ Q H1) : tDc wi g tt tk tv vs σ H Q := h
def DcP (M : Addr → Prop) (D : Option Dr) (G0 H0 G : Hp) (L : List (Addr × HO)) (l : Addr) (k : Nat) (inv : Hp → List (Key × V) → Prop) (H : Hp) : Prop := ∃ G1 acc, acc.length ≤ k ∧ Sub G G1 ∧ Sta M D G0 H0 G1 H ((l, .dK acc) :: L) ∧ inv G1 acc
def DcN (M : Addr → Prop) (D : Option Dr) (G0 H0 G : Hp) (L : List (Addr × HO)) (l : Addr) (k : Nat) (inv : Hp → List (Key × V) → Prop) (y z : V) (H5 : Hp) : Prop := ∃ kvs k', y = kV k' ∧ H5 l = some (.dK kvs) ∧ kvs.length < sizeLine ∧ DcP M D G0 H0 G L l k inv (upd H5 l (.dK (putK kvs k' z)))
theorem putK_len (kvs : List (Key × V)) (k : Key) (v : V) : (putK kvs k v).length ≤ kvs.length + 1 := by
  unfold putK
  split
  · rw [List.length_map]; omega
  · rw [List.length_append]; exact Nat.le_refl _
theorem dc_in {G1 : Hp} {l : Addr} {k : Nat} {inv : Hp → List (Key × V) → Prop} {acc : List (Key × V)} {k' : Key} {z : V} (s : Sub G G1) (S : Sta M D G0 H0 G1 H ((l, .dK acc) :: L)) (hl : acc.length < k) (hk : k ≤ 1000) (h : inv G1 (putK acc k' z)) : DcN M D G0 H0 G L l k inv (kV k') z H :=
  ⟨acc, k', rfl, S.at (i := 0) rfl, Nat.lt_of_lt_of_le hl (Nat.le_trans hk (by decide)), G1, _, Nat.le_trans (putK_len acc k' z) hl, s, S.set (i := 0) rfl ⟨fun _ z => (nomatch z), fun _ z => (nomatch z)⟩, h⟩
theorem dc_inS {G1 : Hp} {l : Addr} {k : Nat} {inv : Hp → List (Key × V) → Prop} {acc : List (Key × V)} {k' : Str} {z : V} (s : Sub G G1) (S : Sta M D G0 H0 G1 H ((l, .dK acc) :: L)) (hl : acc.length < k) (hk : k ≤ 1000) (h : inv G1 (putK acc (.inr k') z)) : DcN M D G0 H0 G L l k inv (.str k') z H := dc_in (k' := .inr k') s S hl hk h
section
variable {J : It} {g : TG} {tt : TT} {tk tv : TE} {vs : List Nat}
theorem dc_n (S : Sta M D G0 H0 G H L) (n : Nat) (inv : Nat → Hp → List (Key × V) → Prop) (h0 : inv 0 G [])
    (stop : ∀ l G1 H1 acc, Sub G G1 → Sta M D G0 H0 G1 H1 ((l, .dK acc) :: L) → acc.length ≤ n → inv n G1 acc → J.stop n H1 ∧ Q (.ref l) H1)
    (go : ∀ i l G1 H1 acc, i < n → Sub G G1 → Sta M D G0 H0 G1 H1 ((l, .dK acc) :: L) → acc.length ≤ i → inv i G1 acc → J.go i H1 ∧ ∀ x H2, J.yld i H1 x H2 →
      g x (wipe σ vs) H2 fun σ2 H2 => wipe σ2 vs = wipe σ vs ∧ tt σ2 H2 fun b H3 => if b = true then tk σ2 H3 fun y H4 => tv σ2 H4 fun z H5 => DcN M D G0 H0 G L l (i + 1) (inv (i + 1)) y z H5 else DcP M D G0 H0 G L l (i + 1) (inv (i + 1)) H3) : DcB J g tt tk tv vs σ Q H := by
  intro l hl
  refine ⟨fun i m H1 => m = n - i ∧ i ≤ n ∧ DcP M D G0 H0 G L l i (inv i) H1, ⟨n, rfl, Nat.zero_le _, G, [], Nat.le_refl _, Sub.rfl' _, S.mine hl ⟨fun _ z => (nomatch z), fun _ z => (nomatch z)⟩, h0⟩, ?_⟩
  rintro i m H1 ⟨rfl, hi, G1, acc, ha, s1, S1, hv⟩
  by_cases q : i = n
  · subst q
    exact .inl (stop l G1 H1 acc s1 S1 ha hv)
  · obtain ⟨h1, h2⟩ := go i l G1 H1 acc (by omega) s1 S1 ha hv
    exact .inr ⟨h1, DcP M D G0 H0 G L l (i + 1) (inv (i + 1)), fun H' h => ⟨n - (i + 1), by omega, rfl, by omega, h⟩, h2⟩
theorem dc_l {xs : List V} (S : Sta M D G0 H0 G H L) (inv : Nat → Hp → List (Key × V) → Prop) (h0 : inv 0 G [])
    (rd : ∀ G1 H1 x, Sub G G1 → Sta M D G0 H0 G1 H1 (x :: L) → H1 a = some (.lst xs))
    (stop : ∀ l G1 H1 acc, Sub G G1 → Sta M D G0 H0 G1 H1 ((l, .dK acc) :: L) → acc.length ≤ xs.length → inv xs.length G1 acc → Q (.ref l) H1)
    (step : ∀ i v l G1 H1 acc, xs[i]? = some v → Sub G G1 → Sta M D G0 H0 G1 H1 ((l, .dK acc) :: L) → acc.length ≤ i → inv i G1 acc →
      g v (wipe σ vs) H1 fun σ2 H2 => wipe σ2 vs = wipe σ vs ∧ tt σ2 H2 fun b H3 => if b = true then tk σ2 H3 fun y H4 => tv σ2 H4 fun z H5 => DcN M D G0 H0 G L l (i + 1) (inv (i + 1)) y z H5 else DcP M D G0 H0 G L l (i + 1) (inv (i + 1)) H3) : DcB (Itl K a) g tt tk tv vs σ Q H :=
  dc_n S xs.length inv h0 (fun l G1 H1 acc s1 S1 ha hv => ⟨⟨xs, SqL.of (rd _ _ _ s1 S1), Nat.le_refl _⟩, stop l G1 H1 acc s1 S1 ha hv⟩) fun i l G1 H1 acc hi s1 S1 ha hv =>
    ⟨⟨xs, xs[i], SqL.of (rd _ _ _ s1 S1), List.getElem?_eq_getElem hi⟩, fun x H2 y => by
      obtain ⟨rfl, q⟩ := y
      exact step i x l G1 _ acc (q xs (SqL.of (rd _ _ _ s1 S1))) s1 S1 ha hv⟩
theorem dc_t {xs : List V} (S : Sta M D G0 H0 G H L) (inv : Nat → Hp → List (Key × V) → Prop) (h0 : inv 0 G [])
    (rd : ∀ G1 H1 x, Sub G G1 → Sta M D G0 H0 G1 H1 (x :: L) → H1 a = some (.tup xs))
    (stop : ∀ l G1 H1 acc, Sub G G1 → Sta M D G0 H0 G1 H1 ((l, .dK acc) :: L) → acc.length ≤ xs.length → inv xs.length G1 acc → Q (.ref l) H1)
    (step : ∀ i v l G1 H1 acc, xs[i]? = some v → Sub G G1 → Sta M D G0 H0 G1 H1 ((l, .dK acc) :: L) → acc.length ≤ i → inv i G1 acc →
      g v (wipe σ vs) H1 fun σ2 H2 => wipe σ2 vs = wipe σ vs ∧ tt σ2 H2 fun b H3 => if b = true then tk σ2 H3 fun y H4 => tv σ2 H4 fun z H5 => DcN M D G0 H0 G L l (i + 1) (inv (i + 1)) y z H5 else DcP M D G0 H0 G L l (i + 1) (inv (i + 1)) H3) : DcB (Itt K a) g tt tk tv vs σ Q H :=
  dc_n S xs.length inv h0 (fun l G1 H1 acc s1 S1 ha hv => ⟨⟨xs, SqT.of (rd _ _ _ s1 S1), Nat.le_refl _⟩, stop l G1 H1 acc s1 S1 ha hv⟩) fun i l G1 H1 acc hi s1 S1 ha hv =>
    ⟨⟨xs, xs[i], SqT.of (rd _ _ _ s1 S1), List.getElem?_eq_getElem hi⟩, fun x H2 y => by
      obtain ⟨rfl, q⟩ := y
      exact step i x l G1 _ acc (q xs (SqT.of (rd _ _ _ s1 S1))) s1 S1 ha hv⟩
end
end
end Sw
end
section
set_option autoImplicit false
namespace Sh
section
variable {α : Type} [DecidableEq α]
abbrev Con (α : Type) := (α × α) × Int
def Runs (E : List (Con α)) (t : α → Int) : Prop := ∀ e ∈ E, t e.1.2 ≤ t e.1.1 + e.2
def ClosedFrom (E : List (Con α)) (D : α → Option Int) : Prop := ∀ e ∈ E, ∀ d, D e.1.1 = some d → ∃ d', D e.1.2 = some d' ∧ d' ≤ d + e.2
theorem bound_all {β : Type} (f : β → Int) : ∀ l : List β, ∃ M : Int, ∀ x ∈ l, f x ≤ M
  | [] => ⟨0, fun _ h => nomatch h⟩
  | a :: l => by
    obtain ⟨M, h⟩ := bound_all f l
    refine ⟨max M (f a), fun x hx => ?_⟩
    rcases List.mem_cons.mp hx with rfl | hx
    · exact Int.le_max_right _ _
    · exact Int.le_trans (h x hx) (Int.le_max_left _ _)
def least : List (Option Int) → Option Int
  | [] => none
  | none :: r => least r
  | some a :: r => match least r with
    | none => some a
    | some b => some (min a b)
theorem least_le : ∀ (l : List (Option Int)) (a : Int), some a ∈ l → ∃ m, least l = some m ∧ m ≤ a
  | [], _, h => nomatch h
  | none :: r, a, h => by
    have h' : some a ∈ r := by simpa using h
    exact least_le r a h'
  | some c :: r, a, h => by
    unfold least
    rcases List.mem_cons.mp h with e | h'
    · cases e
      cases least r with
      | none => exact ⟨_, rfl, Int.le_refl _⟩
      | some b => exact ⟨_, rfl, Int.min_le_left _ _⟩
    · obtain ⟨m, e, hm⟩ := least_le r a h'
      rw [e]
      exact ⟨_, rfl, Int.le_trans (Int.min_le_right _ _) hm⟩
theorem least_mem : ∀ (l : List (Option Int)) (m : Int), least l = some m → some m ∈ l
  | [], _, h => nomatch h
  | none :: r, m, h => List.mem_cons_of_mem _ (least_mem r m h)
  | some c :: r, m, h => by
    unfold least at h
    cases e : least r with
    | none =>
      rw [e] at h
      cases h
      exact List.mem_cons_self
    | some b =>
      rw [e] at h
      have h : min c b = m := Option.some.inj h
      by_cases hc : c ≤ b
      · rw [Int.min_eq_left hc] at h
        rw [h]
        exact List.mem_cons_self
      · rw [Int.min_eq_right (by omega)] at h
        rw [← h]
        exact List.mem_cons_of_mem _ (least_mem r b e)
/-- given times at some nodes are those of a run -/
theorem extend {E : List (Con α)} {p : α → Int} (hp : Runs E p) (S : List ((α → Option Int) × α × Int)) (hc : ∀ s ∈ S, ClosedFrom E s.1) (h0 : ∀ s ∈ S, s.1 s.2.1 = some 0)
    (hv : ∀ s ∈ S, ∀ u ∈ S, ∀ d, s.1 u.2.1 = some d → u.2.2 ≤ s.2.2 + d) : ∃ t, Runs E t ∧ ∀ s ∈ S, t s.2.1 = s.2.2 := by
  let v : α → Option Int := fun n => least (S.map fun s => (s.1 n).map (· + s.2.2))
  have vmem : ∀ n m, v n = some m → ∃ s ∈ S, ∃ d, s.1 n = some d ∧ m = d + s.2.2 := fun n m h => by
    have h1 := least_mem _ _ h
    obtain ⟨s, hs, e⟩ := List.mem_map.mp h1
    cases q : s.1 n with
    | none => rw [q] at e; cases e
    | some d =>
      rw [q] at e
      exact ⟨s, hs, d, q, (Option.some.inj e).symm⟩
  have vle : ∀ n, ∀ s ∈ S, ∀ d, s.1 n = some d → ∃ m, v n = some m ∧ m ≤ d + s.2.2 := fun n s hs d h => by
    refine least_le _ _ (List.mem_map.mpr ⟨s, hs, ?_⟩)
    rw [h]
    rfl
  have vstep : ∀ e ∈ E, ∀ m, v e.1.1 = some m → ∃ m', v e.1.2 = some m' ∧ m' ≤ m + e.2 := fun e he m h => by
    obtain ⟨s, hs, d, h1, rfl⟩ := vmem _ _ h
    obtain ⟨d', h2, h3⟩ := hc s hs e he d h1
    obtain ⟨m', h4, h5⟩ := vle _ s hs d' h2
    exact ⟨m', h4, by omega⟩
  obtain ⟨M, hM⟩ := bound_all (fun e : Con α => (v e.1.2).getD 0 - p e.1.1 - e.2) E
  refine ⟨fun n => match v n with | some m => m | none => p n + M, fun e he => ?_, fun s hs => ?_⟩
  · show (match v e.1.2 with | some m => m | none => p e.1.2 + M) ≤ (match v e.1.1 with | some m => m | none => p e.1.1 + M) + e.2
    cases h1 : v e.1.1 with
    | some m =>
      obtain ⟨m', h2, h3⟩ := vstep e he m h1
      rw [h2]
      exact h3
    | none =>
      have hb := hM e he
      have hr := hp e he
      cases h2 : v e.1.2 with
      | some m' =>
        simp only [h2, Option.getD_some] at hb
        show m' ≤ p e.1.1 + M + e.2
        omega
      | none =>
        show p e.1.2 + M ≤ p e.1.1 + M + e.2
        omega
  · show (match v s.2.1 with | some m => m | none => p s.2.1 + M) = s.2.2
    obtain ⟨m, h1, h2⟩ := vle s.2.1 s hs 0 (h0 s hs)
    obtain ⟨u, hu, d, h3, rfl⟩ := vmem _ _ h1
    have h4 := hv u hu s hs d h3
    rw [h1]
    show d + u.2.2 = s.2.2
    omega
def SoundFrom (E : List (Con α)) (x : α) (D : α → Option Int) : Prop := ∀ t, Runs E t → ∀ n d, D n = some d → t n ≤ t x + d
/-- the possible differences of two nodes -/
theorem interval {E : List (Con α)} {p : α → Int} (hp : Runs E p) {x y : α} {D D' : α → Option Int} (c : ClosedFrom E D) (c' : ClosedFrom E D') (h0 : D x = some 0) (h0' : D' y = some 0) (s : SoundFrom E x D) (s' : SoundFrom E y D') (v : Int) :
    (∃ t, Runs E t ∧ t y - t x = v) ↔ (∀ d, D y = some d → v ≤ d) ∧ (∀ d, D' x = some d → -d ≤ v) := by
  constructor
  · rintro ⟨t, ht, rfl⟩
    refine ⟨fun d hd => ?_, fun d hd => ?_⟩
    · have := s t ht y d hd
      omega
    · have := s' t ht x d hd
      omega
  · rintro ⟨h1, h2⟩
    obtain ⟨t, ht, hs⟩ := extend hp [(D, x, 0), (D', y, v)] (by
      intro z hz
      simp only [List.mem_cons, List.not_mem_nil, or_false] at hz
      rcases hz with rfl | rfl
      · exact c
      · exact c') (by
      intro z hz
      simp only [List.mem_cons, List.not_mem_nil, or_false] at hz
      rcases hz with rfl | rfl
      · exact h0
      · exact h0') (by
      intro z hz u hu d hd
      simp only [List.mem_cons, List.not_mem_nil, or_false] at hz hu
      rcases hz with rfl | rfl <;> rcases hu with rfl | rfl
      · simp only at hd ⊢
        rw [h0] at hd
        cases hd
        decide
      · have := h1 d hd
        simp only
        omega
      · have := h2 d hd
        simp only
        omega
      · simp only at hd ⊢
        rw [h0'] at hd
        cases hd
        omega)
    have e1 := hs (D, x, 0) (by simp)
    have e2 := hs (D', y, v) (by simp)
    simp only at e1 e2
    exact ⟨t, ht, by omega⟩
/-- three nodes' times together -/
theorem three {E : List (Con α)} {p : α → Int} (hp : Runs E p) {F : α → α → Option Int} {o e s : α} (co : ClosedFrom E (F o)) (ce : ClosedFrom E (F e)) (cs : ClosedFrom E (F s)) (zo : F o o = some 0) (ze : F e e = some 0) (zs : F s s = some 0) {x y : Int}
    (h1 : ∀ d, F o e = some d → x ≤ d) (h2 : ∀ d, F e o = some d → -d ≤ x) (h3 : ∀ d, F o s = some d → y ≤ d) (h4 : ∀ d, F s o = some d → -d ≤ y) (h5 : ∀ d, F e s = some d → y - x ≤ d) (h6 : ∀ d, F s e = some d → -d ≤ y - x) :
    ∃ t, Runs E t ∧ t o = 0 ∧ t e = x ∧ t s = y := by
  obtain ⟨t, ht, hs⟩ := extend hp [(F o, o, 0), (F e, e, x), (F s, s, y)] (by
    intro z hz
    simp only [List.mem_cons, List.not_mem_nil, or_false] at hz
    rcases hz with rfl | rfl | rfl
    · exact co
    · exact ce
    · exact cs) (by
    intro z hz
    simp only [List.mem_cons, List.not_mem_nil, or_false] at hz
    rcases hz with rfl | rfl | rfl
    · exact zo
    · exact ze
    · exact zs) (by
    intro z hz u hu d hd
    simp only [List.mem_cons, List.not_mem_nil, or_false] at hz hu
    rcases hz with rfl | rfl | rfl <;> rcases hu with rfl | rfl | rfl <;> simp only at hd ⊢
    · rw [zo] at hd; cases hd; decide
    · have := h1 d hd; omega
    · have := h3 d hd; omega
    · have := h2 d hd; omega
    · rw [ze] at hd; cases hd; omega
    · have := h5 d hd; omega
    · have := h4 d hd; omega
    · have := h6 d hd; omega
    · rw [zs] at hd; cases hd; omega)
  have e1 := hs (F o, o, 0) (by simp)
  have e2 := hs (F e, e, x) (by simp)
  have e3 := hs (F s, s, y) (by simp)
  exact ⟨t, ht, e1, e2, e3⟩
end
end Sh
end
section
set_option autoImplicit false
namespace Sh
section
variable {α : Type} [DecidableEq α]
def upf {β : Type} (f : α → β) (a : α) (b : β) : α → β := fun x => if x = a then b else f x
theorem upf_same {β : Type} (f : α → β) (a : α) (b : β) : upf f a b a = b := if_pos rfl
theorem upf_ne {β : Type} (f : α → β) {a x : α} (b : β) (h : x ≠ a) : upf f a b x = f x := if_neg h
/-- times, the node before, what was settled last in this round; beside it: the round, the turn of the last change, how many changes -/
structure BF (α : Type) where
  tm : α → Int
  bf : α → Option α
  fd : Option α
  ch : α → Nat
  ts : α → Nat
  ck : Nat
def BF.step (r : Nat) (s : BF α) (e : Con α) : BF α :=
  if s.tm e.1.1 + e.2 < s.tm e.1.2 then ⟨upf s.tm e.1.2 (s.tm e.1.1 + e.2), upf s.bf e.1.2 (some e.1.1), some e.1.2, upf s.ch e.1.2 r, upf s.ts e.1.2 (s.ck + 1), s.ck + 1⟩ else s
def BF.init : BF α := ⟨fun _ => 0, fun _ => none, none, fun _ => 0, fun _ => 0, 0⟩
def BF.clear (s : BF α) : BF α := { s with fd := none }
structure BF.Ok (E : List (Con α)) (N : List α) (r : Nat) (pre post : List (Con α)) (s : BF α) : Prop where
  chle : ∀ x, s.ch x ≤ r
  chbf : ∀ x, 1 ≤ s.ch x → ∃ y, s.bf x = some y
  bfch : ∀ x y, s.bf x = some y → s.ch x ≤ s.ch y + 1
  bfn : ∀ x y, s.bf x = some y → y ∈ N
  hpre : ∀ e ∈ pre, s.tm e.1.2 ≤ s.tm e.1.1 + e.2 ∨ r ≤ s.ch e.1.1
  hpost : ∀ e ∈ post, s.tm e.1.2 ≤ s.tm e.1.1 + e.2 ∨ r ≤ s.ch e.1.1 + 1
  tsle : ∀ x, s.ts x ≤ s.ck
  bfts : ∀ x y, s.bf x = some y → ∀ p, Runs E p → s.tm y - p y < s.tm x - p x ∨ (s.tm y - p y = s.tm x - p x ∧ s.ts y < s.ts x)
  fdch : ∀ x, s.fd = some x → s.ch x = r ∧ x ∈ N
  idle : s.fd = none → ∀ e ∈ pre, s.tm e.1.2 ≤ s.tm e.1.1 + e.2
theorem BF.ok_init (E : List (Con α)) (N : List α) : BF.Ok E N 1 [] E (BF.init : BF α).clear where
  chle := fun _ => Nat.zero_le 1
  chbf := fun _ h => absurd h (by show ¬ 1 ≤ 0; decide)
  bfch := fun _ _ h => nomatch h
  bfn := fun _ _ h => nomatch h
  hpre := fun _ h => nomatch h
  hpost := fun _ _ => .inr (Nat.le_refl 1)
  tsle := fun _ => Nat.le_refl 0
  bfts := fun _ _ h => nomatch h
  fdch := fun _ h => nomatch h
  idle := fun _ _ h => nomatch h
/-- a new round -/
theorem BF.Ok.turn {E : List (Con α)} {N : List α} {r : Nat} {s : BF α} (k : BF.Ok E N r E [] s) : BF.Ok E N (r + 1) [] E s.clear where
  chle := fun x => Nat.le_succ_of_le (k.chle x)
  chbf := k.chbf
  bfch := k.bfch
  bfn := k.bfn
  hpre := fun _ h => nomatch h
  hpost := fun e he => (k.hpre e he).imp id fun h => Nat.succ_le_succ h
  tsle := k.tsle
  bfts := k.bfts
  fdch := fun _ h => nomatch h
  idle := fun _ _ h => nomatch h
theorem BF.Ok.step {E : List (Con α)} {N : List α} {r : Nat} {pre post : List (Con α)} {e : Con α} {s : BF α} (hr : 1 ≤ r) (heE : e ∈ E) (h1 : e.1.1 ∈ N) (h2 : e.1.2 ∈ N) (k : BF.Ok E N r pre (e :: post) s) : BF.Ok E N r (pre ++ [e]) post (s.step r e) := by
  unfold BF.step
  by_cases hc : s.tm e.1.1 + e.2 < s.tm e.1.2
  · rw [if_pos hc]
    have hch : r ≤ s.ch e.1.1 + 1 := (k.hpost e List.mem_cons_self).resolve_left (by omega)
    have chm : ∀ x, s.ch x ≤ upf s.ch e.1.2 r x := fun x => by
      unfold upf
      split
      · exact k.chle x
      · exact Nat.le_refl _
    have tmm : ∀ x, upf s.tm e.1.2 (s.tm e.1.1 + e.2) x ≤ s.tm x := fun x => by
      unfold upf
      split
      · rename_i hx
        rw [hx]
        omega
      · exact Int.le_refl _
    have edge : ∀ f : Con α, s.tm f.1.2 ≤ s.tm f.1.1 + f.2 ∨ r ≤ s.ch f.1.1 → upf s.tm e.1.2 (s.tm e.1.1 + e.2) f.1.2 ≤ upf s.tm e.1.2 (s.tm e.1.1 + e.2) f.1.1 + f.2 ∨ r ≤ upf s.ch e.1.2 r f.1.1 := fun f hf => by
      by_cases hb : f.1.1 = e.1.2
      · right
        rw [hb, upf_same]
        exact Nat.le_refl _
      · rw [upf_ne _ _ hb, upf_ne _ _ hb]
        rcases hf with hf | hf
        · left
          have := tmm f.1.2
          omega
        · exact .inr hf
    constructor
    · intro x
      show upf s.ch e.1.2 r x ≤ r
      unfold upf
      split
      · exact Nat.le_refl _
      · exact k.chle x
    · intro x hx
      show ∃ y, upf s.bf e.1.2 (some e.1.1) x = some y
      by_cases hb : x = e.1.2
      · rw [hb, upf_same]
        exact ⟨_, rfl⟩
      · rw [upf_ne _ _ hb]
        have hx' : 1 ≤ upf s.ch e.1.2 r x := hx
        rw [upf_ne _ _ hb] at hx'
        exact k.chbf x hx'
    · intro x y hx
      have hx : upf s.bf e.1.2 (some e.1.1) x = some y := hx
      show upf s.ch e.1.2 r x ≤ upf s.ch e.1.2 r y + 1
      by_cases hb : x = e.1.2
      · rw [hb, upf_same] at hx
        cases hx
        rw [hb, upf_same]
        have := chm e.1.1
        omega
      · rw [upf_ne _ _ hb] at hx ⊢
        have := k.bfch x y hx
        have := chm y
        omega
    · intro x y hx
      have hx : upf s.bf e.1.2 (some e.1.1) x = some y := hx
      by_cases hb : x = e.1.2
      · rw [hb, upf_same] at hx
        cases hx
        exact h1
      · rw [upf_ne _ _ hb] at hx
        exact k.bfn x y hx
    · intro f hf
      show upf s.tm e.1.2 (s.tm e.1.1 + e.2) f.1.2 ≤ upf s.tm e.1.2 (s.tm e.1.1 + e.2) f.1.1 + f.2 ∨ r ≤ upf s.ch e.1.2 r f.1.1
      rcases List.mem_append.mp hf with hf | hf
      · exact edge f (k.hpre f hf)
      · rw [List.mem_singleton.mp hf]
        by_cases hb : e.1.1 = e.1.2
        · right
          rw [hb, upf_same]
          exact Nat.le_refl _
        · left
          rw [upf_same, upf_ne _ _ hb]
          exact Int.le_refl _
    · intro f hf
      show upf s.tm e.1.2 (s.tm e.1.1 + e.2) f.1.2 ≤ upf s.tm e.1.2 (s.tm e.1.1 + e.2) f.1.1 + f.2 ∨ r ≤ upf s.ch e.1.2 r f.1.1 + 1
      by_cases hb : f.1.1 = e.1.2
      · right
        rw [hb, upf_same]
        exact Nat.le_succ _
      · rw [upf_ne _ _ hb, upf_ne _ _ hb]
        rcases k.hpost f (List.mem_cons_of_mem _ hf) with hf | hf
        · left
          have := tmm f.1.2
          omega
        · exact .inr hf
    · intro x
      show upf s.ts e.1.2 (s.ck + 1) x ≤ s.ck + 1
      unfold upf
      split
      · exact Nat.le_refl _
      · exact Nat.le_succ_of_le (k.tsle x)
    · intro x y hx p hp
      have hx : upf s.bf e.1.2 (some e.1.1) x = some y := hx
      have hpe := hp e heE
      have hab : e.1.1 ≠ e.1.2 := fun q => by
        rw [q] at hpe hc
        omega
      show upf s.tm e.1.2 (s.tm e.1.1 + e.2) y - p y < upf s.tm e.1.2 (s.tm e.1.1 + e.2) x - p x ∨ (upf s.tm e.1.2 (s.tm e.1.1 + e.2) y - p y = upf s.tm e.1.2 (s.tm e.1.1 + e.2) x - p x ∧ upf s.ts e.1.2 (s.ck + 1) y < upf s.ts e.1.2 (s.ck + 1) x)
      by_cases hb : x = e.1.2
      · rw [hb, upf_same] at hx
        cases hx
        rw [hb, upf_same, upf_same, upf_ne _ _ hab, upf_ne _ _ hab]
        have := k.tsle e.1.1
        omega
      · rw [upf_ne _ _ hb] at hx
        have hk := k.bfts x y hx p hp
        rw [upf_ne _ _ hb, upf_ne _ _ hb]
        by_cases hy : y = e.1.2
        · rw [hy] at hk ⊢
          rw [upf_same, upf_same]
          omega
        · rw [upf_ne _ _ hy, upf_ne _ _ hy]
          exact hk
    · intro x hx
      have hx : some e.1.2 = some x := hx
      cases hx
      exact ⟨upf_same _ _ _, h2⟩
    · intro h
      have h : some e.1.2 = none := h
      cases h
  · rw [if_neg hc]
    refine ⟨k.chle, k.chbf, k.bfch, k.bfn, fun f hf => ?_, fun f hf => k.hpost f (List.mem_cons_of_mem _ hf), k.tsle, k.bfts, k.fdch, fun h f hf => ?_⟩
    · rcases List.mem_append.mp hf with hf | hf
      · exact k.hpre f hf
      · rw [List.mem_singleton.mp hf]
        exact .inl (by omega)
    · rcases List.mem_append.mp hf with hf | hf
      · exact k.idle h f hf
      · rw [List.mem_singleton.mp hf]
        omega
/-- ahead of round i + 1 -/
def BF.At (E : List (Con α)) (N : List α) (i : Nat) (s : BF α) : Prop := (i = 0 ∧ s = BF.init) ∨ BF.Ok E N i E [] s
theorem BF.At.turn {E : List (Con α)} {N : List α} {i : Nat} {s : BF α} (k : BF.At E N i s) : BF.Ok E N (i + 1) [] E s.clear := by
  rcases k with ⟨rfl, rfl⟩ | k
  · exact BF.ok_init E N
  · exact k.turn
def follow (bf : α → Option α) : Nat → α → Option α
  | 0, x => some x
  | k + 1, x => (follow bf k x).bind bf
theorem follow_add (bf : α → Option α) (x : α) (i : Nat) : ∀ j, follow bf (i + j) x = (follow bf i x).bind (follow bf j)
  | 0 => by
    show follow bf i x = _
    cases follow bf i x <;> rfl
  | j + 1 => by
    show (follow bf (i + j) x).bind bf = _
    rw [follow_add bf x i j]
    cases follow bf i x <;> rfl
theorem nodup_sub : ∀ (l N : List α), l.Nodup → (∀ x ∈ l, x ∈ N) → l.length ≤ N.length
  | [], _, _, _ => Nat.zero_le _
  | a :: l, N, hd, hs => by
    have ha : a ∈ N := hs a List.mem_cons_self
    have hd' := List.nodup_cons.mp hd
    have h := nodup_sub l (N.erase a) hd'.2 fun x hx => by
      have hne : x ≠ a := fun q => hd'.1 (q ▸ hx)
      exact (List.mem_erase_of_ne hne).mpr (hs x (List.mem_cons_of_mem _ hx))
    have hl := List.length_erase_of_mem ha
    have hpos : 0 < N.length := List.length_pos_of_mem ha
    rw [List.length_cons]
    omega
theorem pigeon (f : Nat → α) (N : List α) (h : ∀ i, i ≤ N.length → f i ∈ N) : ∃ i j, i < j ∧ j ≤ N.length ∧ f i = f j := by
  refine Classical.byContradiction fun hn => ?_
  have inj : ∀ i j, i < j → j ≤ N.length → f i ≠ f j := fun i j h1 h2 h3 => hn ⟨i, j, h1, h2, h3⟩
  have hnd : ((List.range (N.length + 1)).map f).Nodup := by
    refine List.pairwise_map.mpr ?_
    refine List.Pairwise.imp_of_mem (R := (· < ·)) ?_ List.pairwise_lt_range
    intro a b ha hb hab
    exact inj a b hab (by have := List.mem_range.mp hb; omega)
  have := nodup_sub _ N hnd fun x hx => by
    obtain ⟨i, hi, rfl⟩ := List.mem_map.mp hx
    exact h i (by have := List.mem_range.mp hi; omega)
  rw [List.length_map, List.length_range] at this
  omega
theorem BF.Ok.chain {E : List (Con α)} {N : List α} {r : Nat} {pre post : List (Con α)} {s : BF α} (k : BF.Ok E N r pre post s) {x : α} (hx : s.fd = some x) : ∀ j, j ≤ r → ∃ z, follow s.bf j x = some z ∧ r ≤ s.ch z + j ∧ z ∈ N
  | 0, _ => ⟨x, rfl, by have := (k.fdch x hx).1; omega, (k.fdch x hx).2⟩
  | j + 1, hj => by
    obtain ⟨z, h1, h2, _⟩ := k.chain hx j (by omega)
    obtain ⟨y, h3⟩ := k.chbf z (by omega)
    have := k.bfch z y h3
    refine ⟨y, ?_, by omega, k.bfn z y h3⟩
    show (follow s.bf j x).bind s.bf = some y
    rw [h1]
    exact h3
/-- two equal places of the chain -/
theorem BF.Ok.again {E : List (Con α)} {N : List α} {pre post : List (Con α)} {s : BF α} (k : BF.Ok E N (N.length + 1) pre post s) {x : α} (hx : s.fd = some x) : ∃ i d y, 1 ≤ d ∧ i + d ≤ N.length ∧ follow s.bf i x = some y ∧ follow s.bf d y = some y := by
  have hc : ∀ j, j ≤ N.length → (follow s.bf j x).getD x ∈ N := fun j hj => by
    obtain ⟨z, h1, _, h3⟩ := k.chain hx j (by omega)
    rw [h1]
    exact h3
  obtain ⟨i, j, h1, h2, h3⟩ := pigeon (fun j => (follow s.bf j x).getD x) N hc
  obtain ⟨y, e1, _⟩ := k.chain hx i (by omega)
  obtain ⟨z, e2, _⟩ := k.chain hx j (by omega)
  simp only [e1, e2, Option.getD_some] at h3
  refine ⟨i, j - i, y, by omega, by omega, e1, ?_⟩
  have e3 := follow_add s.bf x i (j - i)
  rw [show i + (j - i) = j by omega, e1, e2] at e3
  rw [h3] at e3 ⊢
  exact e3.symm
theorem BF.Ok.falls {E : List (Con α)} {N : List α} {r : Nat} {pre post : List (Con α)} {s : BF α} (k : BF.Ok E N r pre post s) {p : α → Int} (hp : Runs E p) (x : α) : ∀ d y, 1 ≤ d → follow s.bf d x = some y → s.tm y - p y < s.tm x - p x ∨ (s.tm y - p y = s.tm x - p x ∧ s.ts y < s.ts x)
  | 0, _, h, _ => absurd h (by decide)
  | 1, y, _, h => k.bfts x y h p hp
  | d + 2, y, _, h => by
    have h : (follow s.bf (d + 1) x).bind s.bf = some y := h
    cases e : follow s.bf (d + 1) x with
    | none => rw [e] at h; cases h
    | some z =>
      rw [e] at h
      have h1 := k.falls hp x (d + 1) z (by omega) e
      have h2 := k.bfts z y h p hp
      omega
/-- unsettled behind the last round: there is no run -/
theorem BF.Ok.norun {E : List (Con α)} {N : List α} {pre post : List (Con α)} {s : BF α} (k : BF.Ok E N (N.length + 1) pre post s) {x : α} (hx : s.fd = some x) (p : α → Int) : ¬ Runs E p := fun hp => by
  obtain ⟨i, d, y, h1, _, _, h4⟩ := k.again hx
  have := k.falls hp y d y h1 h4
  omega
/-- settled: the times are a run -/
theorem BF.Ok.run {E : List (Con α)} {N : List α} {r : Nat} {s : BF α} (k : BF.Ok E N r E [] s) (h : s.fd = none) : Runs E s.tm := fun e he => k.idle h e he
/-- the ring: from the last node of the chain the walk comes back to it -/
theorem BF.Ok.ring {E : List (Con α)} {N : List α} {pre post : List (Con α)} {s : BF α} (k : BF.Ok E N (N.length + 1) pre post s) {x : α} (hx : s.fd = some x) : ∃ z m, follow s.bf N.length x = some z ∧ 1 ≤ m ∧ follow s.bf m z = some z ∧ (∀ j, 1 ≤ j → j < m → follow s.bf j z ≠ some z) ∧ ∀ j, j ≤ m → ∃ u, follow s.bf j z = some u := by
  obtain ⟨i, d, y, h1, h2, h3, h4⟩ := k.again hx
  obtain ⟨z, e, _⟩ := k.chain hx N.length (by omega)
  have e1 := follow_add s.bf x i (N.length - i)
  rw [show i + (N.length - i) = N.length by omega, h3, e] at e1
  have e1 : follow s.bf (N.length - i) y = some z := e1.symm
  have back : follow s.bf d z = some z := by
    have a1 := follow_add s.bf y (N.length - i) d
    rw [e1] at a1
    have a2 := follow_add s.bf y d (N.length - i)
    rw [h4] at a2
    have a2 : follow s.bf (d + (N.length - i)) y = follow s.bf (N.length - i) y := a2
    have a1 : follow s.bf (N.length - i + d) y = follow s.bf d z := a1
    rw [Nat.add_comm] at a2
    rw [← a1, a2, e1]
  -- the least such m
  have : ∃ m, 1 ≤ m ∧ follow s.bf m z = some z ∧ ∀ j, 1 ≤ j → j < m → follow s.bf j z ≠ some z := by
    have hd1 := h1
    clear e1 h1 h2 h3 h4
    have h : ∀ n, ∀ d, d ≤ n → 1 ≤ d → follow s.bf d z = some z → ∃ m, 1 ≤ m ∧ follow s.bf m z = some z ∧ ∀ j, 1 ≤ j → j < m → follow s.bf j z ≠ some z := by
      intro n
      induction n with
      | zero => intro d h1 h2; omega
      | succ n ih =>
        intro d hd h1 h2
        by_cases hq : ∃ j, 1 ≤ j ∧ j < d ∧ follow s.bf j z = some z
        · obtain ⟨j, j1, j2, j3⟩ := hq
          exact ih j (by omega) j1 j3
        · exact ⟨d, h1, h2, fun j j1 j2 j3 => hq ⟨j, j1, j2, j3⟩⟩
    exact h _ _ (Nat.le_refl _) hd1 back
  obtain ⟨m, m1, m2, m3⟩ := this
  refine ⟨z, m, e, m1, m2, m3, fun j hj => ?_⟩
  have a := follow_add s.bf z j (m - j)
  rw [show j + (m - j) = m by omega, m2] at a
  cases q : follow s.bf j z with
  | none => rw [q] at a; cases a
  | some u => exact ⟨u, rfl⟩
end
end Sh
end
section
set_option autoImplicit false
namespace Sh
section
variable {α : Type} [DecidableEq α]
abbrev FSt (α : Type) := (α → Option Int) × Bool
def fbetter (o : Option Int) (d : Int) : Bool := match o with | none => true | some d' => decide (d < d')
def fstep (s : FSt α) (e : Con α) : FSt α := match s.1 e.1.1 with
  | none => s
  | some d => if fbetter (s.1 e.1.2) (d + e.2) = true then (upf s.1 e.1.2 (some (d + e.2)), false) else s
def fpass (E : List (Con α)) (f : α → Option Int) : FSt α := E.foldl fstep (f, true)
def fseq (E : List (Con α)) (f : α → Option Int) : Nat → α → Option Int
  | 0 => f
  | k + 1 => (fpass E (fseq E f k)).1
def fstart (x : α) : α → Option Int := fun n => if n = x then some 0 else none
theorem fstep_sound {E : List (Con α)} {x : α} {s : FSt α} {e : Con α} (he : e ∈ E) (h : SoundFrom E x s.1) : SoundFrom E x (fstep s e).1 := by
  unfold fstep
  cases q : s.1 e.1.1 with
  | none => exact h
  | some d =>
    show SoundFrom E x (if fbetter (s.1 e.1.2) (d + e.2) = true then (upf s.1 e.1.2 (some (d + e.2)), false) else s).1
    split
    · intro t ht n d' hn
      have hn : upf s.1 e.1.2 (some (d + e.2)) n = some d' := hn
      by_cases hb : n = e.1.2
      · rw [hb, upf_same] at hn
        cases hn
        have := h t ht _ _ q
        have := ht e he
        rw [hb]
        omega
      · rw [upf_ne _ _ hb] at hn
        exact h t ht n d' hn
    · exact h
/-- from s to s' values fall only -/
def FLe (f g : α → Option Int) : Prop := ∀ n d, f n = some d → ∃ d', g n = some d' ∧ d' ≤ d
theorem FLe.refl (f : α → Option Int) : FLe f f := fun _ d h => ⟨d, h, Int.le_refl _⟩
theorem FLe.trans {f g h : α → Option Int} (a : FLe f g) (b : FLe g h) : FLe f h := fun n d e => by
  obtain ⟨d1, e1, h1⟩ := a n d e
  obtain ⟨d2, e2, h2⟩ := b n d1 e1
  exact ⟨d2, e2, by omega⟩
theorem fstep_le (s : FSt α) (e : Con α) : FLe s.1 (fstep s e).1 := by
  unfold fstep
  cases q : s.1 e.1.1 with
  | none => exact FLe.refl _
  | some d =>
    show FLe s.1 (if fbetter (s.1 e.1.2) (d + e.2) = true then (upf s.1 e.1.2 (some (d + e.2)), false) else s).1
    split
    · rename_i hb
      intro n d' hn
      show ∃ z, upf s.1 e.1.2 (some (d + e.2)) n = some z ∧ z ≤ d'
      by_cases hx : n = e.1.2
      · rw [hx] at hn ⊢
        rw [upf_same]
        rw [hn] at hb
        have hb : decide (d + e.2 < d') = true := hb
        have := of_decide_eq_true hb
        exact ⟨_, rfl, by omega⟩
      · rw [upf_ne _ _ hx]
        exact ⟨d', hn, Int.le_refl _⟩
    · exact FLe.refl _
/-- the pass so far changed nothing -/
structure FIdle (f : α → Option Int) (pre : List (Con α)) (s : FSt α) : Prop where
  same : s.2 = true → s.1 = f
  ok : s.2 = true → ∀ e ∈ pre, ∀ d, f e.1.1 = some d → ∃ d', f e.1.2 = some d' ∧ d' ≤ d + e.2
theorem FIdle.start (f : α → Option Int) : FIdle f [] (f, true) := ⟨fun _ => rfl, fun _ _ h => nomatch h⟩
theorem FIdle.step {f : α → Option Int} {pre : List (Con α)} {s : FSt α} (k : FIdle f pre s) (e : Con α) : FIdle f (pre ++ [e]) (fstep s e) := by
  unfold fstep
  cases q : s.1 e.1.1 with
  | none =>
    refine ⟨k.same, fun h e' he' d hd => ?_⟩
    have h : s.2 = true := h
    rcases List.mem_append.mp he' with he' | he'
    · exact k.ok h e' he' d hd
    · rw [List.mem_singleton.mp he', ← k.same h, q] at hd
      cases hd
  | some d =>
    show FIdle f (pre ++ [e]) (if fbetter (s.1 e.1.2) (d + e.2) = true then (upf s.1 e.1.2 (some (d + e.2)), false) else s)
    split
    · exact ⟨fun h => (nomatch h), fun h => (nomatch h)⟩
    · rename_i hb
      refine ⟨k.same, fun h e' he' d' hd => ?_⟩
      rcases List.mem_append.mp he' with he' | he'
      · exact k.ok h e' he' d' hd
      · have hs := k.same h
        rw [List.mem_singleton.mp he'] at hd ⊢
        rw [← hs] at hd ⊢
        rw [q] at hd
        cases hd
        cases q2 : s.1 e.1.2 with
        | none =>
          rw [q2] at hb
          exact absurd rfl hb
        | some d2 =>
          rw [q2] at hb
          have hb : ¬ decide (d + e.2 < d2) = true := hb
          exact ⟨d2, rfl, by
            have hb' : ¬ (d + e.2 < d2) := fun z => hb (decide_eq_true z)
            omega⟩
def fmiss (f : α → Option Int) : List α → Nat
  | [] => 0
  | n :: r => (match f n with | none => 1 | some _ => 0) + fmiss f r
def fover (p : α → Int) (f : α → Option Int) : List α → Nat
  | [] => 0
  | n :: r => (match f n with | none => 0 | some d => (d - p n).toNat) + fover p f r
theorem fmiss_le {f g : α → Option Int} (h : FLe f g) : ∀ N : List α, fmiss g N ≤ fmiss f N
  | [] => Nat.le_refl _
  | n :: r => by
    have ih := fmiss_le h r
    unfold fmiss
    cases e : f n with
    | none => cases g n <;> simp only <;> omega
    | some d =>
      obtain ⟨d', e', _⟩ := h n d e
      rw [e']
      simp only
      omega
theorem fmiss_lt {f g : α → Option Int} (h : FLe f g) {x : α} (h0 : f x = none) (h1 : ∃ d, g x = some d) : ∀ N : List α, x ∈ N → fmiss g N < fmiss f N
  | [], hx => nomatch hx
  | n :: r, hx => by
    have ih := fmiss_le h r
    unfold fmiss
    by_cases hn : x = n
    · subst hn
      obtain ⟨d, e⟩ := h1
      rw [h0, e]
      simp only
      omega
    · have ih2 := fmiss_lt h h0 h1 r ((List.mem_cons.mp hx).resolve_left hn)
      cases e : f n with
      | none => cases g n <;> simp only <;> omega
      | some d =>
        obtain ⟨d', e', _⟩ := h n d e
        rw [e']
        simp only
        omega
theorem fmiss_ge {f g : α → Option Int} (hm : ∀ n, f n = none → g n = none) : ∀ N : List α, fmiss f N ≤ fmiss g N
  | [] => Nat.le_refl _
  | n :: r => by
    have ih := fmiss_ge hm r
    unfold fmiss
    cases e : f n with
    | none => rw [hm n e]; simp only; omega
    | some d => cases g n <;> simp only <;> omega
theorem fover_le {p : α → Int} {f g : α → Option Int} (h : FLe f g) (hm : ∀ n, f n = none → g n = none) : ∀ N : List α, fover p g N ≤ fover p f N
  | [] => Nat.le_refl _
  | n :: r => by
    have ih := fover_le (p := p) h hm r
    unfold fover
    cases e : f n with
    | none => rw [hm n e]; simp only; omega
    | some d =>
      obtain ⟨d', e', _⟩ := h n d e
      rw [e']
      simp only
      omega
theorem fover_lt {p : α → Int} {f g : α → Option Int} (h : FLe f g) (hm : ∀ n, f n = none → g n = none) {x : α} {d d' : Int} (h0 : f x = some d) (h1 : g x = some d') (hl : d' < d) (hp : p x ≤ d') : ∀ N : List α, x ∈ N → fover p g N < fover p f N
  | [], hx => nomatch hx
  | n :: r, hx => by
    have ih := fover_le (p := p) h hm r
    unfold fover
    by_cases hn : x = n
    · subst hn
      rw [h0, h1]
      simp only
      omega
    · have ih2 := fover_lt (p := p) h hm h0 h1 hl hp r ((List.mem_cons.mp hx).resolve_left hn)
      cases e : f n with
      | none => rw [hm n e]; simp only; omega
      | some d2 =>
        obtain ⟨d3, e', _⟩ := h n d2 e
        rw [e']
        simp only
        omega
/-- a pass goes down in this order, where it changes something -/
def FDown (p : α → Int) (N : List α) (f : α → Option Int) (s : FSt α) : Prop := FLe f s.1 ∧ (s.2 = false → fmiss s.1 N < fmiss f N ∨ (fmiss s.1 N = fmiss f N ∧ fover p s.1 N < fover p f N)) ∧ (s.2 = true → s.1 = f)
theorem fdown_step {E : List (Con α)} {x : α} {p : α → Int} (hp : Runs E p) {N : List α} (hN : ∀ e ∈ E, e.1.2 ∈ N) {f : α → Option Int} {s : FSt α} {e : Con α} (he : e ∈ E) (hs : SoundFrom E x s.1) (k : FDown (fun n => p n - p x) N f s) : FDown (fun n => p n - p x) N f (fstep s e) := by
  have hs' := fstep_sound (s := s) he hs
  have hle := fstep_le s e
  refine ⟨k.1.trans hle, ?_⟩
  unfold fstep at hs' hle ⊢
  cases q : s.1 e.1.1 with
  | none => exact k.2
  | some d =>
    rw [q] at hs' hle
    simp only at hs' hle ⊢
    split
    · rename_i hb
      rw [if_pos hb] at hs' hle
      simp only at hs' hle ⊢
      refine ⟨fun _ => ?_, fun h => nomatch h⟩
      -- s to the new one goes down
      have down : fmiss (upf s.1 e.1.2 (some (d + e.2))) N < fmiss s.1 N ∨ (fmiss (upf s.1 e.1.2 (some (d + e.2))) N = fmiss s.1 N ∧ fover (fun n => p n - p x) (upf s.1 e.1.2 (some (d + e.2))) N < fover (fun n => p n - p x) s.1 N) := by
        cases q2 : s.1 e.1.2 with
        | none => exact .inl (fmiss_lt hle q2 ⟨_, upf_same _ _ _⟩ N (hN e he))
        | some d2 =>
          rw [q2] at hb
          have hb : decide (d + e.2 < d2) = true := hb
          have hb := of_decide_eq_true hb
          have hm : ∀ n, s.1 n = none → upf s.1 e.1.2 (some (d + e.2)) n = none := fun n hn => by
            have hne : n ≠ e.1.2 := fun z => by rw [z, q2] at hn; cases hn
            rw [upf_ne _ _ hne]
            exact hn
          have hlt := fover_lt (p := fun n => p n - p x) hle hm q2 (upf_same _ _ _) hb (by
            have := hs' p hp e.1.2 (d + e.2) (upf_same _ _ _)
            show p e.1.2 - p x ≤ d + e.2
            omega) N (hN e he)
          have hge := fmiss_ge hm N
          have := fmiss_le hle N
          exact .inr ⟨by omega, hlt⟩
      cases h2 : s.2 with
      | true =>
        rw [k.2.2 h2] at down ⊢
        exact down
      | false =>
        have := k.2.1 h2
        omega
    · exact k.2
end
end Sh
end
section
set_option autoImplicit false
namespace Sh
section
variable {α : Type} [DecidableEq α]
abbrev Mat (α : Type) := α → α → Option Int
def mlow (o : Option Int) (d : Int) : Int := match o with | none => d | some x => min d x
def mput (F : Mat α) (a b : α) (d : Int) : Mat α := fun x y => if x = a ∧ y = b then some (mlow (F a b) d) else F x y
theorem mput_same (F : Mat α) (a b : α) (d : Int) : mput F a b d a b = some (mlow (F a b) d) := if_pos ⟨rfl, rfl⟩
theorem mput_ne (F : Mat α) {a b x y : α} (d : Int) (h : ¬ (x = a ∧ y = b)) : mput F a b d x y = F x y := if_neg h
theorem mlow_le (o : Option Int) (d : Int) : mlow o d ≤ d := by
  cases o with
  | none => exact Int.le_refl _
  | some x => exact Int.min_le_left _ _
theorem mlow_le' {o : Option Int} {x : Int} (d : Int) (h : o = some x) : mlow o d ≤ x := by
  rw [h]
  exact Int.min_le_right _ _
def MSound (E : List (Con α)) (F : Mat α) : Prop := ∀ t, Runs E t → ∀ a b d, F a b = some d → t b ≤ t a + d
def MLe (F G : Mat α) : Prop := ∀ a b d, F a b = some d → ∃ d', G a b = some d' ∧ d' ≤ d
theorem MLe.refl (F : Mat α) : MLe F F := fun _ _ d h => ⟨d, h, Int.le_refl _⟩
theorem MLe.trans {F G K : Mat α} (a : MLe F G) (b : MLe G K) : MLe F K := fun x y d e => by
  obtain ⟨d1, e1, h1⟩ := a x y d e
  obtain ⟨d2, e2, h2⟩ := b x y d1 e1
  exact ⟨d2, e2, by omega⟩
theorem mput_le (F : Mat α) (a b : α) (d : Int) : MLe F (mput F a b d) := fun x y z h => by
  by_cases hq : x = a ∧ y = b
  · obtain ⟨rfl, rfl⟩ := hq
    exact ⟨_, mput_same F _ _ d, mlow_le' d h⟩
  · rw [mput_ne F d hq]
    exact ⟨z, h, Int.le_refl _⟩
theorem mput_sound {E : List (Con α)} {F : Mat α} (h : MSound E F) {a b : α} {d : Int} (hd : ∀ t, Runs E t → t b ≤ t a + d) : MSound E (mput F a b d) := fun t ht x y z e => by
  by_cases hq : x = a ∧ y = b
  · obtain ⟨rfl, rfl⟩ := hq
    rw [mput_same] at e
    cases e
    cases q : F x y with
    | none => exact hd t ht
    | some w =>
      have h1 := hd t ht
      have h2 := h t ht _ _ _ q
      unfold mlow
      simp only
      omega
  · rw [mput_ne F d hq] at e
    exact h t ht _ _ _ e
/-- at first: 0 from each node to itself, then the rules -/
def mdiag (N : List α) : Mat α := fun a b => if a = b ∧ a ∈ N then some 0 else none
def mrules (R : List (Con α)) (F : Mat α) : Mat α := R.foldl (fun F e => mput F e.1.1 e.1.2 e.2) F
/-- one pair of a phase -/
def mstep (m : α) (F : Mat α) (q : α × α) : Mat α := match F q.1 m, F m q.2 with
  | some x, some y => mput F q.1 q.2 (x + y)
  | _, _ => F
def mpairs (N : List α) (m : α) (F : Mat α) : List (α × α) := (N.filter fun a => (F a m).isSome).flatMap fun a => (N.filter fun b => (F m b).isSome).map fun b => (a, b)
def mphase (N : List α) (F : Mat α) (m : α) : Mat α := (mpairs N m F).foldl (mstep m) F
def mclosed (N : List α) (R : List (Con α)) : Mat α := N.foldl (mphase N) (mrules R (mdiag N))
def MNeg (N : List α) (F : Mat α) : Prop := ∃ a ∈ N, ∃ d, F a a = some d ∧ d < 0
theorem mem_mpairs {N : List α} {m : α} {F : Mat α} {q : α × α} : q ∈ mpairs N m F ↔ q.1 ∈ N ∧ q.2 ∈ N ∧ (∃ x, F q.1 m = some x) ∧ ∃ y, F m q.2 = some y := by
  unfold mpairs
  rw [List.mem_flatMap]
  constructor
  · rintro ⟨a, ha, hq⟩
    obtain ⟨b, hb, rfl⟩ := List.mem_map.mp hq
    obtain ⟨a1, a2⟩ := List.mem_filter.mp ha
    obtain ⟨b1, b2⟩ := List.mem_filter.mp hb
    exact ⟨a1, b1, Option.isSome_iff_exists.mp a2, Option.isSome_iff_exists.mp b2⟩
  · rintro ⟨h1, h2, h3, h4⟩
    exact ⟨q.1, List.mem_filter.mpr ⟨h1, Option.isSome_iff_exists.mpr h3⟩, List.mem_map.mpr ⟨q.2, List.mem_filter.mpr ⟨h2, Option.isSome_iff_exists.mpr h4⟩, rfl⟩⟩
theorem mstep_le (m : α) (F : Mat α) (q : α × α) : MLe F (mstep m F q) := by
  unfold mstep
  split
  · exact mput_le _ _ _ _
  · exact MLe.refl _
theorem mstep_sound {E : List (Con α)} {m : α} {F : Mat α} (h : MSound E F) (q : α × α) : MSound E (mstep m F q) := by
  unfold mstep
  split
  · rename_i x y e1 e2
    refine mput_sound h fun t ht => ?_
    have := h t ht _ _ _ e1
    have := h t ht _ _ _ e2
    omega
  · exact h
theorem mfold_le (m : α) : ∀ (l : List (α × α)) (F : Mat α), MLe F (l.foldl (mstep m) F)
  | [], F => MLe.refl F
  | q :: l, F => (mstep_le m F q).trans (mfold_le m l _)
theorem mfold_sound {E : List (Con α)} (m : α) : ∀ (l : List (α × α)) (F : Mat α), MSound E F → MSound E (l.foldl (mstep m) F)
  | [], _, h => h
  | q :: l, F, h => mfold_sound m l _ (mstep_sound h q)
/-- what a phase makes of an entry, where the middle node's own entry is 0 -/
def comb (o x y : Option Int) : Option Int := match x, y with
  | some x, some y => some (mlow o (x + y))
  | _, _ => o
theorem comb_m {F : Mat α} {m : α} (hm : F m m = some 0) (a : α) : comb (F a m) (F a m) (F m m) = F a m := by
  rw [hm]
  cases F a m with
  | none => rfl
  | some x =>
    show some (min (x + 0) x) = some x
    congr 1
    omega
theorem comb_m' {F : Mat α} {m : α} (hm : F m m = some 0) (b : α) : comb (F m b) (F m m) (F m b) = F m b := by
  rw [hm]
  cases F m b with
  | none => rfl
  | some x =>
    show some (min (0 + x) x) = some x
    congr 1
    omega
theorem mfold_clean {N : List α} {m : α} {F : Mat α} (hm : F m m = some 0) : ∀ (l l0 : List (α × α)) (G : Mat α), (∀ q ∈ l, q ∈ mpairs N m F) → (∀ a b, G a b = if (a, b) ∈ l0 then comb (F a b) (F a m) (F m b) else F a b) →
    ∀ a b, (l.foldl (mstep m) G) a b = if (a, b) ∈ l0 ++ l then comb (F a b) (F a m) (F m b) else F a b
  | [], l0, G, _, h => by
    rw [List.append_nil]
    exact h
  | q :: l, l0, G, hq, h => by
    have e := mfold_clean hm l (l0 ++ [q]) (mstep m G q) (fun z hz => hq z (List.mem_cons_of_mem _ hz)) ?_
    · rw [List.append_assoc] at e
      exact e
    · intro a b
      obtain ⟨_, _, ⟨x, hx⟩, y, hy⟩ := mem_mpairs.mp (hq q List.mem_cons_self)
      have hGx : G q.1 m = some x := by
        rw [h]
        split
        · rw [comb_m hm]
          exact hx
        · exact hx
      have hGy : G m q.2 = some y := by
        rw [h]
        split
        · rw [comb_m' hm]
          exact hy
        · exact hy
      unfold mstep
      rw [hGx, hGy]
      simp only
      by_cases he : a = q.1 ∧ b = q.2
      · obtain ⟨rfl, rfl⟩ := he
        rw [mput_same, if_pos (List.mem_append_right _ (by simp)), h, hx, hy]
        split
        · show some (mlow (some (mlow (F q.1 q.2) (x + y))) (x + y)) = some (mlow (F q.1 q.2) (x + y))
          congr 1
          have := mlow_le (F q.1 q.2) (x + y)
          show min (x + y) (mlow (F q.1 q.2) (x + y)) = _
          omega
        · rfl
      · rw [mput_ne G _ he, h]
        have hne : (a, b) ≠ q := fun z => he ⟨by rw [← z], by rw [← z]⟩
        by_cases hl : (a, b) ∈ l0
        · rw [if_pos hl, if_pos (List.mem_append_left _ hl)]
        · rw [if_neg hl, if_neg]
          intro z
          rcases List.mem_append.mp z with z | z
          · exact hl z
          · exact hne (List.mem_singleton.mp z)
theorem mphase_clean {N : List α} {m : α} {F : Mat α} (hm : F m m = some 0) {a b : α} (ha : a ∈ N) (hb : b ∈ N) : mphase N F m a b = comb (F a b) (F a m) (F m b) := by
  unfold mphase
  rw [mfold_clean (N := N) hm (mpairs N m F) [] F (fun _ h => h) (fun a b => by rw [if_neg (by simp)]) a b, List.nil_append]
  split
  · rfl
  · rename_i h
    cases hx : F a m with
    | none => rfl
    | some x =>
      cases hy : F m b with
      | none => rfl
      | some y => exact absurd (mem_mpairs.mpr ⟨ha, hb, ⟨x, hx⟩, ⟨y, hy⟩⟩) h
/-- for m of M: the way through m is never less -/
def MTri (N M : List α) (F : Mat α) : Prop := ∀ m ∈ M, ∀ a ∈ N, ∀ b ∈ N, ∀ x y, F a m = some x → F m b = some y → ∃ z, F a b = some z ∧ z ≤ x + y
def MBd (N : List α) (B : Int) (F : Mat α) : Prop := ∀ a ∈ N, ∀ b ∈ N, ∀ d, F a b = some d → -B ≤ d ∧ d ≤ B
structure MInv (E : List (Con α)) (N : List α) (F : Mat α) : Prop where
  sound : MSound E F
  diag : ∀ a ∈ N, ∃ d, F a a = some d ∧ d ≤ 0
  edge : ∀ e ∈ E, ∃ d, F e.1.1 e.1.2 = some d ∧ d ≤ e.2
theorem MInv.le {E : List (Con α)} {N : List α} {F G : Mat α} (k : MInv E N F) (hs : MSound E G) (h : MLe F G) : MInv E N G where
  sound := hs
  diag := fun a ha => by
    obtain ⟨d, e, hd⟩ := k.diag a ha
    obtain ⟨d', e', hd'⟩ := h a a d e
    exact ⟨d', e', by omega⟩
  edge := fun f hf => by
    obtain ⟨d, e, hd⟩ := k.edge f hf
    obtain ⟨d', e', hd'⟩ := h _ _ d e
    exact ⟨d', e', by omega⟩
theorem MNeg.le {N : List α} {F G : Mat α} (h : MLe F G) (n : MNeg N F) : MNeg N G := by
  obtain ⟨a, ha, d, e, hd⟩ := n
  obtain ⟨d', e', hd'⟩ := h a a d e
  exact ⟨a, ha, d', e', by omega⟩
theorem mphase_le (N : List α) (F : Mat α) (m : α) : MLe F (mphase N F m) := mfold_le m _ F
theorem mphase_tri {E : List (Con α)} {N M : List α} {F : Mat α} (k : MInv E N F) (hn : ¬ MNeg N F) (hM : ∀ m ∈ M, m ∈ N) {m : α} (hm : m ∈ N) (tri : MTri N M F) : MTri N (M ++ [m]) (mphase N F m) := by
  have hz : ∀ a ∈ N, F a a = some 0 := fun a ha => by
    obtain ⟨d, e, hd⟩ := k.diag a ha
    have : ¬ d < 0 := fun z => hn ⟨a, ha, d, e, z⟩
    rw [e]
    congr 1
    omega
  have hmm := hz m hm
  intro c hc a ha b hb x y hx hy
  have hcN : c ∈ N := by
    rcases List.mem_append.mp hc with h | h
    · exact hM c h
    · rw [List.mem_singleton.mp h]
      exact hm
  rw [mphase_clean hmm ha hcN] at hx
  rw [mphase_clean hmm hcN hb] at hy
  rw [mphase_clean hmm ha hb]
  -- any way from a to b is at least the result
  have res : ∀ z, F a b = some z → ∃ z', comb (F a b) (F a m) (F m b) = some z' ∧ z' ≤ z := fun z e => by
    cases h1 : F a m with
    | none => exact ⟨z, e, Int.le_refl _⟩
    | some u =>
      cases h2 : F m b with
      | none => exact ⟨z, e, Int.le_refl _⟩
      | some v => exact ⟨_, rfl, mlow_le' _ e⟩
  have via : ∀ u v, F a m = some u → F m b = some v → ∃ z', comb (F a b) (F a m) (F m b) = some z' ∧ z' ≤ u + v := fun u v h1 h2 => by
    rw [h1, h2]
    exact ⟨_, rfl, mlow_le _ _⟩
  -- the two halves
  have half1 : (F a c = some x) ∨ ∃ u v, F a m = some u ∧ F m c = some v ∧ x = u + v := by
    cases h1 : F a m with
    | none => rw [h1] at hx; exact .inl hx
    | some u =>
      cases h2 : F m c with
      | none => rw [h1, h2] at hx; exact .inl hx
      | some v =>
        rw [h1, h2] at hx
        have hx : some (mlow (F a c) (u + v)) = some x := hx
        cases h3 : F a c with
        | none =>
          rw [h3] at hx
          exact .inr ⟨u, v, rfl, rfl, (Option.some.inj hx).symm⟩
        | some w =>
          rw [h3] at hx
          have hx : min (u + v) w = x := Option.some.inj hx
          by_cases hle : u + v ≤ w
          · exact .inr ⟨u, v, rfl, rfl, by omega⟩
          · exact .inl (by congr 1; omega)
  have half2 : (F c b = some y) ∨ ∃ u v, F c m = some u ∧ F m b = some v ∧ y = u + v := by
    cases h1 : F c m with
    | none => rw [h1] at hy; exact .inl hy
    | some u =>
      cases h2 : F m b with
      | none => rw [h1, h2] at hy; exact .inl hy
      | some v =>
        rw [h1, h2] at hy
        have hy : some (mlow (F c b) (u + v)) = some y := hy
        cases h3 : F c b with
        | none =>
          rw [h3] at hy
          exact .inr ⟨u, v, rfl, rfl, (Option.some.inj hy).symm⟩
        | some w =>
          rw [h3] at hy
          have hy : min (u + v) w = y := Option.some.inj hy
          by_cases hle : u + v ≤ w
          · exact .inr ⟨u, v, rfl, rfl, by omega⟩
          · exact .inl (by congr 1; omega)
  rcases List.mem_append.mp hc with hc | hc
  · -- c was done before
    rcases half1 with h1 | ⟨u, v, h1, h2, rfl⟩ <;> rcases half2 with h3 | ⟨u', v', h3, h4, rfl⟩
    · obtain ⟨z, e, hz1⟩ := tri c hc a ha b hb x y h1 h3
      obtain ⟨z', e', hz2⟩ := res z e
      exact ⟨z', e', by omega⟩
    · obtain ⟨z, e, hz1⟩ := tri c hc a ha m hm x u' h1 h3
      obtain ⟨z', e', hz2⟩ := via z v' e h4
      exact ⟨z', e', by omega⟩
    · obtain ⟨z, e, hz1⟩ := tri c hc m hm b hb v y h2 h3
      obtain ⟨z', e', hz2⟩ := via u z h1 e
      exact ⟨z', e', by omega⟩
    · obtain ⟨z, e, hz1⟩ := tri c hc m hm m hm v u' h2 h3
      rw [hmm] at e
      cases e
      obtain ⟨z', e', hz2⟩ := via u v' h1 h4
      exact ⟨z', e', by omega⟩
  · have hcm := List.mem_singleton.mp hc
    subst hcm
    have h1 : F a c = some x := by
      rw [comb_m hmm] at hx
      exact hx
    have h2 : F c b = some y := by
      rw [comb_m' hmm] at hy
      exact hy
    exact via x y h1 h2
theorem mphase_bd {N : List α} {m : α} {B : Int} {F : Mat α} (hmm : F m m = some 0) (hm : m ∈ N) (h : MBd N B F) : MBd N (B + B) (mphase N F m) := fun a ha b hb d hd => by
  have hB := h m hm m hm 0 hmm
  rw [mphase_clean hmm ha hb] at hd
  cases h1 : F a m with
  | none =>
    rw [h1] at hd
    have := h a ha b hb d hd
    omega
  | some x =>
    cases h2 : F m b with
    | none =>
      rw [h1, h2] at hd
      have := h a ha b hb d hd
      omega
    | some y =>
      rw [h1, h2] at hd
      have hd : some (mlow (F a b) (x + y)) = some d := hd
      have b1 := h a ha m hm x h1
      have b2 := h m hm b hb y h2
      cases h3 : F a b with
      | none =>
        rw [h3] at hd
        have hd : x + y = d := Option.some.inj hd
        omega
      | some w =>
        rw [h3] at hd
        have hd : min (x + y) w = d := Option.some.inj hd
        have b3 := h a ha b hb w h3
        omega
theorem mrules_inv {E : List (Con α)} (N : List α) : ∀ (R done : List (Con α)) (F : Mat α), (∀ e ∈ R, e ∈ E) → MSound E F → (∀ a ∈ N, ∃ d, F a a = some d ∧ d ≤ 0) → (∀ e ∈ done, ∃ d, F e.1.1 e.1.2 = some d ∧ d ≤ e.2) →
    MSound E (mrules R F) ∧ (∀ a ∈ N, ∃ d, mrules R F a a = some d ∧ d ≤ 0) ∧ ∀ e ∈ done ++ R, ∃ d, mrules R F e.1.1 e.1.2 = some d ∧ d ≤ e.2
  | [], done, F, _, h1, h2, h3 => by
    rw [List.append_nil]
    exact ⟨h1, h2, h3⟩
  | e :: R, done, F, he, h1, h2, h3 => by
    have hle := mput_le F e.1.1 e.1.2 e.2
    have := mrules_inv N R (done ++ [e]) (mput F e.1.1 e.1.2 e.2) (fun z hz => he z (List.mem_cons_of_mem _ hz)) (mput_sound h1 fun t ht => ht e (he e List.mem_cons_self)) (fun a ha => by
      obtain ⟨d, q, hd⟩ := h2 a ha
      obtain ⟨d', q', hd'⟩ := hle a a d q
      exact ⟨d', q', by omega⟩) (fun f hf => by
      rcases List.mem_append.mp hf with hf | hf
      · obtain ⟨d, q, hd⟩ := h3 f hf
        obtain ⟨d', q', hd'⟩ := hle _ _ d q
        exact ⟨d', q', by omega⟩
      · rw [List.mem_singleton.mp hf]
        exact ⟨_, mput_same F _ _ _, mlow_le _ _⟩)
    rw [List.append_assoc] at this
    exact this
theorem mrules_bd {N : List α} {B : Int} (hB : 0 ≤ B) : ∀ (R : List (Con α)) (F : Mat α), (∀ e ∈ R, -B ≤ e.2 ∧ e.2 ≤ B) → MBd N B F → MBd N B (mrules R F)
  | [], _, _, h => h
  | e :: R, F, hR, h => by
    refine mrules_bd hB R (mput F e.1.1 e.1.2 e.2) (fun z hz => hR z (List.mem_cons_of_mem _ hz)) fun a ha b hb d hd => ?_
    by_cases hq : a = e.1.1 ∧ b = e.1.2
    · obtain ⟨rfl, rfl⟩ := hq
      rw [mput_same] at hd
      have he := hR e List.mem_cons_self
      cases h3 : F e.1.1 e.1.2 with
      | none =>
        rw [h3] at hd
        have hd : e.2 = d := Option.some.inj hd
        omega
      | some w =>
        rw [h3] at hd
        have hd : min e.2 w = d := Option.some.inj hd
        have b3 := h _ ha _ hb w h3
        omega
    · rw [mput_ne F _ hq] at hd
      exact h a ha b hb d hd
theorem mphases {E : List (Con α)} {N : List α} {B : Int} : ∀ (l M : List α) (F : Mat α), (∀ m ∈ l, m ∈ N) → (∀ m ∈ M, m ∈ N) → MInv E N F → (MNeg N F ∨ (MTri N M F ∧ MBd N (B * 2 ^ M.length) F)) →
    MInv E N (l.foldl (mphase N) F) ∧ (MNeg N (l.foldl (mphase N) F) ∨ (MTri N (M ++ l) (l.foldl (mphase N) F) ∧ MBd N (B * 2 ^ (M ++ l).length) (l.foldl (mphase N) F)))
  | [], M, F, _, _, k, h => by
    rw [List.append_nil]
    exact ⟨k, h⟩
  | m :: l, M, F, hl, hM, k, h => by
    have hm := hl m List.mem_cons_self
    have k' : MInv E N (mphase N F m) := k.le (mfold_sound m _ F k.sound) (mphase_le N F m)
    have h' : MNeg N (mphase N F m) ∨ (MTri N (M ++ [m]) (mphase N F m) ∧ MBd N (B * 2 ^ (M ++ [m]).length) (mphase N F m)) := by
      by_cases hn : MNeg N F
      · exact .inl (hn.le (mphase_le N F m))
      · rcases h with h | ⟨h1, h2⟩
        · exact absurd h hn
        · refine .inr ⟨mphase_tri k hn hM hm h1, ?_⟩
          have hmm : F m m = some 0 := by
            obtain ⟨d, e, hd⟩ := k.diag m hm
            have : ¬ d < 0 := fun z => hn ⟨m, hm, d, e, z⟩
            rw [e]
            congr 1
            omega
          have hb := mphase_bd hmm hm h2
          have e : B * 2 ^ (M ++ [m]).length = B * 2 ^ M.length + B * 2 ^ M.length := by
            rw [List.length_append, List.length_singleton, Int.pow_succ, ← Int.mul_assoc]
            omega
          rw [e]
          exact hb
    have := mphases l (M ++ [m]) (mphase N F m) (fun z hz => hl z (List.mem_cons_of_mem _ hz)) (fun z hz => by
      rcases List.mem_append.mp hz with hz | hz
      · exact hM z hz
      · rw [List.mem_singleton.mp hz]
        exact hm) k' h'
    rw [List.append_assoc] at this
    exact this
/-- the outcome: no run, or all greatest differences -/
theorem mclosed_out {R : List (Con α)} {N : List α} {B : Int} (hB : 0 ≤ B) (hR : ∀ e ∈ R, -B ≤ e.2 ∧ e.2 ≤ B) (hN : ∀ e ∈ R, e.1.1 ∈ N ∧ e.1.2 ∈ N) :
    (MNeg N (mclosed N R) ∧ ∀ p, ¬ Runs R p) ∨ (¬ MNeg N (mclosed N R) ∧ (∃ p, Runs R p) ∧ (∀ a ∈ N, ClosedFrom R (mclosed N R a) ∧ mclosed N R a a = some 0 ∧ SoundFrom R a (mclosed N R a)) ∧ MBd N (B * 2 ^ N.length) (mclosed N R)) := by
  have hd0 : MSound R (mdiag N) := fun t _ a b d h => by
    unfold mdiag at h
    split at h
    · rename_i e
      cases h
      rw [e.1]
      omega
    · cases h
  obtain ⟨a1, a2, a3⟩ := mrules_inv N R [] (mdiag N) (fun _ h => h) hd0 (fun a ha => ⟨0, if_pos ⟨rfl, ha⟩, Int.le_refl _⟩) (fun _ h => nomatch h)
  have b0 : MBd N B (mdiag N) := fun a ha b hb d h => by
    unfold mdiag at h
    split at h
    · cases h
      omega
    · cases h
  have b1 := mrules_bd hB R (mdiag N) hR b0
  obtain ⟨k, h⟩ := mphases (B := B) N [] (mrules R (mdiag N)) (fun _ h => h) (fun _ h => nomatch h) (⟨a1, a2, a3⟩ : MInv R N _) (.inr ⟨fun _ h => (nomatch h), by
    show MBd N (B * 2 ^ 0) _
    rw [Int.pow_zero, Int.mul_one]
    exact b1⟩)
  have k : MInv R N (mclosed N R) := k
  by_cases hn : MNeg N (mclosed N R)
  · refine .inl ⟨hn, fun p hp => ?_⟩
    obtain ⟨a, _, d, e, hd⟩ := hn
    have := k.sound p hp a a d e
    omega
  · rcases h with h | ⟨tri, bd⟩
    · exact absurd h hn
    · have tri : MTri N N (mclosed N R) := tri
      have bd : MBd N (B * 2 ^ N.length) (mclosed N R) := bd
      have hz : ∀ a ∈ N, mclosed N R a a = some 0 := fun a ha => by
        obtain ⟨d, e, hd⟩ := k.diag a ha
        have : ¬ d < 0 := fun z => hn ⟨a, ha, d, e, z⟩
        rw [e]
        congr 1
        omega
      have cl : ∀ a ∈ N, ClosedFrom R (mclosed N R a) := fun a ha e he d hd => by
        obtain ⟨h1, h2⟩ := hN e he
        obtain ⟨w, q, hw⟩ := k.edge e he
        obtain ⟨z, q', hz'⟩ := tri e.1.1 h1 a ha e.1.2 h2 d w hd q
        exact ⟨z, q', by omega⟩
      refine .inr ⟨hn, ⟨fun n => (least (N.map fun a => mclosed N R a n)).getD 0, fun e he => ?_⟩, fun a ha => ⟨cl a ha, hz a ha, fun t ht n d h => k.sound t ht a n d h⟩, bd⟩
      obtain ⟨h1, h2⟩ := hN e he
      obtain ⟨m, q, _⟩ := least_le (N.map fun a => mclosed N R a e.1.1) 0 (List.mem_map.mpr ⟨e.1.1, h1, hz _ h1⟩)
      obtain ⟨a, ha, qa⟩ := List.mem_map.mp (least_mem _ _ q)
      obtain ⟨d', qd, hd'⟩ := cl a ha e he m qa
      obtain ⟨m', q', hm'⟩ := least_le (N.map fun a => mclosed N R a e.1.2) d' (List.mem_map.mpr ⟨a, ha, qd⟩)
      show (least (N.map fun a => mclosed N R a e.1.2)).getD 0 ≤ (least (N.map fun a => mclosed N R a e.1.1)).getD 0 + e.2
      rw [q, q']
      simp only [Option.getD_some]
      omega
end
end Sh
end
section
set_option autoImplicit false
namespace Sh
abbrev Span := Option Int × Option Int
def InSpan (s : Span) (v : Int) : Prop := (∀ l, s.1 = some l → l ≤ v) ∧ (∀ h, s.2 = some h → v ≤ h)
def Desc (S : Int → Prop) (r : List Span) : Prop := (r = [] ∧ ∀ v, ¬ S v) ∨ ∃ s, r = [s] ∧ (∃ v, S v) ∧ ∀ v, S v ↔ InSpan s v
def Bnd (B : Int) (r : List Span) : Prop := ∀ s ∈ r, (∀ l, s.1 = some l → -B ≤ l ∧ l ≤ B) ∧ (∀ h, s.2 = some h → -B ≤ h ∧ h ≤ B)
theorem Bnd.nil (B : Int) : Bnd B [] := fun _ h => nomatch h
theorem Bnd.mono {B C : Int} {r : List Span} (h : Bnd B r) (hb : B ≤ C) : Bnd C r := fun s hs => ⟨fun l e => by have := (h s hs).1 l e; omega, fun l e => by have := (h s hs).2 l e; omega⟩
theorem Desc.len {S : Int → Prop} {r : List Span} (d : Desc S r) : r.length ≤ 1 := by
  rcases d with ⟨rfl, _⟩ | ⟨s, rfl, _⟩
  · exact Nat.zero_le _
  · exact Nat.le_refl _
theorem Desc.congr {S T : Int → Prop} {r : List Span} (d : Desc S r) (h : ∀ v, S v ↔ T v) : Desc T r := by
  rcases d with ⟨rfl, d⟩ | ⟨s, rfl, ⟨v, hv⟩, d⟩
  · exact .inl ⟨rfl, fun v hv => d v ((h v).mpr hv)⟩
  · exact .inr ⟨s, rfl, ⟨v, (h v).mp hv⟩, fun v => (h v).symm.trans (d v)⟩
theorem Desc.uniq {S : Int → Prop} {r q : List Span} (d : Desc S r) (e : Desc S q) : r = q := by
  rcases d with ⟨rfl, d⟩ | ⟨s, rfl, ⟨v, hv⟩, d⟩ <;> rcases e with ⟨rfl, e⟩ | ⟨u, rfl, ⟨w, hw⟩, e⟩
  · rfl
  · exact absurd hw (d w)
  · exact absurd hv (e v)
  · obtain ⟨lo, hi⟩ := s
    obtain ⟨lo', hi'⟩ := u
    have hs := (d v).mp hv
    have same : ∀ x, InSpan (lo, hi) x ↔ InSpan (lo', hi') x := fun x => (d x).symm.trans (e x)
    have hs' := (same v).mp hs
    have e1 : lo = lo' := by
      cases lo with
      | none =>
        cases lo' with
        | none => rfl
        | some l =>
          have h1 : InSpan (none, hi) (min v (l - 1)) := ⟨fun l h => (nomatch h), fun h e => by have := hs.2 h e; omega⟩
          have h2 := ((same _).mp h1).1 l rfl
          omega
      | some l =>
        cases lo' with
        | none =>
          have h1 : InSpan (none, hi') (min v (l - 1)) := ⟨fun l h => (nomatch h), fun h e => by have := hs'.2 h e; omega⟩
          have h2 := ((same _).mpr h1).1 l rfl
          omega
        | some l' =>
          have g1 := hs.1 l rfl
          have g2 := hs'.1 l' rfl
          have h1 : InSpan (some l, hi) l := ⟨fun x h => by cases h; omega, fun h e => by have := hs.2 h e; omega⟩
          have h2 := ((same _).mp h1).1 l' rfl
          have h3 : InSpan (some l', hi') l' := ⟨fun x h => by cases h; omega, fun h e => by have := hs'.2 h e; omega⟩
          have h4 := ((same _).mpr h3).1 l rfl
          congr 1
          omega
    have e2 : hi = hi' := by
      cases hi with
      | none =>
        cases hi' with
        | none => rfl
        | some l =>
          have h1 : InSpan (lo, none) (max v (l + 1)) := ⟨fun h e => by have := hs.1 h e; omega, fun l h => (nomatch h)⟩
          have h2 := ((same _).mp h1).2 l rfl
          omega
      | some l =>
        cases hi' with
        | none =>
          have h1 : InSpan (lo', none) (max v (l + 1)) := ⟨fun h e => by have := hs'.1 h e; omega, fun l h => (nomatch h)⟩
          have h2 := ((same _).mpr h1).2 l rfl
          omega
        | some l' =>
          have g1 := hs.2 l rfl
          have g2 := hs'.2 l' rfl
          have h1 : InSpan (lo, some l) l := ⟨fun h e => by have := hs.1 h e; omega, fun x h => by cases h; omega⟩
          have h2 := ((same _).mp h1).2 l' rfl
          have h3 : InSpan (lo', some l') l' := ⟨fun h e => by have := hs'.1 h e; omega, fun x h => by cases h; omega⟩
          have h4 := ((same _).mpr h3).2 l rfl
          congr 1
          omega
    rw [e1, e2]
def endsL (r : List Span) : List (Int × Int) := r.map fun s => (s.1.getD (-10 ^ 40), s.2.getD (10 ^ 40))
def normL (l : List (Int × Int)) : List Span := l.map fun p => (if p.1 < -10 ^ 39 then none else some p.1, if p.2 > 10 ^ 39 then none else some p.2)
def meetL (p : Int × Int) (l : List (Int × Int)) : List (Int × Int) := (l.filter fun q => decide (max p.1 q.1 ≤ min p.2 q.2)).map fun q => (max p.1 q.1, min p.2 q.2)
def bothL (r q : List Span) : List Span := normL ((endsL r).flatMap fun p => meetL p (endsL q))
def movedL (r q : List Span) : List Span := normL ((endsL r).flatMap fun p => (endsL q).map fun u => (p.1 + u.1, p.2 + u.2))
def turnedL (r : List Span) : List Span := r.map fun s => (s.2.map (- ·), s.1.map (- ·))
theorem bothL_nil (q : List Span) : bothL [] q = [] := rfl
theorem bothL_nil' (r : List Span) : bothL r [] = [] := by
  have h : ∀ l : List (Int × Int), (l.flatMap fun p => meetL p []) = [] := fun l => by
    induction l with
    | nil => rfl
    | cons a l ih => rw [List.flatMap_cons, ih]; rfl
  show normL ((endsL r).flatMap fun p => meetL p []) = []
  rw [h]
  rfl
theorem movedL_nil (q : List Span) : movedL [] q = [] := rfl
theorem movedL_nil' (r : List Span) : movedL r [] = [] := by
  have h : ∀ l : List (Int × Int), (l.flatMap fun p => ([] : List (Int × Int)).map fun u => (p.1 + u.1, p.2 + u.2)) = [] := fun l => by
    induction l with
    | nil => rfl
    | cons a l ih => rw [List.flatMap_cons, ih]; rfl
  show normL ((endsL r).flatMap fun p => ([] : List (Int × Int)).map fun u => (p.1 + u.1, p.2 + u.2)) = []
  rw [h]
  rfl
theorem both_desc {A C : Int → Prop} {r q : List Span} {B : Int} (hB : B < 10 ^ 38) (dr : Desc A r) (dq : Desc C q) (br : Bnd B r) (bq : Bnd B q) : Desc (fun v => A v ∧ C v) (bothL r q) ∧ Bnd B (bothL r q) := by
  rcases dr with ⟨rfl, d⟩ | ⟨s, rfl, ⟨v, hv⟩, d⟩
  · exact ⟨.inl ⟨rfl, fun v h => d v h.1⟩, Bnd.nil B⟩
  rcases dq with ⟨rfl, e⟩ | ⟨u, rfl, ⟨w, hw⟩, e⟩
  · rw [bothL_nil']
    exact ⟨.inl ⟨rfl, fun v h => e v h.2⟩, Bnd.nil B⟩
  have b1 := br s (by simp)
  have b2 := bq u (by simp)
  obtain ⟨lo, hi⟩ := s
  obtain ⟨lo', hi'⟩ := u
  have hs := (d v).mp hv
  have hu := (e w).mp hw
  have hB0 : B < 10 ^ 38 := hB
  -- the two ends in numbers
  have key : bothL [(lo, hi)] [(lo', hi')] = normL (if max (lo.getD (-10 ^ 40)) (lo'.getD (-10 ^ 40)) ≤ min (hi.getD (10 ^ 40)) (hi'.getD (10 ^ 40)) then [(max (lo.getD (-10 ^ 40)) (lo'.getD (-10 ^ 40)), min (hi.getD (10 ^ 40)) (hi'.getD (10 ^ 40)))] else []) := by
    show normL ([(lo.getD (-10 ^ 40), hi.getD (10 ^ 40))].flatMap fun p => meetL p [(lo'.getD (-10 ^ 40), hi'.getD (10 ^ 40))]) = _
    rw [List.flatMap_cons, List.flatMap_nil, List.append_nil]
    unfold meetL
    by_cases hc : max (lo.getD (-10 ^ 40)) (lo'.getD (-10 ^ 40)) ≤ min (hi.getD (10 ^ 40)) (hi'.getD (10 ^ 40))
    · rw [if_pos hc, List.filter_cons, if_pos (decide_eq_true hc)]
      rfl
    · rw [if_neg hc, List.filter_cons, if_neg (fun z => hc (of_decide_eq_true z))]
      rfl
  rw [key]
  have low : ∃ lo2 : Option Int, (if max (lo.getD (-10 ^ 40)) (lo'.getD (-10 ^ 40)) < -10 ^ 39 then none else some (max (lo.getD (-10 ^ 40)) (lo'.getD (-10 ^ 40)))) = lo2 ∧ (∀ l, lo2 = some l → (-B ≤ l ∧ l ≤ B) ∧ l = max (lo.getD (-10 ^ 40)) (lo'.getD (-10 ^ 40))) ∧
      ∀ x, (∀ l, lo2 = some l → l ≤ x) ↔ (∀ l, lo = some l → l ≤ x) ∧ (∀ l, lo' = some l → l ≤ x) := by
    cases lo with
    | none =>
      cases lo' with
      | none =>
        refine ⟨none, if_pos (by simp only [Option.getD_none]; omega), fun l h => (nomatch h), fun x => ⟨fun _ => ⟨fun l h => (nomatch h), fun l h => (nomatch h)⟩, fun _ l h => (nomatch h)⟩⟩
      | some l =>
        have := b2.1 l rfl
        simp only [Option.getD_none, Option.getD_some]
        refine ⟨some l, by rw [if_neg (by omega)]; congr 1; omega, fun x h => by cases h; omega, fun x => ⟨fun h => ⟨fun l h => (nomatch h), h⟩, fun h => h.2⟩⟩
    | some l0 =>
      have := b1.1 l0 rfl
      cases lo' with
      | none =>
        simp only [Option.getD_none, Option.getD_some]
        refine ⟨some l0, by rw [if_neg (by omega)]; congr 1; omega, fun x h => by cases h; omega, fun x => ⟨fun h => ⟨h, fun l h => (nomatch h)⟩, fun h => h.1⟩⟩
      | some l =>
        have := b2.1 l rfl
        simp only [Option.getD_some]
        refine ⟨some (max l0 l), by rw [if_neg (by omega)], fun x h => by cases h; omega, fun x => ⟨fun h => ?_, fun h y hy => ?_⟩⟩
        · have := h _ rfl
          exact ⟨fun y hy => by cases hy; omega, fun y hy => by cases hy; omega⟩
        · cases hy
          have := h.1 _ rfl
          have := h.2 _ rfl
          omega
  have high : ∃ hi2 : Option Int, (if min (hi.getD (10 ^ 40)) (hi'.getD (10 ^ 40)) > 10 ^ 39 then none else some (min (hi.getD (10 ^ 40)) (hi'.getD (10 ^ 40)))) = hi2 ∧ (∀ l, hi2 = some l → (-B ≤ l ∧ l ≤ B) ∧ l = min (hi.getD (10 ^ 40)) (hi'.getD (10 ^ 40))) ∧
      ∀ x, (∀ l, hi2 = some l → x ≤ l) ↔ (∀ l, hi = some l → x ≤ l) ∧ (∀ l, hi' = some l → x ≤ l) := by
    cases hi with
    | none =>
      cases hi' with
      | none =>
        refine ⟨none, if_pos (by simp only [Option.getD_none]; omega), fun l h => (nomatch h), fun x => ⟨fun _ => ⟨fun l h => (nomatch h), fun l h => (nomatch h)⟩, fun _ l h => (nomatch h)⟩⟩
      | some l =>
        have := b2.2 l rfl
        simp only [Option.getD_none, Option.getD_some]
        refine ⟨some l, by rw [if_neg (by omega)]; congr 1; omega, fun x h => by cases h; omega, fun x => ⟨fun h => ⟨fun l h => (nomatch h), h⟩, fun h => h.2⟩⟩
    | some l0 =>
      have := b1.2 l0 rfl
      cases hi' with
      | none =>
        simp only [Option.getD_none, Option.getD_some]
        refine ⟨some l0, by rw [if_neg (by omega)]; congr 1; omega, fun x h => by cases h; omega, fun x => ⟨fun h => ⟨h, fun l h => (nomatch h)⟩, fun h => h.1⟩⟩
      | some l =>
        have := b2.2 l rfl
        simp only [Option.getD_some]
        refine ⟨some (min l0 l), by rw [if_neg (by omega)], fun x h => by cases h; omega, fun x => ⟨fun h => ?_, fun h y hy => ?_⟩⟩
        · have := h _ rfl
          exact ⟨fun y hy => by cases hy; omega, fun y hy => by cases hy; omega⟩
        · cases hy
          have := h.1 _ rfl
          have := h.2 _ rfl
          omega
  obtain ⟨lo2, l1, l2, l3⟩ := low
  obtain ⟨hi2, h1, h2, h3⟩ := high
  have inn : ∀ x, A x ∧ C x ↔ InSpan (lo2, hi2) x := fun x => by
    rw [d x, e x]
    constructor
    · rintro ⟨⟨p1, p2⟩, ⟨p3, p4⟩⟩
      exact ⟨(l3 x).mpr ⟨p1, p3⟩, (h3 x).mpr ⟨p2, p4⟩⟩
    · rintro ⟨p1, p2⟩
      have q1 := (l3 x).mp p1
      have q2 := (h3 x).mp p2
      exact ⟨⟨q1.1, q2.1⟩, ⟨q1.2, q2.2⟩⟩
  by_cases hc : max (lo.getD (-10 ^ 40)) (lo'.getD (-10 ^ 40)) ≤ min (hi.getD (10 ^ 40)) (hi'.getD (10 ^ 40))
  · rw [if_pos hc]
    have en : normL [(max (lo.getD (-10 ^ 40)) (lo'.getD (-10 ^ 40)), min (hi.getD (10 ^ 40)) (hi'.getD (10 ^ 40)))] = [(lo2, hi2)] := by
      unfold normL
      rw [List.map_cons, List.map_nil, l1, h1]
    rw [en]
    refine ⟨.inr ⟨_, rfl, ?_, inn⟩, fun z hz => ?_⟩
    · -- a point
      cases lo2 with
      | some l =>
        refine ⟨l, (inn l).mpr ⟨fun y hy => by cases hy; omega, fun y hy => ?_⟩⟩
        have := (l2 l rfl).2
        have := (h2 y hy).2
        omega
      | none =>
        cases hi2 with
        | some h => exact ⟨h, (inn h).mpr ⟨fun y hy => (nomatch hy), fun y hy => by cases hy; omega⟩⟩
        | none => exact ⟨0, (inn 0).mpr ⟨fun y hy => (nomatch hy), fun y hy => (nomatch hy)⟩⟩
    · rw [List.mem_singleton.mp hz]
      exact ⟨fun l hl => (l2 l hl).1, fun l hl => (h2 l hl).1⟩
  · rw [if_neg hc]
    refine ⟨.inl ⟨rfl, fun x hx => hc ?_⟩, Bnd.nil B⟩
    have hx : A x ∧ C x := hx
    rw [d x, e x] at hx
    obtain ⟨⟨p1, p2⟩, ⟨p3, p4⟩⟩ := hx
    have g1 : max (lo.getD (-10 ^ 40)) (lo'.getD (-10 ^ 40)) ≤ min (hi.getD (10 ^ 40)) (hi'.getD (10 ^ 40)) := by
      cases lo <;> cases hi <;> cases lo' <;> cases hi' <;> simp only [Option.getD_none, Option.getD_some] <;>
        (try have a1 := b1.1 _ rfl) <;> (try have a2 := b1.2 _ rfl) <;> (try have a3 := b2.1 _ rfl) <;> (try have a4 := b2.2 _ rfl) <;>
        (try have c1 := p1 _ rfl) <;> (try have c2 := p2 _ rfl) <;> (try have c3 := p3 _ rfl) <;> (try have c4 := p4 _ rfl) <;> omega
    exact g1
def addO : Option Int → Option Int → Option Int
  | some a, some b => some (a + b)
  | _, _ => none
theorem addO_some : ∀ {a b : Option Int} {l : Int}, addO a b = some l → ∃ x y, a = some x ∧ b = some y ∧ l = x + y
  | some x, some y, _, h => ⟨x, y, rfl, rfl, (Option.some.inj h).symm⟩
  | some _, none, _, h => nomatch h
  | none, some _, _, h => nomatch h
  | none, none, _, h => nomatch h
theorem moved_desc {A C : Int → Prop} {r q : List Span} {B D : Int} (hB : B < 10 ^ 38) (hD : D < 10 ^ 38) (dr : Desc A r) (dq : Desc C q) (br : Bnd B r) (bq : Bnd D q) : Desc (fun v => ∃ a c, A a ∧ C c ∧ v = a + c) (movedL r q) ∧ Bnd (B + D) (movedL r q) := by
  rcases dr with ⟨rfl, d⟩ | ⟨s, rfl, ⟨v, hv⟩, d⟩
  · exact ⟨.inl ⟨rfl, fun v ⟨a, _, h, _⟩ => d a h⟩, Bnd.nil _⟩
  rcases dq with ⟨rfl, e⟩ | ⟨u, rfl, ⟨w, hw⟩, e⟩
  · rw [movedL_nil']
    exact ⟨.inl ⟨rfl, fun v ⟨_, c, _, h, _⟩ => e c h⟩, Bnd.nil _⟩
  have b1 := br s (by simp)
  have b2 := bq u (by simp)
  obtain ⟨lo, hi⟩ := s
  obtain ⟨lo', hi'⟩ := u
  have hs := (d v).mp hv
  have hu := (e w).mp hw
  have low : (if lo.getD (-10 ^ 40) + lo'.getD (-10 ^ 40) < -10 ^ 39 then none else some (lo.getD (-10 ^ 40) + lo'.getD (-10 ^ 40))) = addO lo lo' := by
    cases lo <;> cases lo' <;> simp only [Option.getD_none, Option.getD_some] <;> (try have a1 := b1.1 _ rfl) <;> (try have a3 := b2.1 _ rfl) <;> first | exact if_pos (by omega) | exact if_neg (by omega)
  have high : (if hi.getD (10 ^ 40) + hi'.getD (10 ^ 40) > 10 ^ 39 then none else some (hi.getD (10 ^ 40) + hi'.getD (10 ^ 40))) = addO hi hi' := by
    cases hi <;> cases hi' <;> simp only [Option.getD_none, Option.getD_some] <;> (try have a1 := b1.2 _ rfl) <;> (try have a3 := b2.2 _ rfl) <;> first | exact if_pos (by omega) | exact if_neg (by omega)
  have key : movedL [(lo, hi)] [(lo', hi')] = [(addO lo lo', addO hi hi')] := by
    rw [← low, ← high]
    rfl
  rw [key]
  refine ⟨.inr ⟨_, rfl, ⟨v + w, v, w, hv, hw, rfl⟩, fun x => ⟨?_, ?_⟩⟩, fun z hz => ?_⟩
  · rintro ⟨a, c, ha, hc, rfl⟩
    have ha := (d a).mp ha
    have hc := (e c).mp hc
    constructor
    · intro l hl
      obtain ⟨x1, y1, rfl, rfl, rfl⟩ := addO_some hl
      have := ha.1 _ rfl
      have := hc.1 _ rfl
      omega
    · intro l hl
      obtain ⟨x1, y1, rfl, rfl, rfl⟩ := addO_some hl
      have := ha.2 _ rfl
      have := hc.2 _ rfl
      omega
  · rintro ⟨h1, h2⟩
    have fin : ∃ a, InSpan (lo, hi) a ∧ InSpan (lo', hi') (x - a) := by
      cases lo <;> cases hi <;> cases lo' <;> cases hi' <;>
        (try have c1 := hs.1 _ rfl) <;> (try have c2 := hs.2 _ rfl) <;> (try have c3 := hu.1 _ rfl) <;> (try have c4 := hu.2 _ rfl) <;> (try have c5 := h1 _ rfl) <;> (try have c6 := h2 _ rfl)
      · exact ⟨0, ⟨fun _ h => (nomatch h), fun _ h => (nomatch h)⟩, ⟨fun _ h => (nomatch h), fun _ h => (nomatch h)⟩⟩
      · rename_i h'
        exact ⟨x - h', ⟨fun _ h => (nomatch h), fun _ h => (nomatch h)⟩, ⟨fun _ h => (nomatch h), fun _ h => by cases h; omega⟩⟩
      · rename_i l'
        exact ⟨x - l', ⟨fun _ h => (nomatch h), fun _ h => (nomatch h)⟩, ⟨fun _ h => by cases h; omega, fun _ h => (nomatch h)⟩⟩
      · rename_i l' h'
        exact ⟨x - l', ⟨fun _ h => (nomatch h), fun _ h => (nomatch h)⟩, ⟨fun _ h => by cases h; omega, fun _ h => by cases h; omega⟩⟩
      · rename_i h0
        exact ⟨h0, ⟨fun _ h => (nomatch h), fun _ h => by cases h; omega⟩, ⟨fun _ h => (nomatch h), fun _ h => (nomatch h)⟩⟩
      · rename_i h0 h'
        exact ⟨x - h', ⟨fun _ h => (nomatch h), fun _ h => by cases h; omega⟩, ⟨fun _ h => (nomatch h), fun _ h => by cases h; omega⟩⟩
      · rename_i h0 l'
        exact ⟨min h0 (x - l'), ⟨fun _ h => (nomatch h), fun _ h => by cases h; omega⟩, ⟨fun _ h => by cases h; omega, fun _ h => (nomatch h)⟩⟩
      · rename_i h0 l' h'
        exact ⟨min h0 (x - l'), ⟨fun _ h => (nomatch h), fun _ h => by cases h; omega⟩, ⟨fun _ h => by cases h; omega, fun _ h => by cases h; omega⟩⟩
      · rename_i l0
        exact ⟨l0, ⟨fun _ h => by cases h; omega, fun _ h => (nomatch h)⟩, ⟨fun _ h => (nomatch h), fun _ h => (nomatch h)⟩⟩
      · rename_i l0 h'
        exact ⟨max l0 (x - h'), ⟨fun _ h => by cases h; omega, fun _ h => (nomatch h)⟩, ⟨fun _ h => (nomatch h), fun _ h => by cases h; omega⟩⟩
      · rename_i l0 l'
        exact ⟨l0, ⟨fun _ h => by cases h; omega, fun _ h => (nomatch h)⟩, ⟨fun _ h => by cases h; omega, fun _ h => (nomatch h)⟩⟩
      · rename_i l0 l' h'
        exact ⟨max l0 (x - h'), ⟨fun _ h => by cases h; omega, fun _ h => (nomatch h)⟩, ⟨fun _ h => by cases h; omega, fun _ h => by cases h; omega⟩⟩
      · rename_i l0 h0
        exact ⟨l0, ⟨fun _ h => by cases h; omega, fun _ h => by cases h; omega⟩, ⟨fun _ h => (nomatch h), fun _ h => (nomatch h)⟩⟩
      · rename_i l0 h0 h'
        exact ⟨max l0 (x - h'), ⟨fun _ h => by cases h; omega, fun _ h => by cases h; omega⟩, ⟨fun _ h => (nomatch h), fun _ h => by cases h; omega⟩⟩
      · rename_i l0 h0 l'
        exact ⟨l0, ⟨fun _ h => by cases h; omega, fun _ h => by cases h; omega⟩, ⟨fun _ h => by cases h; omega, fun _ h => (nomatch h)⟩⟩
      · rename_i l0 h0 l' h'
        exact ⟨max l0 (x - h'), ⟨fun _ h => by cases h; omega, fun _ h => by cases h; omega⟩, ⟨fun _ h => by cases h; omega, fun _ h => by cases h; omega⟩⟩
    obtain ⟨a, p1, p2⟩ := fin
    exact ⟨a, x - a, (d a).mpr p1, (e (x - a)).mpr p2, by omega⟩
  · rw [List.mem_singleton.mp hz]
    constructor
    · intro l hl
      obtain ⟨x1, y1, rfl, rfl, rfl⟩ := addO_some hl
      have := b1.1 _ rfl
      have := b2.1 _ rfl
      omega
    · intro l hl
      obtain ⟨x1, y1, rfl, rfl, rfl⟩ := addO_some hl
      have := b1.2 _ rfl
      have := b2.2 _ rfl
      omega
theorem turned_desc {A : Int → Prop} {r : List Span} {B : Int} (dr : Desc A r) (br : Bnd B r) : Desc (fun v => A (-v)) (turnedL r) ∧ Bnd B (turnedL r) := by
  rcases dr with ⟨rfl, d⟩ | ⟨s, rfl, ⟨v, hv⟩, d⟩
  · exact ⟨.inl ⟨rfl, fun v h => d _ h⟩, Bnd.nil _⟩
  obtain ⟨lo, hi⟩ := s
  have b1 := br (lo, hi) (by simp)
  refine ⟨.inr ⟨(hi.map (- ·), lo.map (- ·)), rfl, ⟨-v, by show A (- -v); rw [Int.neg_neg]; exact hv⟩, fun x => ?_⟩, fun z hz => ?_⟩
  · show A (-x) ↔ _
    rw [d (-x)]
    constructor
    · rintro ⟨h1, h2⟩
      constructor
      · intro l hl
        cases hi with
        | none => exact (nomatch hl)
        | some h => have hl : some (-h) = some l := hl; cases hl; have := h2 h rfl; omega
      · intro l hl
        cases lo with
        | none => exact (nomatch hl)
        | some h => have hl : some (-h) = some l := hl; cases hl; have := h1 h rfl; omega
    · rintro ⟨h1, h2⟩
      constructor
      · intro l hl
        cases hl
        have h3 : x ≤ -l := h2 _ rfl
        omega
      · intro l hl
        cases hl
        have h3 : -l ≤ x := h1 _ rfl
        omega
  · have hz : z ∈ [(hi.map (- ·), lo.map (- ·))] := hz
    rw [List.mem_singleton.mp hz]
    constructor
    · intro l hl
      cases hi with
      | none => exact (nomatch hl)
      | some h => have hl : some (-h) = some l := hl; cases hl; have := b1.2 h rfl; omega
    · intro l hl
      cases lo with
      | none => exact (nomatch hl)
      | some h => have hl : some (-h) = some l := hl; cases hl; have := b1.1 h rfl; omega
theorem one_desc {a b : Int} (h : a ≤ b) : Desc (fun v => a ≤ v ∧ v ≤ b) [(some a, some b)] :=
  .inr ⟨_, rfl, ⟨a, Int.le_refl _, h⟩, fun v => ⟨fun z => ⟨fun _ e => by cases e; exact z.1, fun _ e => by cases e; exact z.2⟩, fun z => ⟨z.1 _ rfl, z.2 _ rfl⟩⟩⟩
theorem one_bnd {a b B : Int} (h1 : -B ≤ a) (h2 : a ≤ B) (h3 : -B ≤ b) (h4 : b ≤ B) : Bnd B [(some a, some b)] := fun z hz => by
  rw [List.mem_singleton.mp hz]
  exact ⟨fun _ e => by cases e; exact ⟨h1, h2⟩, fun _ e => by cases e; exact ⟨h3, h4⟩⟩
end Sh
end
section
set_option autoImplicit false
namespace Sh
inductive Note (τ : Type) where
  | frm (i : Nat) (l m : Int)
  | says (v : τ) (l h : Int)
structure Deed (τ : Type) where
  st : τ
  tick : Int
  notes : List (Note τ)
abbrev Pnt (τ : Type) := τ × Int × Int
def Rl (d n m t u : Int) : Prop := (m - n) * (1000 - d) ≤ u - t ∧ u - t ≤ (m - n) * (1000 + d)
theorem Rl.eq {d n t u : Int} (h : Rl d n n t u) : u = t := by
  have := h.1
  have := h.2
  rw [Int.sub_self, Int.zero_mul] at *
  omega
theorem Rl.refl (d n t : Int) : Rl d n n t t := by
  unfold Rl
  rw [Int.sub_self, Int.zero_mul, Int.zero_mul]
  omega
theorem Rl.trans {d n m o t u v : Int} (a : Rl d n m t u) (b : Rl d m o u v) : Rl d n o t v := by
  obtain ⟨a1, a2⟩ := a
  obtain ⟨b1, b2⟩ := b
  have e : o - n = (m - n) + (o - m) := by omega
  unfold Rl
  rw [e, Int.add_mul, Int.add_mul]
  omega
section
variable {τ : Type}
def Pt (deeds : List (Deed τ)) (T : Nat → Int) (spots : List (Pnt τ)) (p : Pnt τ) : Prop := (∃ i d, deeds[i]? = some d ∧ p = (d.st, d.tick, T i)) ∨ p ∈ spots
def Drift (lean : τ → Int) (P : Pnt τ → Prop) : Prop := ∀ p q, P p → P q → p.1 = q.1 → p.2.1 ≤ q.2.1 → Rl (lean p.1) p.2.1 q.2.1 p.2.2 q.2.2
def NoteOk (T : Nat → Int) (i : Nat) : Note τ → Prop
  | .frm j l m => l ≤ T i - T j ∧ T i - T j ≤ m
  | .says _ l h => l ≤ T i ∧ T i ≤ h
def NotesOk (deeds : List (Deed τ)) (T : Nat → Int) : Prop := ∀ i d, deeds[i]? = some d → ∀ n ∈ d.notes, NoteOk T i n
def Sem (lean : τ → Int) (deeds : List (Deed τ)) (T : Nat → Int) (spots : List (Pnt τ)) : Prop := Drift lean (Pt deeds T spots) ∧ NotesOk deeds T
theorem Drift.mono {lean : τ → Int} {P Q : Pnt τ → Prop} (h : Drift lean P) (s : ∀ p, Q p → P p) : Drift lean Q := fun p q hp hq => h p q (s p hp) (s q hq)
theorem Sem.fewer {lean : τ → Int} {deeds : List (Deed τ)} {T : Nat → Int} {spots less : List (Pnt τ)} (h : Sem lean deeds T spots) (s : ∀ p ∈ less, p ∈ spots) : Sem lean deeds T less :=
  ⟨h.1.mono fun p hp => hp.imp id (s p), h.2⟩
/-- a spot at an event's reading has the event's time -/
theorem Sem.at_event {lean : τ → Int} {deeds : List (Deed τ)} {T : Nat → Int} {spots : List (Pnt τ)} (h : Sem lean deeds T spots) {i : Nat} {d : Deed τ} (hd : deeds[i]? = some d) {v : Int} (hs : (d.st, d.tick, v) ∈ spots) : v = T i :=
  (h.1 (d.st, d.tick, T i) (d.st, d.tick, v) (.inl ⟨i, d, hd, rfl⟩) (.inr hs) rfl (Int.le_refl _)).eq
/-- an event's own moment beside it -/
theorem Sem.add_event {lean : τ → Int} {deeds : List (Deed τ)} {T : Nat → Int} {spots more : List (Pnt τ)} (h : Sem lean deeds T spots) {i : Nat} {d : Deed τ} (hd : deeds[i]? = some d) (hm : ∀ p ∈ more, p = (d.st, d.tick, T i) ∨ p ∈ spots) : Sem lean deeds T more :=
  ⟨h.1.mono fun p hp => hp.elim .inl fun q => (hm p q).elim (fun z => .inl ⟨i, d, hd, z⟩) .inr, h.2⟩
structure Group (τ : Type) where
  lean : τ → Int
  deeds : List (Deed τ)
def Note.ren (f : Nat → Nat) : Note τ → Note τ
  | .frm j l m => .frm (f j) l m
  | .says v l h => .says v l h
structure Joined (G : Bool → Group τ) (lean : τ → Int) (deeds : List (Deed τ)) (pl : Bool → Nat → Nat) (e : Bool → Nat) (least most : Int) : Prop where
  endok : ∀ k, e k < (G k).deeds.length
  at_ : ∀ k i d, (G k).deeds[i]? = some d → deeds[pl k i]? = some ⟨d.st, d.tick, d.notes.map (Note.ren (pl k)) ++ (if k = true ∧ i = e true then [.frm (pl false (e false)) least most] else [])⟩
  all : ∀ p d, deeds[p]? = some d → ∃ k i, i < (G k).deeds.length ∧ p = pl k i
  inj : ∀ k k' i i', i < (G k).deeds.length → i' < (G k').deeds.length → pl k i = pl k' i' → k = k' ∧ i = i'
  apart : ∀ d ∈ (G false).deeds, ∀ d' ∈ (G true).deeds, d.st ≠ d'.st
  leanok : ∀ k, ∀ d ∈ (G k).deeds, lean d.st = (G k).lean d.st
  back : ∀ k, ∀ d ∈ (G k).deeds, ∀ j l m, Note.frm j l m ∈ d.notes → j < (G k).deeds.length
/-- a station that is group k's alone -/
def Own (G : Bool → Group τ) (lean : τ → Int) (k : Bool) (s : τ) : Prop := (∀ d ∈ (G (!k)).deeds, d.st ≠ s) ∧ lean s = (G k).lean s
section
variable {G : Bool → Group τ} {lean : τ → Int} {deeds : List (Deed τ)} {pl : Bool → Nat → Nat} {e : Bool → Nat} {least most : Int}
theorem Joined.own (J : Joined G lean deeds pl e least most) (k : Bool) {d : Deed τ} (hd : d ∈ (G k).deeds) : Own G lean k d.st := by
  refine ⟨fun d' hd' => ?_, J.leanok k d hd⟩
  cases k with
  | false => exact fun z => J.apart d hd d' hd' z.symm
  | true => exact J.apart d' hd' d hd
theorem get_lt {β : Type} {l : List β} {i : Nat} (h : i < l.length) : ∃ x, l[i]? = some x := ⟨_, List.getElem?_eq_getElem h⟩
theorem lt_get {β : Type} {l : List β} {i : Nat} {x : β} (h : l[i]? = some x) : i < l.length := (List.getElem?_eq_some_iff.mp h).1
theorem Joined.split (J : Joined G lean deeds pl e least most) {spots : Bool → List (Pnt τ)} (ho : ∀ k, ∀ p ∈ spots k, Own G lean k p.1) (hs : ∀ p ∈ spots false, ∀ q ∈ spots true, p.1 ≠ q.1) (T : Nat → Int) :
    Sem lean deeds T (spots false ++ spots true) ↔ (∀ k, Sem (G k).lean (G k).deeds (fun i => T (pl k i)) (spots k)) ∧ least ≤ T (pl true (e true)) - T (pl false (e false)) ∧ T (pl true (e true)) - T (pl false (e false)) ≤ most := by
  constructor
  · intro h
    refine ⟨fun k => ⟨fun p q hp hq e1 e2 => ?_, fun i d hd n hn => ?_⟩, ?_⟩
    · have hown : ∀ p, Pt (G k).deeds (fun i => T (pl k i)) (spots k) p → Pt deeds T (spots false ++ spots true) p ∧ Own G lean k p.1 := fun p hp => by
        rcases hp with ⟨i, d, hd, rfl⟩ | hp
        · exact ⟨.inl ⟨pl k i, _, J.at_ k i d hd, rfl⟩, J.own k (List.mem_of_getElem? hd)⟩
        · refine ⟨.inr ?_, ho k p hp⟩
          cases k with
          | false => exact List.mem_append_left _ hp
          | true => exact List.mem_append_right _ hp
      have a := h.1 p q (hown p hp).1 (hown q hq).1 e1 e2
      rw [(hown p hp).2.2] at a
      exact a
    · have a := h.2 (pl k i) _ (J.at_ k i d hd) (n.ren (pl k)) (List.mem_append_left _ (List.mem_map.mpr ⟨n, hn, rfl⟩))
      cases n <;> exact a
    · obtain ⟨d, hd⟩ := get_lt (J.endok true)
      have a := h.2 (pl true (e true)) _ (J.at_ true (e true) d hd) (.frm (pl false (e false)) least most) (List.mem_append_right _ (by rw [if_pos ⟨rfl, rfl⟩]; simp))
      exact a
  · rintro ⟨h, hm⟩
    constructor
    · -- each point is one group's
      have hpt : ∀ p, Pt deeds T (spots false ++ spots true) p → ∃ k, Pt (G k).deeds (fun i => T (pl k i)) (spots k) p ∧ Own G lean k p.1 := fun p hp => by
        rcases hp with ⟨i, d, hd, rfl⟩ | hp
        · obtain ⟨k, j, hj, rfl⟩ := J.all i d hd
          obtain ⟨d', hd'⟩ := get_lt hj
          have e1 := J.at_ k j d' hd'
          rw [hd] at e1
          have e1 := Option.some.inj e1
          have z1 : d.st = d'.st := by rw [e1]
          have z2 : d.tick = d'.tick := by rw [e1]
          refine ⟨k, .inl ⟨j, d', hd', ?_⟩, ?_⟩
          · show (d.st, d.tick, T (pl k j)) = _
            rw [z1, z2]
          · show Own G lean k d.st
            rw [z1]
            exact J.own k (List.mem_of_getElem? hd')
        · rcases List.mem_append.mp hp with hp | hp
          · exact ⟨false, .inr hp, ho false p hp⟩
          · exact ⟨true, .inr hp, ho true p hp⟩
      have far : ∀ p q, Pt (G false).deeds (fun i => T (pl false i)) (spots false) p → Own G lean false p.1 → Pt (G true).deeds (fun i => T (pl true i)) (spots true) q → Own G lean true q.1 → p.1 ≠ q.1 := fun p q hp op hq oq => by
        rcases hp with ⟨i, d, hd, rfl⟩ | hp
        · exact oq.1 d (List.mem_of_getElem? hd)
        · rcases hq with ⟨i', d', hd', rfl⟩ | hq
          · exact fun z => op.1 d' (List.mem_of_getElem? hd') z.symm
          · exact hs p hp q hq
      intro p q hp hq e1 e2
      obtain ⟨k, hp1, hp2⟩ := hpt p hp
      obtain ⟨k', hq1, hq2⟩ := hpt q hq
      have hk : k = k' := by
        cases k <;> cases k' <;> first | rfl | (exfalso; first | exact far p q hp1 hp2 hq1 hq2 e1 | exact far q p hq1 hq2 hp1 hp2 e1.symm)
      subst hk
      rw [hp2.2]
      exact (h k).1 p q hp1 hq1 e1 e2
    · intro p d hd n hn
      obtain ⟨k, j, hj, rfl⟩ := J.all p d hd
      obtain ⟨d', hd'⟩ := get_lt hj
      have e1 := J.at_ k j d' hd'
      rw [hd] at e1
      have e1 := Option.some.inj e1
      rw [e1] at hn
      have hn : n ∈ d'.notes.map (Note.ren (pl k)) ++ (if k = true ∧ j = e true then [.frm (pl false (e false)) least most] else []) := hn
      rcases List.mem_append.mp hn with hn1 | hn2
      · obtain ⟨n', hn', rfl⟩ := List.mem_map.mp hn1
        have a := (h k).2 j d' hd' n' hn'
        cases n' <;> exact a
      · by_cases hc : k = true ∧ j = e true
        · rw [if_pos hc] at hn2
          obtain ⟨rfl, rfl⟩ := hc
          rw [List.mem_singleton.mp hn2]
          exact hm
        · rw [if_neg hc] at hn2
          exact nomatch hn2
/-- times of both groups together -/
theorem Joined.glue (J : Joined G lean deeds pl e least most) (T : Bool → Nat → Int) : ∃ U : Nat → Int, ∀ k i, i < (G k).deeds.length → U (pl k i) = T k i := by
  have h : ∀ p, ∃ u : Int, ∀ k i, i < (G k).deeds.length → p = pl k i → u = T k i := fun p => by
    by_cases hp : ∃ k i, i < (G k).deeds.length ∧ p = pl k i
    · obtain ⟨k, i, hi, rfl⟩ := hp
      refine ⟨T k i, fun k' i' hi' q => ?_⟩
      obtain ⟨rfl, rfl⟩ := J.inj k k' i i' hi hi' q
      rfl
    · exact ⟨0, fun k i hi q => absurd ⟨k, i, hi, q⟩ hp⟩
  exact ⟨fun p => Classical.choose (h p), fun k i hi => Classical.choose_spec (h (pl k i)) k i hi rfl⟩
/-- only the times of the events count -/
theorem Sem.congr {lean : τ → Int} {deeds : List (Deed τ)} {T U : Nat → Int} {spots : List (Pnt τ)} (hb : ∀ d ∈ deeds, ∀ j l m, Note.frm j l m ∈ d.notes → j < deeds.length) (h : ∀ i, i < deeds.length → T i = U i) (s : Sem lean deeds T spots) : Sem lean deeds U spots := by
  refine ⟨s.1.mono fun p hp => hp.imp (fun ⟨i, d, hd, q⟩ => ⟨i, d, hd, by rw [h i (lt_get hd)]; exact q⟩) id, fun i d hd n hn => ?_⟩
  have a := s.2 i d hd n hn
  cases n with
  | frm j l m =>
    have a : l ≤ T i - T j ∧ T i - T j ≤ m := a
    rw [h i (lt_get hd), h j (hb d (List.mem_of_getElem? hd) j l m hn)] at a
    exact a
  | says v l m =>
    have a : l ≤ T i ∧ T i ≤ m := a
    rw [h i (lt_get hd)] at a
    exact a
/-- what is possible of a moment by itself -/
def Poss (lean : τ → Int) (deeds : List (Deed τ)) (s : τ × Int) (v : Int) : Prop := ∃ T, Sem lean deeds T [(s.1, s.2, v)]
def Apart (lean : τ → Int) (deeds : List (Deed τ)) (s u : τ × Int) (v : Int) : Prop := ∃ T x y, Sem lean deeds T [(s.1, s.2, x), (u.1, u.2, y)] ∧ y - x = v
variable {sp : Bool → τ × Int}
/-- both groups' ends -/
structure Ends2 (G : Bool → Group τ) (e : Bool → Nat) (sp : Bool → τ × Int) : Prop where
  at_ : ∀ k, ∃ d, (G k).deeds[e k]? = some d ∧ sp k = (d.st, d.tick)
theorem Ends2.poss (en : Ends2 G e sp) (k : Bool) (v : Int) : Poss (G k).lean (G k).deeds (sp k) v ↔ ∃ T, Sem (G k).lean (G k).deeds T [] ∧ T (e k) = v := by
  obtain ⟨d, hd, q⟩ := en.at_ k
  rw [q]
  constructor
  · rintro ⟨T, hT⟩
    exact ⟨T, hT.fewer (fun p h => nomatch h), (hT.at_event hd (by simp)).symm⟩
  · rintro ⟨T, hT, rfl⟩
    exact ⟨T, hT.add_event hd fun p hp => .inl (by simpa using hp)⟩
/-- the other end allows it -/
def Allows (G : Bool → Group τ) (sp : Bool → τ × Int) (least most : Int) : Bool → Int → Prop
  | false, x => ∃ u, Poss (G true).lean (G true).deeds (sp true) u ∧ least ≤ u - x ∧ u - x ≤ most
  | true, u => ∃ x, Poss (G false).lean (G false).deeds (sp false) x ∧ least ≤ u - x ∧ u - x ≤ most
/-- a moment of one group, in the whole history -/
theorem Joined.known (J : Joined G lean deeds pl e least most) (en : Ends2 G e sp) {k : Bool} {s : τ × Int} (ho : Own G lean k s.1) (v : Int) :
    Poss lean deeds s v ↔ ∃ T, Sem (G k).lean (G k).deeds T [(s.1, s.2, v)] ∧ Allows G sp least most k (T (e k)) := by
  have spl := fun T => J.split (spots := fun j => if j = k then [(s.1, s.2, v)] else []) (fun j p hp => by
    by_cases hj : j = k
    · rw [if_pos hj] at hp
      rw [List.mem_singleton.mp hp, hj]
      exact ho
    · rw [if_neg hj] at hp
      exact nomatch hp) (fun p hp q hq => by
    cases k with
    | false => rw [if_neg (by decide)] at hq; exact nomatch hq
    | true => rw [if_neg (by decide)] at hp; exact nomatch hp) T
  have el : (if false = k then [(s.1, s.2, v)] else []) ++ (if true = k then [(s.1, s.2, v)] else []) = ([(s.1, s.2, v)] : List (Pnt τ)) := by cases k <;> rfl
  constructor
  · rintro ⟨T, hT⟩
    have h := (spl T).mp (by show Sem lean deeds T ((if false = k then [(s.1, s.2, v)] else []) ++ (if true = k then [(s.1, s.2, v)] else [])); rw [el]; exact hT)
    obtain ⟨h1, h2, h3⟩ := h
    refine ⟨fun i => T (pl k i), by have a := h1 k; rw [if_pos rfl] at a; exact a, ?_⟩
    cases k with
    | false => exact ⟨T (pl true (e true)), (en.poss true _).mpr ⟨_, (h1 true).fewer (fun p h => nomatch h), rfl⟩, h2, h3⟩
    | true => exact ⟨T (pl false (e false)), (en.poss false _).mpr ⟨_, (h1 false).fewer (fun p h => nomatch h), rfl⟩, h2, h3⟩
  · rintro ⟨Tk, hk, al⟩
    have fin : ∀ To : Nat → Int, Sem (G (!k)).lean (G (!k)).deeds To [] → (∀ a b, (k = false → a = Tk (e k) ∧ b = To (e (!k))) → (k = true → a = To (e (!k)) ∧ b = Tk (e k)) → least ≤ b - a ∧ b - a ≤ most) → Poss lean deeds s v := fun To ho' hm => by
      obtain ⟨U, hU⟩ := J.glue fun j => if j = k then Tk else To
      refine ⟨U, ?_⟩
      have a := (spl U).mpr ⟨fun j => ?_, ?_⟩
      · have a : Sem lean deeds U ((if false = k then [(s.1, s.2, v)] else []) ++ (if true = k then [(s.1, s.2, v)] else [])) := a
        rw [el] at a
        exact a
      · by_cases hj : j = k
        · rw [if_pos hj, hj]
          exact hk.congr (J.back k) fun i hi => by rw [hU k i hi, if_pos rfl]
        · have hj' : j = !k := by cases j <;> cases k <;> first | rfl | exact absurd rfl hj
          rw [if_neg hj, hj']
          exact ho'.congr (J.back (!k)) fun i hi => by rw [hU (!k) i hi, if_neg (by cases k <;> decide)]
      · rw [hU true _ (J.endok true), hU false _ (J.endok false)]
        refine hm _ _ (fun q => ?_) (fun q => ?_)
        · subst q
          exact ⟨rfl, rfl⟩
        · subst q
          exact ⟨rfl, rfl⟩
    cases k with
    | false =>
      obtain ⟨u, hu, h1, h2⟩ := al
      obtain ⟨To, h3, rfl⟩ := (en.poss true u).mp hu
      exact fin To h3 fun a b q _ => by
        obtain ⟨rfl, rfl⟩ := q rfl
        exact ⟨h1, h2⟩
    | true =>
      obtain ⟨u, hu, h1, h2⟩ := al
      obtain ⟨To, h3, rfl⟩ := (en.poss false u).mp hu
      exact fin To h3 fun a b _ q => by
        obtain ⟨rfl, rfl⟩ := q rfl
        exact ⟨h1, h2⟩
/-- the end itself -/
theorem Joined.known_end (J : Joined G lean deeds pl e least most) (en : Ends2 G e sp) (k : Bool) (v : Int) : Poss lean deeds (sp k) v ↔ Poss (G k).lean (G k).deeds (sp k) v ∧ Allows G sp least most k v := by
  obtain ⟨d, hd, q⟩ := en.at_ k
  have ho : Own G lean k (sp k).1 := by
    rw [q]
    exact J.own k (List.mem_of_getElem? hd)
  rw [J.known en ho v]
  constructor
  · rintro ⟨T, hT, ha⟩
    have := hT.at_event hd (v := v) (by rw [q]; simp)
    rw [this]
    refine ⟨⟨T, ?_⟩, ha⟩
    rw [← this]
    exact hT
  · rintro ⟨⟨T, hT⟩, ha⟩
    have := hT.at_event hd (v := v) (by rw [q]; simp)
    exact ⟨T, hT, by rw [← this]; exact ha⟩
/-- the difference of the ends -/
theorem Joined.apart_ends (J : Joined G lean deeds pl e least most) (en : Ends2 G e sp) (v : Int) : Apart lean deeds (sp false) (sp true) v ↔ (least ≤ v ∧ v ≤ most) ∧ ∃ x u, Poss (G false).lean (G false).deeds (sp false) x ∧ Poss (G true).lean (G true).deeds (sp true) u ∧ v = u - x := by
  obtain ⟨d0, hd0, q0⟩ := en.at_ false
  obtain ⟨d1, hd1, q1⟩ := en.at_ true
  have o0 : Own G lean false (sp false).1 := by rw [q0]; exact J.own false (List.mem_of_getElem? hd0)
  have o1 : Own G lean true (sp true).1 := by rw [q1]; exact J.own true (List.mem_of_getElem? hd1)
  have ne : (sp false).1 ≠ (sp true).1 := by rw [q0, q1]; exact J.apart d0 (List.mem_of_getElem? hd0) d1 (List.mem_of_getElem? hd1)
  have spl := fun T x u => J.split (spots := fun j => match j with | false => [((sp false).1, (sp false).2, x)] | true => [((sp true).1, (sp true).2, u)]) (fun j p hp => by
    cases j with
    | false => rw [List.mem_singleton.mp hp]; exact o0
    | true => rw [List.mem_singleton.mp hp]; exact o1) (fun p hp q hq => by
    rw [List.mem_singleton.mp hp, List.mem_singleton.mp hq]
    exact ne) T
  constructor
  · rintro ⟨T, x, y, hT, rfl⟩
    obtain ⟨h1, h2, h3⟩ := (spl T x y).mp hT
    have ex := (h1 false).at_event hd0 (v := x) (by rw [q0]; simp)
    have ey := (h1 true).at_event hd1 (v := y) (by rw [q1]; simp)
    refine ⟨?_, x, y, ⟨_, h1 false⟩, ⟨_, h1 true⟩, rfl⟩
    rw [ex, ey]
    exact ⟨h2, h3⟩
  · rintro ⟨hv, x, u, ⟨T0, h0⟩, ⟨T1, h1⟩, rfl⟩
    obtain ⟨U, hU⟩ := J.glue fun j => match j with | false => T0 | true => T1
    have ex := h0.at_event hd0 (v := x) (by rw [q0]; simp)
    have ey := h1.at_event hd1 (v := u) (by rw [q1]; simp)
    refine ⟨U, x, u, (spl U x u).mpr ⟨fun j => ?_, ?_⟩, rfl⟩
    · cases j with
      | false => exact h0.congr (J.back false) fun i hi => (hU false i hi).symm
      | true => exact h1.congr (J.back true) fun i hi => (hU true i hi).symm
    · have e1 := hU true _ (J.endok true)
      have e0 := hU false _ (J.endok false)
      simp only at e0 e1
      rw [e1, e0, ← ex, ← ey]
      exact hv
end
end
end Sh
end
section
set_option autoImplicit false
namespace Sh
section
variable {κ : Type}
def AdjOk (d : Int) (t : κ → Int) : List (Int × κ) → Prop
  | [] => True
  | [_] => True
  | p :: q :: r => Rl d p.1 q.1 (t p.2) (t q.2) ∧ AdjOk d t (q :: r)
def AllOk (d : Int) (t : κ → Int) (P : Int × κ → Prop) : Prop := ∀ p q, P p → P q → p.1 ≤ q.1 → Rl d p.1 q.1 (t p.2) (t q.2)
theorem AdjOk.pairs {d : Int} {t : κ → Int} : ∀ {l : List (Int × κ)}, AdjOk d t l → l.Pairwise fun p q => Rl d p.1 q.1 (t p.2) (t q.2)
  | [], _ => .nil
  | [_], _ => List.pairwise_singleton _ _
  | p :: q :: r, h => by
    have ih := AdjOk.pairs h.2
    refine .cons (fun x hx => ?_) ih
    rcases List.mem_cons.mp hx with rfl | hx
    · exact h.1
    · exact h.1.trans (List.rel_of_pairwise_cons ih hx)
theorem adj_all {d : Int} {t : κ → Int} {l : List (Int × κ)} (hs : l.Pairwise fun p q => p.1 ≤ q.1) : AdjOk d t l ↔ AllOk d t (· ∈ l) := by
  constructor
  · intro h p q hp hq hle
    have hP := h.pairs
    obtain ⟨i, hi, rfl⟩ := List.getElem_of_mem hp
    obtain ⟨j, hj, rfl⟩ := List.getElem_of_mem hq
    have g1 := List.pairwise_iff_getElem.mp hP
    have g2 := List.pairwise_iff_getElem.mp hs
    rcases Nat.lt_trichotomy i j with h1 | h1 | h1
    · exact g1 i j hi hj h1
    · subst h1
      exact Rl.refl _ _ _
    · have a := g1 j i hj hi h1
      have b := g2 j i hj hi h1
      have e : l[j].1 = l[i].1 := by omega
      rw [e] at a ⊢
      rw [a.eq]
      exact Rl.refl _ _ _
  · intro h
    induction l with
    | nil => trivial
    | cons p l ih =>
      cases l with
      | nil => trivial
      | cons q r =>
        refine ⟨h p q List.mem_cons_self (List.mem_cons_of_mem _ List.mem_cons_self) (List.rel_of_pairwise_cons hs List.mem_cons_self), ih hs.tail fun a b ha hb => h a b (List.mem_cons_of_mem _ ha) (List.mem_cons_of_mem _ hb)⟩
theorem AllOk.congr {d : Int} {t : κ → Int} {P Q : Int × κ → Prop} (h : ∀ p, P p ↔ Q p) : AllOk d t P ↔ AllOk d t Q :=
  ⟨fun a p q hp hq => a p q ((h p).mpr hp) ((h q).mpr hq), fun a p q hp hq => a p q ((h p).mp hp) ((h q).mp hq)⟩
/-- one more at the reading of one that is there -/
theorem all_same {d : Int} {t : κ → Int} {P : Int × κ → Prop} {n : Int} {a b : κ} (ha : P (n, a)) : AllOk d t (fun p => P p ∨ p = (n, b)) ↔ AllOk d t P ∧ t b = t a := by
  constructor
  · intro h
    exact ⟨fun p q hp hq => h p q (.inl hp) (.inl hq), (h (n, a) (n, b) (.inl ha) (.inr rfl) (Int.le_refl _)).eq⟩
  · rintro ⟨h, e⟩ p q hp hq hle
    rcases hp with hp | rfl <;> rcases hq with hq | rfl
    · exact h p q hp hq hle
    · have := h p (n, a) hp ha hle
      show Rl d p.1 n (t p.2) (t b)
      rw [e]
      exact this
    · have := h (n, a) q ha hq hle
      show Rl d n q.1 (t b) (t q.2)
      rw [e]
      exact this
    · exact Rl.refl _ _ _
theorem rl_edges {d n m x y : Int} : Rl d n m x y ↔ y ≤ x + (m - n) * (1000 + d) ∧ x ≤ y + -(m - n) * (1000 - d) := by
  unfold Rl
  rw [Int.neg_mul]
  omega
theorem rl_shift {d n m x y c : Int} : Rl d n m (x - c) (y - c) ↔ Rl d n m x y := by
  unfold Rl
  have : y - c - (x - c) = y - x := by omega
  rw [this]
end
section
variable {τ κ : Type}
abbrev PntK (τ κ : Type) := τ × Int × κ
def PtK (deeds : List (Deed τ)) (ev : Nat → κ) (spots : List (PntK τ κ)) (p : PntK τ κ) : Prop := (∃ i d, deeds[i]? = some d ∧ p = (d.st, d.tick, ev i)) ∨ p ∈ spots
def DriftK (lean : τ → Int) (t : κ → Int) (P : PntK τ κ → Prop) : Prop := ∀ p q, P p → P q → p.1 = q.1 → p.2.1 ≤ q.2.1 → Rl (lean p.1) p.2.1 q.2.1 (t p.2.2) (t q.2.2)
def NoteK (ev : Nat → κ) (o : κ) (t : κ → Int) (i : Nat) : Note τ → Prop
  | .frm j l m => t (ev i) ≤ t (ev j) + m ∧ t (ev j) ≤ t (ev i) + -l
  | .says _ l h => t (ev i) ≤ t o + h ∧ t o ≤ t (ev i) + -l
def FactsK (deeds : List (Deed τ)) (ev : Nat → κ) (o : κ) (t : κ → Int) : Prop := ∀ i d, deeds[i]? = some d → ∀ n ∈ d.notes, NoteK ev o t i n
def spotsAt (o : κ) (t : κ → Int) (spots : List (PntK τ κ)) : List (Pnt τ) := spots.map fun p => (p.1, p.2.1, t p.2.2 - t o)
theorem graph_sem {lean : τ → Int} {deeds : List (Deed τ)} {ev : Nat → κ} {o : κ} {spots : List (PntK τ κ)} {t : κ → Int} :
    (DriftK lean t (PtK deeds ev spots) ∧ FactsK deeds ev o t) ↔ Sem lean deeds (fun i => t (ev i) - t o) (spotsAt o t spots) := by
  constructor
  · rintro ⟨h1, h2⟩
    refine ⟨fun p q hp hq e1 e2 => ?_, fun i d hd n hn => ?_⟩
    · have h : ∀ p, Pt deeds (fun i => t (ev i) - t o) (spotsAt o t spots) p → ∃ p', PtK deeds ev spots p' ∧ p = (p'.1, p'.2.1, t p'.2.2 - t o) := fun p hp => by
        rcases hp with ⟨i, d, hd, rfl⟩ | hp
        · exact ⟨_, .inl ⟨i, d, hd, rfl⟩, rfl⟩
        · obtain ⟨p', h1, rfl⟩ := List.mem_map.mp hp
          exact ⟨p', .inr h1, rfl⟩
      obtain ⟨p', hp', rfl⟩ := h p hp
      obtain ⟨q', hq', rfl⟩ := h q hq
      exact rl_shift.mpr (h1 p' q' hp' hq' e1 e2)
    · have a := h2 i d hd n hn
      cases n with
      | frm j l m =>
        have a : t (ev i) ≤ t (ev j) + m ∧ t (ev j) ≤ t (ev i) + -l := a
        show l ≤ (t (ev i) - t o) - (t (ev j) - t o) ∧ (t (ev i) - t o) - (t (ev j) - t o) ≤ m
        omega
      | says v l m =>
        have a : t (ev i) ≤ t o + m ∧ t o ≤ t (ev i) + -l := a
        show l ≤ t (ev i) - t o ∧ t (ev i) - t o ≤ m
        omega
  · rintro ⟨h1, h2⟩
    refine ⟨fun p q hp hq e1 e2 => ?_, fun i d hd n hn => ?_⟩
    · have h : ∀ p, PtK deeds ev spots p → Pt deeds (fun i => t (ev i) - t o) (spotsAt o t spots) (p.1, p.2.1, t p.2.2 - t o) := fun p hp => by
        rcases hp with ⟨i, d, hd, rfl⟩ | hp
        · exact .inl ⟨i, d, hd, rfl⟩
        · exact .inr (List.mem_map.mpr ⟨p, hp, rfl⟩)
      exact rl_shift.mp (h1 _ _ (h p hp) (h q hq) e1 e2)
    · have a := h2 i d hd n hn
      cases n with
      | frm j l m =>
        have a : l ≤ (t (ev i) - t o) - (t (ev j) - t o) ∧ (t (ev i) - t o) - (t (ev j) - t o) ≤ m := a
        show t (ev i) ≤ t (ev j) + m ∧ t (ev j) ≤ t (ev i) + -l
        omega
      | says v l m =>
        have a : l ≤ t (ev i) - t o ∧ t (ev i) - t o ≤ m := a
        show t (ev i) ≤ t o + m ∧ t o ≤ t (ev i) + -l
        omega
/-- station by station -/
theorem drift_lines {lean : τ → Int} {t : κ → Int} {P : PntK τ κ → Prop} : DriftK lean t P ↔ ∀ s, AllOk (lean s) t fun p => P (s, p.1, p.2) := by
  constructor
  · intro h s p q hp hq hle
    exact h _ _ hp hq rfl hle
  · intro h p q hp hq e hle
    refine h p.1 p.2 q.2 hp ?_ hle
    rw [e]
    exact hq
end
section
variable {τ σ : Type} [DecidableEq σ]
abbrev Nd (σ : Type) := Sum Int σ
def evN (i : Nat) : Nd σ := .inl (i : Int)
/-- the graph says what the history says, with one moment -/
def Tells1 (R : List (Con (Nd σ))) (o a : σ) (lean : τ → Int) (deeds : List (Deed τ)) (s : τ × Int) : Prop :=
  ∀ t, Runs R t ↔ Sem lean deeds (fun i => t (evN i) - t (.inr o)) [(s.1, s.2, t (.inr a) - t (.inr o))]
def Tells2 (R : List (Con (Nd σ))) (o a b : σ) (lean : τ → Int) (deeds : List (Deed τ)) (s u : τ × Int) : Prop :=
  ∀ t, Runs R t ↔ Sem lean deeds (fun i => t (evN i) - t (.inr o)) [(s.1, s.2, t (.inr a) - t (.inr o)), (u.1, u.2, t (.inr b) - t (.inr o))]
theorem Tells1.poss {R : List (Con (Nd σ))} {o a : σ} {lean : τ → Int} {deeds : List (Deed τ)} {s : τ × Int} (h : Tells1 R o a lean deeds s) (ne : a ≠ o) (v : Int) : (∃ t, Runs R t ∧ t (.inr a) - t (.inr o) = v) ↔ Poss lean deeds s v := by
  constructor
  · rintro ⟨t, ht, rfl⟩
    exact ⟨_, (h t).mp ht⟩
  · rintro ⟨T, hT⟩
    refine ⟨fun n => match n with | .inl i => T i.toNat | .inr x => if x = a then v else 0, (h _).mpr ?_, ?_⟩
    · simp only [evN, Int.toNat_natCast, if_neg (Ne.symm ne), Int.sub_zero, if_true]
      exact hT
    · simp only [if_neg (Ne.symm ne), if_true, Int.sub_zero]
theorem Tells2.apart {R : List (Con (Nd σ))} {o a b : σ} {lean : τ → Int} {deeds : List (Deed τ)} {s u : τ × Int} (h : Tells2 R o a b lean deeds s u) (na : a ≠ o) (nb : b ≠ o) (nab : a ≠ b) (v : Int) : (∃ t, Runs R t ∧ t (.inr b) - t (.inr a) = v) ↔ Apart lean deeds s u v := by
  constructor
  · rintro ⟨t, ht, rfl⟩
    exact ⟨_, _, _, (h t).mp ht, by omega⟩
  · rintro ⟨T, x, y, hT, rfl⟩
    refine ⟨fun n => match n with | .inl i => T i.toNat | .inr z => if z = a then x else if z = b then y else 0, (h _).mpr ?_, ?_⟩
    · simp only [evN, Int.toNat_natCast, if_neg (Ne.symm na), if_neg (Ne.symm nb), if_neg (Ne.symm nab), Int.sub_zero, if_true]
      exact hT
    · simp only [if_neg (Ne.symm nab), if_true]
theorem between : ∀ (Ls Us : List Int), (∀ l ∈ Ls, ∀ u ∈ Us, l ≤ u) → ∃ y, (∀ l ∈ Ls, l ≤ y) ∧ ∀ u ∈ Us, y ≤ u
  | [], Us, _ => by
    obtain ⟨M, hM⟩ := bound_all (fun u : Int => -u) Us
    exact ⟨-M, fun _ h => (nomatch h), fun u hu => by have := hM u hu; omega⟩
  | l :: Ls, Us, h => by
    obtain ⟨y, h1, h2⟩ := between Ls Us fun a ha u hu => h a (List.mem_cons_of_mem _ ha) u hu
    refine ⟨max l y, fun a ha => ?_, fun u hu => ?_⟩
    · rcases List.mem_cons.mp ha with rfl | ha
      · omega
      · have := h1 a ha; omega
    · have := h l List.mem_cons_self u hu
      have := h2 u hu
      omega
def lowAt (d k : Int) (p : Int × Int) : Int := if p.1 ≤ k then p.2 + (k - p.1) * (1000 - d) else p.2 - (p.1 - k) * (1000 + d)
def uppAt (d k : Int) (p : Int × Int) : Int := if p.1 ≤ k then p.2 + (k - p.1) * (1000 + d) else p.2 - (p.1 - k) * (1000 - d)
theorem mul_mono {x d : Int} (hx : 0 ≤ x) (hd : 0 ≤ d) : x * (1000 - d) ≤ x * (1000 + d) := Int.mul_le_mul_of_nonneg_left (by omega) hx
theorem low_upp {d k : Int} (hd : 0 ≤ d) {p q : Int × Int} (h1 : p.1 ≤ q.1 → Rl d p.1 q.1 p.2 q.2) (h2 : q.1 ≤ p.1 → Rl d q.1 p.1 q.2 p.2) : lowAt d k p ≤ uppAt d k q := by
  obtain ⟨n, t⟩ := p
  obtain ⟨m, u⟩ := q
  simp only at h1 h2
  have split : ∀ a b c x : Int, (a - c) * x = (a - b) * x + (b - c) * x := fun a b c x => by rw [← Int.add_mul]; congr 1; omega
  unfold lowAt uppAt
  simp only
  by_cases a1 : n ≤ k <;> by_cases a2 : m ≤ k
  · rw [if_pos a1, if_pos a2]
    by_cases hl : n ≤ m
    · obtain ⟨b1, b2⟩ := h1 hl
      have := split k m n (1000 - d)
      have := mul_mono (x := k - m) (by omega) hd
      omega
    · obtain ⟨b1, b2⟩ := h2 (by omega)
      have := split k n m (1000 + d)
      have := mul_mono (x := k - n) (by omega) hd
      omega
  · rw [if_pos a1, if_neg a2]
    obtain ⟨b1, b2⟩ := h1 (by omega)
    have := split m k n (1000 - d)
    omega
  · rw [if_neg a1, if_pos a2]
    obtain ⟨b1, b2⟩ := h2 (by omega)
    have := split n k m (1000 + d)
    omega
  · rw [if_neg a1, if_neg a2]
    by_cases hl : n ≤ m
    · obtain ⟨b1, b2⟩ := h1 hl
      have := split m n k (1000 - d)
      have := mul_mono (x := n - k) (by omega) hd
      omega
    · obtain ⟨b1, b2⟩ := h2 (by omega)
      have := split n m k (1000 + d)
      have := mul_mono (x := m - k) (by omega) hd
      omega
theorem rl_low {d k y : Int} (hd : 0 ≤ d) {p : Int × Int} (h1 : lowAt d k p ≤ y) (h2 : y ≤ uppAt d k p) : (p.1 ≤ k → Rl d p.1 k p.2 y) ∧ (k ≤ p.1 → Rl d k p.1 y p.2) := by
  unfold lowAt at h1
  unfold uppAt at h2
  constructor
  · intro h
    rw [if_pos h] at h1 h2
    unfold Rl
    omega
  · intro h
    by_cases hq : p.1 ≤ k
    · have e : p.1 = k := by omega
      rw [if_pos hq, e, Int.sub_self, Int.zero_mul] at h1 h2
      rw [e]
      unfold Rl
      rw [Int.sub_self, Int.zero_mul, Int.zero_mul]
      omega
    · rw [if_neg hq] at h1 h2
      unfold Rl
      omega
/-- there is a time for a moment more -/
theorem Sem.more {τ : Type} [DecidableEq τ] {lean : τ → Int} {deeds : List (Deed τ)} {T : Nat → Int} {spots : List (Pnt τ)} (h : Sem lean deeds T spots) {s : τ} (hs : 0 ≤ lean s) (k : Int) : ∃ y, ∀ more, (∀ p ∈ more, p ∈ spots ∨ p = (s, k, y)) → Sem lean deeds T more := by
  -- the points of the station in a list
  let ps : List (Pnt τ) := ((deeds.mapIdx fun i d => (d.st, d.tick, T i)) ++ spots).filter fun p => decide (p.1 = s)
  have mem : ∀ p, p ∈ ps ↔ Pt deeds T spots p ∧ p.1 = s := fun p => by
    show p ∈ ((deeds.mapIdx fun i d => (d.st, d.tick, T i)) ++ spots).filter (fun p => decide (p.1 = s)) ↔ _
    rw [List.mem_filter, List.mem_append, List.mem_mapIdx, decide_eq_true_iff]
    constructor
    · rintro ⟨h1 | h1, h2⟩
      · obtain ⟨i, hi, rfl⟩ := h1
        exact ⟨.inl ⟨i, deeds[i], List.getElem?_eq_getElem hi, rfl⟩, h2⟩
      · exact ⟨.inr h1, h2⟩
    · rintro ⟨⟨i, d, hd, rfl⟩ | h1, h2⟩
      · obtain ⟨hi, rfl⟩ := List.getElem?_eq_some_iff.mp hd
        exact ⟨.inl ⟨i, hi, rfl⟩, h2⟩
      · exact ⟨.inr h1, h2⟩
  obtain ⟨y, h1, h2⟩ := between (ps.map fun p => lowAt (lean s) k p.2) (ps.map fun p => uppAt (lean s) k p.2) (by
    intro l hl u hu
    obtain ⟨p, hp, rfl⟩ := List.mem_map.mp hl
    obtain ⟨q, hq, rfl⟩ := List.mem_map.mp hu
    obtain ⟨p1, p2⟩ := (mem p).mp hp
    obtain ⟨q1, q2⟩ := (mem q).mp hq
    refine low_upp hs (fun hle => ?_) (fun hle => ?_)
    · have := h.1 p q p1 q1 (p2.trans q2.symm) hle
      rw [p2] at this
      exact this
    · have := h.1 q p q1 p1 (q2.trans p2.symm) hle
      rw [q2] at this
      exact this)
  have win : ∀ p, Pt deeds T spots p → p.1 = s → (p.2.1 ≤ k → Rl (lean s) p.2.1 k p.2.2 y) ∧ (k ≤ p.2.1 → Rl (lean s) k p.2.1 y p.2.2) := fun p hp e =>
    rl_low hs (h1 _ (List.mem_map.mpr ⟨p, (mem p).mpr ⟨hp, e⟩, rfl⟩)) (h2 _ (List.mem_map.mpr ⟨p, (mem p).mpr ⟨hp, e⟩, rfl⟩))
  refine ⟨y, fun more hm => ⟨fun p q hp hq e1 e2 => ?_, h.2⟩⟩
  have cl : ∀ p, Pt deeds T more p → Pt deeds T spots p ∨ p = (s, k, y) := fun p hp => by
    rcases hp with hp | hp
    · exact .inl (.inl hp)
    · exact (hm p hp).imp .inr id
  rcases cl p hp with hp | rfl <;> rcases cl q hq with hq | rfl
  · exact h.1 p q hp hq e1 e2
  · have := (win p hp e1).1 e2
    rw [e1]
    exact this
  · exact (win q hq e1.symm).2 e2
  · exact Rl.refl _ _ _
/-- three moments: right time, one moment, another one -/
theorem Tells2.three {τ : Type} [DecidableEq τ] {R : List (Con (Nd σ))} {o a b : σ} {lean : τ → Int} {deeds : List (Deed τ)} {s u : τ × Int} (h : Tells2 R o a b lean deeds s u) (na : a ≠ o) (nb : b ≠ o) (nab : a ≠ b) (ls : 0 ≤ lean s.1) (lu : 0 ≤ lean u.1) {x y : Int}
    (hx : Poss lean deeds s x) (hy : Poss lean deeds u y) (hxy : Apart lean deeds s u (y - x)) : ∃ T, Sem lean deeds T [(s.1, s.2, x), (u.1, u.2, y)] := by
  let N : List (Nd σ) := [.inr o, .inr a, .inr b] ++ R.flatMap fun e => [e.1.1, e.1.2]
  obtain ⟨B1, hB1⟩ := bound_all (fun e : Con (Nd σ) => e.2) R
  obtain ⟨B2, hB2⟩ := bound_all (fun e : Con (Nd σ) => -e.2) R
  have out := mclosed_out (R := R) (N := N) (B := max 0 (max B1 B2)) (by omega) (fun e he => by have := hB1 e he; have := hB2 e he; omega) (fun e he => by
    constructor <;> exact List.mem_append_right _ (List.mem_flatMap.mpr ⟨e, he, by simp⟩))
  -- runs of the graph from runs of the history
  have run : ∀ T v w, Sem lean deeds T [(s.1, s.2, v), (u.1, u.2, w)] → ∃ t, Runs R t ∧ t (.inr o) = 0 ∧ t (.inr a) = v ∧ t (.inr b) = w := fun T v w hT => by
    refine ⟨fun n => match n with | .inl i => T i.toNat | .inr z => if z = a then v else if z = b then w else 0, (h _).mpr ?_, ?_, ?_, ?_⟩
    · simp only [evN, Int.toNat_natCast, if_neg (Ne.symm na), if_neg (Ne.symm nb), if_neg (Ne.symm nab), Int.sub_zero, if_true]
      exact hT
    · simp only [if_neg (Ne.symm na), if_neg (Ne.symm nb)]
    · simp only [if_true]
    · simp only [if_neg (Ne.symm nab), if_true]
  obtain ⟨T1, hT1⟩ := hx
  obtain ⟨w1, hw1⟩ := hT1.more lu u.2
  obtain ⟨t1, r1, o1, a1, _⟩ := run T1 x w1 (hw1 _ (by simp))
  obtain ⟨T2, hT2⟩ := hy
  obtain ⟨w2, hw2⟩ := hT2.more ls s.2
  obtain ⟨t2, r2, o2, _, b2⟩ := run T2 w2 y (hw2 _ (by simp))
  obtain ⟨T3, x3, y3, hT3, e3⟩ := hxy
  obtain ⟨t3, r3, o3, a3, b3⟩ := run T3 x3 y3 hT3
  rcases out with ⟨_, no⟩ | ⟨_, ⟨p, hp⟩, cl, _⟩
  · exact absurd r1 (no t1)
  · obtain ⟨co, zo, so⟩ := cl (.inr o) (by simp [N])
    obtain ⟨ca, za, sa⟩ := cl (.inr a) (by simp [N])
    obtain ⟨cb, zb, sb⟩ := cl (.inr b) (by simp [N])
    obtain ⟨t, ht, e1, e2, e3'⟩ := Sh.three hp co ca cb zo za zb (x := x) (y := y)
      (fun d hd => by have := so t1 r1 _ d hd; omega) (fun d hd => by have := sa t1 r1 _ d hd; omega)
      (fun d hd => by have := so t2 r2 _ d hd; omega) (fun d hd => by have := sb t2 r2 _ d hd; omega)
      (fun d hd => by have := sa t3 r3 _ d hd; omega) (fun d hd => by have := sb t3 r3 _ d hd; omega)
    have q := (h t).mp ht
    rw [e1, e2, e3', Int.sub_zero, Int.sub_zero] at q
    exact ⟨_, q⟩
end
end Sh
end
section
set_option autoImplicit false
namespace Sh
section
variable {τ : Type} {G : Bool → Group τ} {lean : τ → Int} {deeds : List (Deed τ)} {pl : Bool → Nat → Nat} {e : Bool → Nat} {least most : Int} {sp : Bool → τ × Int} {ours theirs : List Span}
def told0 (ours theirs : List Span) (least most : Int) : List Span := bothL ours (movedL theirs [(some (-most), some (-least))])
def told1 (ours theirs : List Span) (least most : Int) : List Span := bothL theirs (movedL ours [(some least, some most)])
def toldK (ours theirs : List Span) (least most : Int) : Bool → List Span
  | false => told0 ours theirs least most
  | true => told1 ours theirs least most
theorem law_told (J : Joined G lean deeds pl e least most) (en : Ends2 G e sp) (hl : least ≤ most) (h0 : 0 ≤ least) (hm : most ≤ 10 ^ 30)
    (dO : Desc (Poss (G false).lean (G false).deeds (sp false)) ours) (dT : Desc (Poss (G true).lean (G true).deeds (sp true)) theirs) (bO : Bnd (10 ^ 30) ours) (bT : Bnd (10 ^ 30) theirs) (k : Bool) :
    Desc (Poss lean deeds (sp k)) (toldK ours theirs least most k) ∧ Bnd (10 ^ 31) (toldK ours theirs least most k) := by
  cases k with
  | false =>
    obtain ⟨m1, m2⟩ := moved_desc (B := 10 ^ 30) (D := 10 ^ 30) (by decide) (by decide) dT (one_desc (a := -most) (b := -least) (by omega)) bT (one_bnd (by omega) (by omega) (by omega) (by omega))
    obtain ⟨b1, b2⟩ := both_desc (B := 10 ^ 31) (by decide) dO m1 (bO.mono (by decide)) (m2.mono (by decide))
    refine ⟨b1.congr fun v => ?_, b2⟩
    rw [J.known_end en false v]
    constructor
    · rintro ⟨p, u, c, hu, hc, rfl⟩
      exact ⟨p, u, hu, by omega, by omega⟩
    · rintro ⟨p, u, hu, h1, h2⟩
      exact ⟨p, u, v - u, hu, by omega, by omega⟩
  | true =>
    obtain ⟨m1, m2⟩ := moved_desc (B := 10 ^ 30) (D := 10 ^ 30) (by decide) (by decide) dO (one_desc (a := least) (b := most) (by omega)) bO (one_bnd (by omega) (by omega) (by omega) (by omega))
    obtain ⟨b1, b2⟩ := both_desc (B := 10 ^ 31) (by decide) dT m1 (bT.mono (by decide)) (m2.mono (by decide))
    refine ⟨b1.congr fun v => ?_, b2⟩
    rw [J.known_end en true v]
    constructor
    · rintro ⟨p, u, c, hu, hc, rfl⟩
      exact ⟨p, u, hu, by omega, by omega⟩
    · rintro ⟨p, u, hu, h1, h2⟩
      exact ⟨p, u, v - u, hu, by omega, by omega⟩
/-- any other moment of a group -/
theorem law_due [DecidableEq τ] {σ : Type} [DecidableEq σ] (J : Joined G lean deeds pl e least most) (en : Ends2 G e sp) {k : Bool} {s : τ × Int} {R : List (Con (Nd σ))} {o a b : σ} {told ap tk : List Span} (ho : Own G lean k s.1)
    (gr : Tells2 R o a b (G k).lean (G k).deeds (sp k) s) (na : a ≠ o) (nb : b ≠ o) (nab : a ≠ b) (l1 : 0 ≤ (G k).lean (sp k).1) (l2 : 0 ≤ (G k).lean s.1)
    (dt : Desc (Poss (G k).lean (G k).deeds s) told) (da : Desc (Apart (G k).lean (G k).deeds (sp k) s) ap) (dk : Desc (Poss lean deeds (sp k)) tk) (bt : Bnd (10 ^ 30) told) (ba : Bnd (10 ^ 30) ap) (bk : Bnd (10 ^ 31) tk) :
    Desc (Poss lean deeds s) (bothL told (movedL tk ap)) := by
  obtain ⟨m1, m2⟩ := moved_desc (B := 10 ^ 31) (D := 10 ^ 30) (by decide) (by decide) dk da bk ba
  obtain ⟨b1, _⟩ := both_desc (B := 10 ^ 32) (by decide) dt m1 (bt.mono (by decide)) (m2.mono (by decide))
  refine b1.congr fun y => ?_
  obtain ⟨d, hd, q⟩ := en.at_ k
  rw [J.known en ho y]
  constructor
  · rintro ⟨hy, x, c, hx, hc, rfl⟩
    obtain ⟨h1, h2⟩ := (J.known_end en k x).mp hx
    obtain ⟨T, hT⟩ := gr.three na nb nab l1 l2 h1 hy (by rw [show x + c - x = c by omega]; exact hc)
    have ex := hT.at_event hd (v := x) (by rw [q]; simp)
    refine ⟨T, hT.fewer fun p hp => ?_, ?_⟩
    · rw [List.mem_singleton.mp hp]
      simp
    · rw [← ex]
      exact h2
  · rintro ⟨T, hT, ha⟩
    refine ⟨⟨T, hT⟩, T (e k), y - T (e k), ?_, ⟨T, T (e k), y, ?_, rfl⟩, by omega⟩
    · rw [J.known_end en k]
      exact ⟨(en.poss k _).mpr ⟨T, hT.fewer (fun p h => nomatch h), rfl⟩, ha⟩
    · refine hT.add_event hd fun p hp => ?_
      rcases List.mem_cons.mp hp with rfl | hp
      · exact .inl (by rw [q])
      · exact .inr hp
/-- the difference of the ends -/
theorem law_apart (J : Joined G lean deeds pl e least most) (en : Ends2 G e sp) (hl : least ≤ most) (h0 : 0 ≤ least) (hm : most ≤ 10 ^ 30)
    (dO : Desc (Poss (G false).lean (G false).deeds (sp false)) ours) (dT : Desc (Poss (G true).lean (G true).deeds (sp true)) theirs) (bO : Bnd (10 ^ 30) ours) (bT : Bnd (10 ^ 30) theirs) :
    Desc (Apart lean deeds (sp false) (sp true)) (bothL [(some least, some most)] (movedL theirs (turnedL ours))) := by
  obtain ⟨t1, t2⟩ := turned_desc dO bO
  obtain ⟨m1, m2⟩ := moved_desc (B := 10 ^ 30) (D := 10 ^ 30) (by decide) (by decide) dT t1 bT t2
  obtain ⟨b1, _⟩ := both_desc (B := 10 ^ 31) (by decide) (one_desc hl) m1 (one_bnd (by omega) (by omega) (by omega) (by omega)) (m2.mono (by decide))
  refine b1.congr fun v => ?_
  rw [J.apart_ends en v]
  constructor
  · rintro ⟨h1, u, c, hu, hc, rfl⟩
    exact ⟨h1, -c, u, hc, hu, by omega⟩
  · rintro ⟨h1, x, u, hx, hu, rfl⟩
    exact ⟨h1, u, -x, hu, by show Poss _ _ _ (- -x); rw [Int.neg_neg]; exact hx, by omega⟩
/-- an exact message makes both ends one -/
theorem law_exact (J : Joined G lean deeds pl e least most) (en : Ends2 G e sp) (hl : least = most) (h0 : 0 ≤ least) (hm : most ≤ 10 ^ 30)
    (dO : Desc (Poss (G false).lean (G false).deeds (sp false)) ours) (dT : Desc (Poss (G true).lean (G true).deeds (sp true)) theirs) (bO : Bnd (10 ^ 30) ours) (bT : Bnd (10 ^ 30) theirs) :
    told1 ours theirs least most = movedL (told0 ours theirs least most) [(some least, some least)] := by
  obtain ⟨k1, b1⟩ := law_told J en (by omega) h0 hm dO dT bO bT false
  obtain ⟨k2, _⟩ := law_told J en (by omega) h0 hm dO dT bO bT true
  obtain ⟨m1, _⟩ := moved_desc (B := 10 ^ 31) (D := 10 ^ 30) (by decide) (by decide) k1 (one_desc (a := least) (b := least) (by omega)) b1 (one_bnd (by omega) (by omega) (by omega) (by omega))
  refine Desc.uniq k2 (m1.congr fun v => ?_)
  constructor
  · rintro ⟨x, c, hx, hc, rfl⟩
    have e : c = least := by omega
    subst e
    obtain ⟨p, u, hu, h1, h2⟩ := (J.known_end en false x).mp hx
    have e : u = x + c := by omega
    subst e
    exact (J.known_end en true _).mpr ⟨hu, x, p, by omega, by omega⟩
  · intro hv
    obtain ⟨p, x, hx, h1, h2⟩ := (J.known_end en true v).mp hv
    exact ⟨x, least, (J.known_end en false x).mpr ⟨hx, v, p, by omega, by omega⟩, by omega, by omega⟩
end
section
variable {α : Type} [DecidableEq α]
/-- the program's way: no unsettled node, and the passes from both nodes -/
theorem span_desc {E : List (Con α)} {p : α → Int} (hp : Runs E p) {x y : α} {D D' : α → Option Int} (c : ClosedFrom E D) (c' : ClosedFrom E D') (h0 : D x = some 0) (h0' : D' y = some 0) (s : SoundFrom E x D) (s' : SoundFrom E y D') :
    Desc (fun v => ∃ t, Runs E t ∧ t y - t x = v) [((D' x).map (- ·), D y)] := by
  refine .inr ⟨_, rfl, ⟨_, p, hp, rfl⟩, fun v => ?_⟩
  refine (interval hp c c' h0 h0' s s' v).trans ?_
  constructor
  · rintro ⟨h1, h2⟩
    refine ⟨fun l hl => ?_, h1⟩
    cases q : D' x with
    | none => simp only [q] at hl; exact nomatch hl
    | some d =>
      simp only [q] at hl
      have hl : some (-d) = some l := hl
      cases hl
      exact h2 d q
  · rintro ⟨h1, h2⟩
    refine ⟨h2, fun d hd => h1 (-d) ?_⟩
    show (D' x).map (- ·) = some (-d)
    rw [hd]
    rfl
theorem none_desc {E : List (Con α)} (h : ∀ p, ¬ Runs E p) {x y : α} : Desc (fun v => ∃ t, Runs E t ∧ t y - t x = v) [] := .inl ⟨rfl, fun _ ⟨t, ht, _⟩ => h t ht⟩
def mspan (F : Mat α) (x y : α) : Span := ((F y x).map (- ·), F x y)
/-- the law's way -/
theorem mclosed_desc {R : List (Con α)} {N : List α} {B : Int} (hB : 0 ≤ B) (hR : ∀ e ∈ R, -B ≤ e.2 ∧ e.2 ≤ B) (hN : ∀ e ∈ R, e.1.1 ∈ N ∧ e.1.2 ∈ N) {x y : α} (hx : x ∈ N) (hy : y ∈ N) :
    (MNeg N (mclosed N R) → Desc (fun v => ∃ t, Runs R t ∧ t y - t x = v) []) ∧ (¬ MNeg N (mclosed N R) → Desc (fun v => ∃ t, Runs R t ∧ t y - t x = v) [mspan (mclosed N R) x y] ∧ Bnd (B * 2 ^ N.length) [mspan (mclosed N R) x y]) := by
  rcases mclosed_out hB hR hN with ⟨h, no⟩ | ⟨h, ⟨p, hp⟩, cl, bd⟩
  · exact ⟨fun _ => none_desc no, fun z => absurd h z⟩
  · refine ⟨fun z => absurd z h, fun _ => ?_⟩
    obtain ⟨cx, zx, sx⟩ := cl x hx
    obtain ⟨cy, zy, sy⟩ := cl y hy
    refine ⟨span_desc hp cx cy zx zy sx sy, fun z hz => ?_⟩
    rw [List.mem_singleton.mp hz]
    constructor
    · intro l hl
      have hl : (mclosed N R y x).map (- ·) = some l := hl
      cases q : mclosed N R y x with
      | none => rw [q] at hl; exact nomatch hl
      | some d =>
        rw [q] at hl
        have hl : some (-d) = some l := hl
        cases hl
        have := bd y hy x hx d q
        omega
    · intro l hl
      exact bd x hx y hy l hl
end
end Sh
end
section
set_option maxRecDepth 100000
namespace Sw
open PySem L2
variable [TL]
mutual
def Da.py : Da → PyData
  | .non => .none
  | .bl b => .bool b
  | .int i => .int i
  | .str s => .str s
  | .tup l => .tuple (Da.pyL l)
  | .lst l => .list (Da.pyL l)
  | .dct _ => .none
def Da.pyL : List Da → List PyData
  | [] => []
  | d :: ds => d.py :: Da.pyL ds
end
mutual
def Da.cl : Da → Bool
  | .non | .bl _ | .int _ => true
  | .str s => PyData.strOk s
  | .tup l | .lst l => Da.clL l
  | .dct _ => false
def Da.clL : List Da → Bool
  | [] => true
  | d :: ds => d.cl && Da.clL ds
end
mutual
def Da.dep : Da → Nat
  | .non | .bl _ | .int _ | .str _ | .dct _ => 0
  | .tup l | .lst l => Da.depL l + 1
def Da.depL : List Da → Nat
  | [] => 0
  | d :: ds => max d.dep (Da.depL ds)
end
mutual
theorem Da.lay : ∀ d : Da, d.cl = true → PyData.canLay0 d.py = true
  | .non, _ => by simp only [Da.py, PyData.canLay0]
  | .bl _, _ => by simp only [Da.py, PyData.canLay0]
  | .int _, _ => by simp only [Da.py, PyData.canLay0]
  | .str _, h => by simpa only [Da.py, PyData.canLay0, Da.cl] using h
  | .tup l, h => by
    simp only [Da.py, PyData.canLay0]
    exact Da.layL l (by simpa only [Da.cl] using h)
  | .lst l, h => by
    simp only [Da.py, PyData.canLay0]
    exact Da.layL l (by simpa only [Da.cl] using h)
  | .dct _, h => by simp [Da.cl] at h
theorem Da.layL : ∀ l : List Da, Da.clL l = true → PyData.canLayAll0 (Da.pyL l) = true
  | [], _ => by simp only [Da.pyL, PyData.canLayAll0]
  | d :: ds, h => by
    have h' : d.cl = true ∧ Da.clL ds = true := by simpa [Da.clL] using h
    simp only [Da.pyL, PyData.canLayAll0, Da.lay d h'.1, Da.layL ds h'.2, Bool.and_self]
end
mutual
theorem Da.dep_py : ∀ d : Da, PyData.depth d.py = d.dep
  | .non => by simp only [Da.py, PyData.depth, Da.dep]
  | .bl _ => by simp only [Da.py, PyData.depth, Da.dep]
  | .int _ => by simp only [Da.py, PyData.depth, Da.dep]
  | .str _ => by simp only [Da.py, PyData.depth, Da.dep]
  | .tup l => by simp only [Da.py, PyData.depth, Da.dep, Da.dep_pyL l]
  | .lst l => by simp only [Da.py, PyData.depth, Da.dep, Da.dep_pyL l]
  | .dct _ => by simp only [Da.py, PyData.depth, Da.dep]
theorem Da.dep_pyL : ∀ l : List Da, PyData.depthAll (Da.pyL l) = Da.depL l
  | [] => by simp only [Da.pyL, PyData.depthAll, Da.depL]
  | d :: ds => by simp only [Da.pyL, PyData.depthAll, Da.depL, Da.dep_py d, Da.dep_pyL ds]
end
/-- data that can be compared -/
def Da.Fit (d : Da) : Prop := d.cl = true ∧ d.dep ≤ 60
theorem Da.Fit.sh {d : Da} (h : d.Fit) : SeqAt.shaped d.py = true := by
  unfold SeqAt.shaped
  rw [Da.lay d h.1, Da.dep_py, Bool.true_and]
  exact decide_eq_true (by have := h.2; omega)
mutual
theorem Rep.dp {K : PySem.W.Frag} {G H : Hp} (s : Sub G H) : ∀ (d : Da) {v : V}, Rep G d v → d.cl = true → Dp K H v d.py
  | .non, v, h, _ => by rw [show v = .non from h]; simp only [Da.py]; exact .non
  | .bl b, v, h, _ => by rw [show v = .bl b from h]; simp only [Da.py]; exact .bl b
  | .int b, v, h, _ => by rw [show v = .int b from h]; simp only [Da.py]; exact .int b
  | .str b, v, h, _ => by rw [show v = .str b from h]; simp only [Da.py]; exact .str b
  | .tup l, v, h, c => by
    obtain ⟨a, vs, rfl, e, r⟩ := h
    simp only [Da.py]
    exact .tup (SqT.of (s _ _ e)) (RepL.dp s l r (by simpa only [Da.cl] using c))
  | .lst l, v, h, c => by
    obtain ⟨a, vs, rfl, e, r⟩ := h
    simp only [Da.py]
    exact .lst (SqL.of (s _ _ e)) (RepL.dp s l r (by simpa only [Da.cl] using c))
  | .dct _, _, _, c => by simp [Da.cl] at c
theorem RepL.dp {K : PySem.W.Frag} {G H : Hp} (s : Sub G H) : ∀ (d : List Da) {v : List V}, RepL G d v → Da.clL d = true → DpAll K H v (Da.pyL d)
  | [], v, h, _ => by rw [show v = [] from h]; simp only [Da.pyL]; exact .nil
  | d :: ds, v, h, c => by
    obtain ⟨u, r, rfl, h1, h2⟩ := h
    have c' : d.cl = true ∧ Da.clL ds = true := by simpa [Da.clL] using c
    simp only [Da.pyL]
    exact .cons (Rep.dp s d h1 c'.1) (RepL.dp s ds h2 c'.2)
end
theorem eqv_nil (l : List Da) : PyData.eqv (.list (Da.pyL l)) (.list []) = decide (l = []) := by
  cases l with
  | nil => simp [Da.pyL, PyData.eqv, PyData.eqvAll]
  | cons d ds => simp [Da.pyL, PyData.eqv, PyData.eqvAll]
section
variable {M : Addr → Prop} {D : Option Dr} {d : Dr} {G0 H0 G H G' H' : Hp} {L : List (Addr × HO)} {p a b : Addr} {xs : List V} {Q : VK} {K : PySem.W.Frag} {ds : List Da}
/-- is it empty? a list and a new one -/
theorem ls_neNil (S : Sta M D G0 H0 G H L) (h : H a = some (.lst xs)) (r : RepL G ds xs) (c : Da.clL ds = true) (hd : Da.depL ds ≤ 50) (q : H b = some (.lst [])) (k : Q (.bl (!decide (ds = []))) H) : rNeD K (.ref a) (.ref b) H Q := by
  refine ⟨.list (Da.pyL ds), .list [], .lst (SqL.of h) (r.dp S.inn ds c), .lst (SqL.of q) .nil, ?_, ?_, ?_⟩
  · have := (Da.Fit.sh (d := .lst ds) ⟨by simpa only [Da.cl] using c, by show Da.dep (.lst ds) ≤ 60; simp only [Da.dep]; omega⟩)
    simpa only [Da.py] using this
  · decide
  · rw [eqv_nil]
    exact k
theorem ls_eqNil (S : Sta M D G0 H0 G H L) (h : H a = some (.lst xs)) (r : RepL G ds xs) (c : Da.clL ds = true) (hd : Da.depL ds ≤ 50) (q : H b = some (.lst [])) (k : Q (.bl (decide (ds = []))) H) : rEqD K (.ref a) (.ref b) H Q := by
  refine ⟨.list (Da.pyL ds), .list [], .lst (SqL.of h) (r.dp S.inn ds c), .lst (SqL.of q) .nil, ?_, ?_, ?_⟩
  · have := (Da.Fit.sh (d := .lst ds) ⟨by simpa only [Da.cl] using c, by show Da.dep (.lst ds) ≤ 60; simp only [Da.dep]; omega⟩)
    simpa only [Da.py] using this
  · decide
  · rw [eqv_nil]
    exact k
end
theorem clL_ints : ∀ ns : List Int, Da.clL (ns.map Da.int) = true
  | [] => rfl
  | n :: ns => by
    rw [List.map_cons]
    simp only [Da.clL, Da.cl, clL_ints ns, Bool.and_self]
theorem depL_ints : ∀ ns : List Int, Da.depL (ns.map Da.int) = 0
  | [] => rfl
  | n :: ns => by
    rw [List.map_cons]
    simp only [Da.depL, Da.dep, depL_ints ns, Nat.max_self]
theorem clL_strs : ∀ {ns : List Str}, (∀ n ∈ ns, PyData.strOk n = true) → Da.clL (ns.map Da.str) = true
  | [], _ => rfl
  | n :: ns, h => by
    rw [List.map_cons]
    simp only [Da.clL, Da.cl, h n List.mem_cons_self, clL_strs fun m hm => h m (List.mem_cons_of_mem _ hm), Bool.and_self]
theorem depL_strs : ∀ ns : List Str, Da.depL (ns.map Da.str) = 0
  | [] => rfl
  | n :: ns => by
    rw [List.map_cons]
    simp only [Da.depL, Da.dep, depL_strs ns, Nat.max_self]
def dOpt : Option Int → Da
  | none => .non
  | some i => .int i
def dSpan (s : Sh.Span) : Da := .tup [dOpt s.1, dOpt s.2]
def dSpans (l : List Sh.Span) : Da := .lst (l.map dSpan)
theorem dOpt_cl (o : Option Int) : (dOpt o).cl = true := by cases o <;> simp only [dOpt, Da.cl]
theorem dOpt_dep (o : Option Int) : (dOpt o).dep = 0 := by cases o <;> simp only [dOpt, Da.dep]
theorem spans_cl : ∀ l : List Sh.Span, Da.clL (l.map dSpan) = true
  | [] => rfl
  | s :: l => by
    rw [List.map_cons]
    simp only [Da.clL, dSpan, Da.cl, dOpt_cl, spans_cl l, Bool.and_self]
theorem spans_dep : ∀ l : List Sh.Span, Da.depL (l.map dSpan) ≤ 1
  | [] => by simp [Da.depL]
  | s :: l => by
    rw [List.map_cons]
    have := spans_dep l
    simp only [Da.depL, dSpan, Da.dep, dOpt_dep]
    omega
theorem dSpans_fit (l : List Sh.Span) : (dSpans l).Fit := ⟨by simp only [dSpans, Da.cl]; exact spans_cl l, by simp only [dSpans, Da.dep]; have := spans_dep l; omega⟩
theorem eqv_opt : ∀ a b : Option Int, PyData.eqv (dOpt a).py (dOpt b).py = decide (a = b)
  | none, none => by simp [dOpt, Da.py, PyData.eqv]
  | none, some _ => by simp [dOpt, Da.py, PyData.eqv]
  | some _, none => by simp [dOpt, Da.py, PyData.eqv]
  | some i, some j => by
    simp only [dOpt, Da.py, PyData.eqv, Option.some.injEq]
    exact (by rw [Bool.eq_iff_iff, beq_iff_eq, decide_eq_true_iff])
theorem eqv_spans : ∀ a b : List Sh.Span, PyData.eqvAll (Da.pyL (a.map dSpan)) (Da.pyL (b.map dSpan)) = decide (a = b)
  | [], [] => by simp [Da.pyL, PyData.eqvAll]
  | [], _ :: _ => by simp [Da.pyL, PyData.eqvAll]
  | _ :: _, [] => by simp [Da.pyL, PyData.eqvAll]
  | (s, t) :: a, (s', t') :: b => by
    simp only [List.map_cons, Da.pyL, PyData.eqvAll, dSpan, Da.py, PyData.eqv, eqv_opt, eqv_spans a b, Bool.and_true, List.cons.injEq, Prod.mk.injEq, Bool.decide_and]
section
variable {M : Addr → Prop} {D : Option Dr} {G0 H0 G H G' H' : Hp} {L : List (Addr × HO)} {x y : V} {Q : VK} {K : PySem.W.Frag} {s t : List Sh.Span}
theorem ls_neSp (S : Sta M D G0 H0 G H L) (r1 : Rep G (dSpans s) x) (r2 : Rep G (dSpans t) y) (k : Q (.bl (!decide (s = t))) H) : rNeD K x y H Q := by
  refine ⟨_, _, r1.dp S.inn _ (dSpans_fit s).1, r2.dp S.inn _ (dSpans_fit t).1, (dSpans_fit s).sh, (dSpans_fit t).sh, ?_⟩
  simp only [dSpans, Da.py, PyData.eqv, eqv_spans]
  exact k
end
end Sw
namespace Sw
open PySem L2
variable [TL]
section
variable {t u : TS} {D : Ends} {σ : L2.St} {H : Hp}
/-- what comes behind, once -/
def Beh (u : TS) (D : Ends) : L2.St → Hp → Prop := u D
theorem x_seqC (R : L2.St → Hp → Prop) (h2 : ∀ σ H1, R σ H1 → u D σ H1) (h1 : (∀ σ H1, R σ H1 → Beh u D σ H1) → t { D with nx := Beh u D } σ H) : tSeq t u D σ H := h1 h2
def Hid (Q : VK) : VK := Q
theorem x_join {te : TE} {Q : VK} (R : V → Hp → Prop) (hq : ∀ v H', R v H' → Q v H') (h : (∀ v H', R v H' → Hid Q v H') → te σ H (Hid Q)) : te σ H Q := h hq
theorem x_par3 {i j l : Nat} {tr : TA} (h : tr σ H fun vs H1 => ∃ u v w, vs = [u, v, w] ∧ D.nx (((σ.set i (some u)).set j (some v)).set l (some w)) H1) : tPar3 i j l tr D σ H := h
theorem x_p3 {i j l : Nat} {u v w : V} {R : L2.St → Hp → Prop} (h : R (((σ.set i (some u)).set j (some v)).set l (some w)) H) : ∃ u' v' w', [u, v, w] = [u', v', w'] ∧ R (((σ.set i (some u')).set j (some v')).set l (some w')) H := ⟨u, v, w, rfl, h⟩
theorem x_sqA {te : TE} {g : TG} (h : tAsg te g { D with nx := u D } σ H) : tSeq (tAsg te g) u D σ H := h
theorem x_sqD {te : TE} (h : tDrop te { D with nx := u D } σ H) : tSeq (tDrop te) u D σ H := h
theorem x_sqF {wi : TI} {g : TG} {tb : TS} (h : tFor wi g tb { D with nx := u D } σ H) : tSeq (tFor wi g tb) u D σ H := h
theorem x_sqP {i j : Nat} {tr : TA} (h : tPar i j tr { D with nx := u D } σ H) : tSeq (tPar i j tr) u D σ H := h
theorem x_sqP3 {i j l : Nat} {tr : TA} (h : tPar3 i j l tr { D with nx := u D } σ H) : tSeq (tPar3 i j l tr) u D σ H := h
theorem x_sqU {td ty te : TE} (h : sDPut td ty te { D with nx := u D } σ H) : tSeq (sDPut td ty te) u D σ H := h
theorem x_show (h : tSeq t u D σ H) : tSeq t u D σ H := h
def WhGo (inv : Nat → L2.St → Hp → Prop) (m : Nat) (tb : TS) (D : Ends) (σ : L2.St) (H1 : Hp) : Prop := ∃ N : L2.St → Hp → Prop, (∀ σ' H', N σ' H' → ∃ m', m' < m ∧ inv m' σ' H') ∧ tb { D with nx := N, ct := N, bk := D.nx } σ H1
theorem wh_go {inv : Nat → L2.St → Hp → Prop} {m : Nat} (h : t { D with nx := fun σ' H' => ∃ m', m' < m ∧ inv m' σ' H', ct := fun σ' H' => ∃ m', m' < m ∧ inv m' σ' H', bk := D.nx } σ H) : WhGo inv m t D σ H := ⟨_, fun _ _ h => h, h⟩
theorem while_n {c : TT} (inv : Nat → L2.St → Hp → Prop) (m0 : Nat) (h0 : inv m0 σ H) (step : ∀ m σ H, inv m σ H → c σ H fun b H1 => if b = true then WhGo inv m t D σ H1 else D.nx σ H1) : tWhile c t D σ H := ⟨inv, ⟨m0, h0⟩, step⟩
theorem x_sqW {c : TT} {tb : TS} (h : tWhile c tb { D with nx := u D } σ H) : tSeq (tWhile c tb) u D σ H := h
end
end Sw
end
section
set_option maxRecDepth 100000
namespace Sw
open PySem L2
variable [TL]
def rDivmod : List V → Hp → VK → Prop := fun xs H Q => ∃ i j, xs = [.int i, .int j] ∧ CDiv i j ∧ ∀ p, H p = none → Q (.ref p) (upd H p (.tup [.int (i / j), .int (i % j)]))
def rInt1 : List V → Hp → VK → Prop := fun xs H Q => (∃ i, xs = [.int i] ∧ Q (.int i) H) ∨ ∃ k, xs = [.bl k] ∧ Q (.int (if k then 1 else 0)) H
def rAbs : List V → Hp → VK → Prop := fun xs H Q => ∃ i, xs = [.int i] ∧ Q (.int (if i < 0 then -i else i)) H
def rMx2 : List V → Hp → VK → Prop := fun xs H Q => ∃ i j, xs = [.int i, .int j] ∧ Q (.int (if j > i then j else i)) H
def rMn2 : List V → Hp → VK → Prop := fun xs H Q => ∃ i j, xs = [.int i, .int j] ∧ Q (.int (if j < i then j else i)) H
def rLenQ (K : PySem.W.Frag) : List V → Hp → VK → Prop := fun xs H Q => ∃ p ys, xs = [.ref p] ∧ (SqL K H p ys ∨ SqT K H p ys) ∧ Q (.int ys.length) H
def rLenS : List V → Hp → VK → Prop := fun xs H Q => ∃ z, xs = [.str z] ∧ z.length ≤ sizeLine ∧ Q (.int z.length) H
def rLenD : List V → Hp → VK → Prop := fun xs H Q => ∃ a kvs, xs = [V.ref a] ∧ H a = some (.dK kvs) ∧ Q (.int kvs.length) H
def rLstQ (K : PySem.W.Frag) : List V → Hp → VK → Prop := fun xs H Q => ∃ p ys, xs = [.ref p] ∧ (SqL K H p ys ∨ SqT K H p ys) ∧ ∀ l, H l = none → Q (.ref l) (upd H l (.lst ys))
def rTupQ (K : PySem.W.Frag) : List V → Hp → VK → Prop := fun xs H Q => ∃ p ys, xs = [.ref p] ∧ ((SqL K H p ys ∧ ∀ l, H l = none → Q (.ref l) (upd H l (.tup ys))) ∨ (SqT K H p ys ∧ Q (.ref p) H))
def rLstD : List V → Hp → VK → Prop := fun xs H Q => ∃ (a : Addr) (kvs : List (Key × V)), xs = [.ref a] ∧ Rd H a (.dK kvs) ∧ ∀ p, H p = none → Q (.ref p) (upd H p (.lst (kvs.map fun kv => kV kv.1)))
def rDctD : List V → Hp → VK → Prop := fun xs H Q => ∃ (a : Addr) (kvs : List (Key × V)), xs = [.ref a] ∧ Rd H a (.dK kvs) ∧ ∀ p, H p = none → Q (.ref p) (upd H p (.dK kvs))
def rDctP (K : PySem.W.Frag) : List V → Hp → VK → Prop := fun xs H Q => ∃ (a : Addr) (ps : List Addr) (kvs : List (Key × V)), xs = [.ref a] ∧ SqL K H a (ps.map V.ref) ∧ Paired (fun p kv => SqT K H p [kV kv.1, kv.2]) ps kvs ∧ ∀ p, H p = none → Q (.ref p) (upd H p (.dK (mergeK [] kvs)))
def rSrtD : List V → Hp → VK → Prop := fun xs H Q => ∃ (a : Addr) (kvs : List (Key × V)) (ks : List Str), xs = [.ref a] ∧ Rd H a (.dK kvs) ∧ kvs.map (·.1) = ks.map Sum.inr ∧ ks.length < 64 ∧ ∀ ys p, ys.Perm ks → PyProof.Rows.sortedS ys = true → H p = none → Q (.ref p) (upd H p (.lst (ys.map V.str)))
def rIsNo : R2 := fun x y H Q => y = .non ∧ Q (.bl (decide (x = .non))) H
def rNotNo : R2 := fun x y H Q => y = .non ∧ Q (.bl (!decide (x = .non))) H
def rAddS : R2 := fun x y H Q => ∃ i j, x = .str i ∧ y = .str j ∧ i.length + j.length ≤ sizeLine ∧ Q (.str (i ++ j)) H
def rInSg : R2 := fun x y H Q => ∃ (c : Nat) (z : Str), x = .str ⟨#[c]⟩ ∧ y = .str z ∧ Q (.bl (decide (c ∈ z.cps.toList))) H
def rNotSg : R2 := fun x y H Q => ∃ (c : Nat) (z : Str), x = .str ⟨#[c]⟩ ∧ y = .str z ∧ Q (.bl (!decide (c ∈ z.cps.toList))) H
def rStrI : List V → Hp → VK → Prop := fun xs H Q => ∃ i, xs = [.int i] ∧ i.natAbs.log2 < 1920 ∧ Q (.str (toString i)) H
section
variable {X : Cx}
theorem k_divmod : CallR X (.builtin "divmod") rDivmod := call_divmod
theorem k_int1 : CallR X (.type "int") rInt1 := call_int1
theorem k_abs : CallR X (.builtin "abs") rAbs := call_abs
theorem k_max2 (hc : X.calm = true) : CallR X (.builtin "max") rMx2 := call_max2 hc
theorem k_min2 (hc : X.calm = true) : CallR X (.builtin "min") rMn2 := call_min2 hc
theorem k_lenQ : CallR X (.builtin "len") (rLenQ X.K) := call_len_seq
theorem k_lenS : CallR X (.builtin "len") rLenS := call_len_str
theorem k_lenD : CallR X (.builtin "len") rLenD := call_lenD
theorem k_lstQ : CallR X (.type "list") (rLstQ X.K) := call_list_of
theorem k_tupQ : CallR X (.type "tuple") (rTupQ X.K) := call_tuple_of
theorem k_lstD (hc : X.calm = true) : CallR X (.type "list") rLstD := call_listD hc
theorem k_dctD : CallR X (.type "dict") rDctD := call_dictD
theorem k_dctP (hc : X.calm = true) : CallR X (.type "dict") (rDctP X.K) := call_dictP hc
theorem k_srtD (hc : X.calm = true) : CallR X (.builtin "sorted") rSrtD := call_sortedD hc
theorem k_isN : OpR X (compareOp .Is) rIsNo := op_isN
theorem k_notN : OpR X (compareOp .IsNot) rNotNo := op_notN
theorem k_addS : OpR X (binaryOp .Add) rAddS := op_add_str
theorem k_inSg : OpR X (compareOp .In) rInSg := op_in_sign
theorem k_notSg : OpR X (compareOp .NotIn) rNotSg := op_notIn_sign
theorem k_strI : CallR X (.type "str") rStrI := call_str_int
end
section
variable {M : Addr → Prop} {D : Option Dr} {d : Dr} {G0 H0 G H G' H' : Hp} {L : List (Addr × HO)} {p a b : Addr} {xs ys : List V} {Q : VK} {K : PySem.W.Frag}
theorem ls_divmod {i j : Int} (h : CDiv i j) (q : New Q (.tup [.int (i / j), .int (i % j)]) H) : rDivmod [.int i, .int j] H Q := ⟨i, j, rfl, h, q⟩
theorem l_int1 {i : Int} (q : Q (.int i) H) : rInt1 [.int i] H Q := .inl ⟨i, rfl, q⟩
theorem l_int2 {k : Bool} (q : Q (.int (if k then 1 else 0)) H) : rInt1 [.bl k] H Q := .inr ⟨k, rfl, q⟩
theorem l_abs {i : Int} (q : Q (.int (if i < 0 then -i else i)) H) : rAbs [.int i] H Q := ⟨i, rfl, q⟩
theorem l_max2 {i j : Int} (q : Q (.int (if j > i then j else i)) H) : rMx2 [.int i, .int j] H Q := ⟨i, j, rfl, q⟩
theorem l_min2 {i j : Int} (q : Q (.int (if j < i then j else i)) H) : rMn2 [.int i, .int j] H Q := ⟨i, j, rfl, q⟩
theorem l_lenL (h : H a = some (.lst xs)) (q : Q (.int xs.length) H) : rLenQ K [.ref a] H Q := ⟨a, xs, rfl, .inl (SqL.of h), q⟩
theorem l_lenT (h : H a = some (.tup xs)) (q : Q (.int xs.length) H) : rLenQ K [.ref a] H Q := ⟨a, xs, rfl, .inr (SqT.of h), q⟩
theorem l_lenS {z : Str} (h : z.length ≤ 1000) (q : Q (.int z.length) H) : rLenS [.str z] H Q := ⟨z, rfl, Nat.le_trans h (by decide), q⟩
theorem l_lenD {kvs : List (Key × V)} (h : H a = some (.dK kvs)) (q : Q (.int kvs.length) H) : rLenD [.ref a] H Q := ⟨a, kvs, rfl, h, q⟩
theorem ls_listL (h : H a = some (.lst xs)) (q : New Q (.lst xs) H) : rLstQ K [.ref a] H Q := ⟨a, xs, rfl, .inl (SqL.of h), q⟩
theorem ls_listT (h : H a = some (.tup xs)) (q : New Q (.lst xs) H) : rLstQ K [.ref a] H Q := ⟨a, xs, rfl, .inr (SqT.of h), q⟩
theorem ls_tupL (h : H a = some (.lst xs)) (q : New Q (.tup xs) H) : rTupQ K [.ref a] H Q := ⟨a, xs, rfl, .inl ⟨SqL.of h, q⟩⟩
theorem ls_tupT (h : H a = some (.tup xs)) (q : Q (.ref a) H) : rTupQ K [.ref a] H Q := ⟨a, xs, rfl, .inr ⟨SqT.of h, q⟩⟩
theorem ls_listD {kvs : List (Key × V)} (h : H a = some (.dK kvs)) (q : New Q (.lst (kvs.map fun kv => kV kv.1)) H) : rLstD [.ref a] H Q := ⟨a, kvs, rfl, .inl h, q⟩
theorem ls_dictD {kvs : List (Key × V)} (h : H a = some (.dK kvs)) (q : New Q (.dK kvs) H) : rDctD [.ref a] H Q := ⟨a, kvs, rfl, .inl h, q⟩
theorem ls_dictP {ps : List Addr} {kvs : List (Key × V)} (h : H a = some (.lst (ps.map V.ref))) (hp : Paired (fun p kv => SqT K H p [kV kv.1, kv.2]) ps kvs) (q : New Q (.dK (mergeK [] kvs)) H) : rDctP K [.ref a] H Q := ⟨a, ps, kvs, rfl, SqL.of h, hp, q⟩
theorem ls_sortedD {kvs : List (Key × V)} {ks : List Str} (h : H a = some (.dK kvs)) (hk : kvs.map (·.1) = ks.map Sum.inr) (h6 : ks.length < 64) (q : ∀ ys : List Str, ys.Perm ks → New Q (.lst (ys.map V.str)) H) : rSrtD [.ref a] H Q := ⟨a, kvs, ks, rfl, .inl h, hk, h6, fun ys p hp _ hn => q ys hp p hn⟩
theorem ls_sortedS {zs : List Str} (h : H a = some (.lst (zs.map V.str))) (h6 : zs.length < 64) (q : ∀ ys : List Str, ys.Perm zs → New Q (.lst (ys.map V.str)) H) : rSortedS K [.ref a] H Q := ⟨a, zs, rfl, SqL.of h, h6, fun ys p hp _ hn => q ys hp p hn⟩
theorem ls_sortedP (h : H a = some (.lst xs)) (hx : ∀ x ∈ xs, ∃ t i j, x = V.ref t ∧ H t = some (.tup [.int i, .int j])) (q : ∀ ys, ys.Perm xs → New Q (.lst ys) H) : rSortedP K [.ref a] H Q := ⟨a, xs, rfl, SqL.of h, hx, fun ys p hp hn => q ys hp p hn⟩
theorem l_all {bs : List Bool} (h : H a = some (.lst (bs.map V.bl))) (q : Q (.bl (bs.all id)) H) : rAll K [.ref a] H Q := ⟨a, bs, rfl, SqL.of h, q⟩
theorem l_maxL {ns : List Int} (h : H a = some (.lst (ns.map V.int))) (hn : 0 < ns.length) (q : ∀ m, m ∈ ns → (∀ y ∈ ns, y ≤ m) → Q (.int m) H) : rMax K [.ref a] H Q := ⟨a, ns, rfl, SqL.of h, hn, q⟩
theorem ls_slT {lo hi : Option Int} (h : H a = some (.tup xs)) (hn : ¬ (HT.sIx xs.length 0 lo = 0 ∧ HT.sIx xs.length xs.length hi = xs.length)) (q : New Q (.tup (cutV xs lo hi)) H) : rSlA K (.ref a) lo hi H Q := ⟨a, xs, rfl, SqT.of h, fun z => absurd z hn, fun _ => q⟩
theorem ls_slT0 {lo hi : Option Int} (h : H a = some (.tup xs)) (hn : HT.sIx xs.length 0 lo = 0 ∧ HT.sIx xs.length xs.length hi = xs.length) (q : Q (.ref a) H) : rSlA K (.ref a) lo hi H Q := ⟨a, xs, rfl, SqT.of h, fun _ => q, fun z => absurd hn z⟩
theorem l_slS {z : Str} {lo hi : Option Int} (h : z.length ≤ 1000) (q : Q (.str (cutS z lo hi)) H) : rSlS (.str z) lo hi H Q := ⟨z, rfl, Nat.le_trans h (by decide), q⟩
theorem l_addS {y z : Str} (h : y.length + z.length ≤ 1000) (q : Q (.str (y ++ z)) H) : rAddS (.str y) (.str z) H Q := ⟨y, z, rfl, rfl, Nat.le_trans h (by decide), q⟩
theorem ls_catT (h1 : H a = some (.tup xs)) (h2 : H b = some (.tup ys)) (hx : xs ≠ []) (hy : ys ≠ []) (hl : xs.length + ys.length ≤ 1000) (q : New Q (.tup (xs ++ ys)) H) : rCatA K (.ref a) (.ref b) H Q := ⟨a, b, xs, ys, rfl, rfl, SqT.of h1, SqT.of h2, Nat.le_trans hl (by decide), fun z => absurd z hx, fun _ z => absurd z hy, fun _ _ => q⟩
theorem ls_catT0 (h1 : H a = some (.tup [])) (h2 : H b = some (.tup ys)) (hl : ys.length ≤ 1000) (q : Q (.ref b) H) : rCatA K (.ref a) (.ref b) H Q := ⟨a, b, [], ys, rfl, rfl, SqT.of h1, SqT.of h2, by rw [List.length_nil, Nat.zero_add]; exact Nat.le_trans hl (by decide), fun _ => q, fun z => absurd rfl z, fun z => absurd rfl z⟩
theorem ls_rep {k : Int} (h : H a = some (.lst xs)) (h0 : 0 ≤ k) (h1 : k ≤ 10) (hl : xs.length ≤ 100) (q : New Q (.lst (List.replicate k.toNat xs).flatten) H) : rRep (.ref a) (.int k) H Q := ⟨a, k, xs, rfl, rfl, h, by omega, by omega, by
  have : xs.length * k.toNat ≤ 100 * 10 := Nat.mul_le_mul hl (by omega)
  exact Nat.le_trans this (by decide), q⟩
theorem l_in {x : V} (h : H a = some (.lst xs) ∨ H a = some (.tup xs)) (f : flatV x = true) (fs : xs.all flatV = true) (q : Q (.bl (inV x xs)) H) : rIn K false x (.ref a) H Q := ⟨a, xs, rfl, h.imp SqL.of SqT.of, f, fs, q⟩
theorem l_notin {x : V} (h : H a = some (.lst xs) ∨ H a = some (.tup xs)) (f : flatV x = true) (fs : xs.all flatV = true) (q : Q (.bl (!inV x xs)) H) : rIn K true x (.ref a) H Q := ⟨a, xs, rfl, h.imp SqL.of SqT.of, f, fs, q⟩
theorem l_isi {x : V} {n : String} {t : Value} {k : Bool} (ty : TyX K H x t) (e : PySem.W.kitOne K t (.type n) = some k) (q : Q (.bl k) H) : rIsi K [x, .ty n] H Q := ⟨x, .ty n, t, .type n, k, rfl, .ty n, ty, e, q⟩
theorem l_inSg {c : Nat} {z : Str} (q : Q (.bl (decide (c ∈ z.cps.toList))) H) : rInSg (.str ⟨#[c]⟩) (.str z) H Q := ⟨c, z, rfl, rfl, q⟩
theorem l_strI {i : Int} (h : i.natAbs.log2 < 1920) (q : Q (.str (toString i)) H) : rStrI [.int i] H Q := ⟨i, rfl, h, q⟩
theorem l_isN {x : V} (q : Q (.bl (decide (x = .non))) H) : rIsNo x .non H Q := ⟨rfl, q⟩
theorem l_notN {x : V} (q : Q (.bl (!decide (x = .non))) H) : rNotNo x .non H Q := ⟨rfl, q⟩
/-- pop(k) -/
theorem ls_popAt {l : Addr} {i : Nat} {v : V} (S : Sta M D G0 H0 G H L) (j : Nat) (hj : L[j]? = some (l, .lst xs)) (hi : xs[i]? = some v) (hb : i < 2 ^ 62) (q : ∀ H', Sta M D G0 H0 G H' (L.set j (l, .lst (xs.eraseIdx i))) → Q v H') : rPopAt (.ref l) [.int i] H Q := by
  have hl := (List.getElem?_eq_some_iff.mp hi).1
  refine ⟨l, xs, i, i, v, rfl, rfl, S.at hj, by omega, by omega, ?_, hi, q _ (S.set hj ⟨fun _ z => (nomatch z), fun _ z => (nomatch z)⟩)⟩
  unfold seqIndex?
  simp only [if_neg (by omega : ¬ (i : Int) < 0)]
  rw [if_pos (by simp; omega), Int.toNat_natCast]
/-- l[i] = v -/
theorem ls_setAt {l : Addr} {i : Int} {k : Nat} {v : V} {R : Hp → Prop} (S : Sta M D G0 H0 G H L) (j : Nat) (hj : L[j]? = some (l, .lst xs)) (hi : ixN xs.length i = some k) (q : ∀ H', Sta M D G0 H0 G H' (L.set j (l, .lst (xs.set k v))) → R H') : rSetL (.ref l) (.int i) v H R :=
  ⟨l, xs, i, k, rfl, rfl, S.at hj, hi, q _ (S.set hj ⟨fun _ z => (nomatch z), fun _ z => (nomatch z)⟩)⟩
theorem l_sqL {R : Prop} (h : H a = some (.lst xs)) (q : R) : (∃ xs, SqL K H a xs) ∧ R := ⟨⟨xs, SqL.of h⟩, q⟩
theorem l_sqT {R : Prop} (h : H a = some (.tup xs)) (q : R) : (∃ xs, SqT K H a xs) ∧ R := ⟨⟨xs, SqT.of h⟩, q⟩
theorem l_enum {R : Addr → Hp → Prop} (h : H a = some (.lst xs)) (q : R a H) : ∃ a' xs', [V.ref a] = [V.ref a'] ∧ SqL K H a' xs' ∧ R a' H := ⟨a, xs, rfl, SqL.of h, q⟩
theorem l_zip {R : Addr → Addr → Hp → Prop} (h : H a = some (.lst xs)) (h' : H b = some (.lst ys)) (q : R a b H) : ∃ a' b' xs' ys', [V.ref a, V.ref b] = [V.ref a', V.ref b'] ∧ SqL K H a' xs' ∧ SqL K H b' ys' ∧ R a' b' H := ⟨a, b, xs, ys, rfl, SqL.of h, SqL.of h', q⟩
def RngJ (R : It → Hp → Prop) (vs : List V) (H1 : Hp) : Prop := ∃ j : Int, vs = [.int j] ∧ -(2 ^ 62) ≤ j ∧ j < 2 ^ 62 ∧ R (Itr 0 j.toNat) H1
theorem x_iRngN {tr : TA} {σ : L2.St} {R : It → Hp → Prop} (h : tr σ H (RngJ R)) : iRng1 tr σ H R := h
theorem l_rng {R : It → Hp → Prop} (n : Nat) (h : n ≤ 1000) (q : R (Itr 0 n) H) : RngJ R [.int n] H := ⟨n, rfl, by omega, by omega, q⟩
theorem l_isDK {kvs : List (Key × V)} {R : Prop} (h : H a = some (.dK kvs)) (q : R) : IsD H a ∧ R := ⟨.inl ⟨kvs, .inl h⟩, q⟩
theorem l_isDT {kvs : List (List Key × V)} {R : Prop} (h : H a = some (.dT kvs)) (q : R) : IsD H a ∧ R := ⟨.inr ⟨kvs, .inl h⟩, q⟩
theorem l_iNT {A B : Prop} (h : B) : if (!true) = true then A else B := iteF h
theorem l_iNF {A B : Prop} (h : A) : if (!false) = true then A else B := iteT h
/-- list(range(n)) -/
theorem xs_listRg {te : TE} {σ : L2.St} (h : te σ H fun x H1 => ∃ n, x = .int n ∧ RgOk 0 n ∧ New Q (.lst (rgV 0 n)) H1) : tLstRg (tRg1 te) σ H Q := h
/-- xs[::-1] -/
theorem xs_revL {te : TE} {σ : L2.St} (h : te σ H fun x H1 => ∃ a xs, x = .ref a ∧ SqL K H1 a xs ∧ New Q (.lst xs.reverse) H1) : tRevL K te σ H Q := h
/-- what only grew -/
theorem Sta.grow (S : Sta M D G0 H0 G H L) (he : ∀ b o, H b = some o → H' b = some o) (s1 : Sub G G') (s2 : Sub G' H') (s3 : ∀ b, H b ≠ none → G b = none → G' b = none) (s4 : ∀ b ps, G' b = some (.tbl ps) → G b = some (.tbl ps)) : Sta M D G0 H0 G' H' L := by
  have g : Go M0 G H G' H' := ⟨s1, s2, fun b o h _ _ => he b o h, s3, fun b h => by
    cases e : H b with
    | none => exact absurd e h
    | some o => rw [he b o e]; exact fun z => (nomatch z), fun t => t.ext fun b u e => he b _ e, s4⟩
  exact S.call g
/-- a draw's arguments: what is drawn, at the size -/
theorem xs_listItems {te : TE} {σ : L2.St} (h : te σ H fun x H1 => LiI.rItemsL x H1 Q) : LiI.tListItems te σ H Q := h
end
section
variable {P : PySem.Program} {w : PySem.World}
end
end Sw
namespace Sw
open PySem L2
variable [TL]
section
variable {M : Addr → Prop} {D : Option Dr} {G0 H0 G H G' H' : Hp} {L : List (Addr × HO)}
theorem l_setU {l : Addr} {xs : List (Key × V)} {v : V} {k : Str} {R : Hp → Prop} (S : Sta M D G0 H0 G H L) (i : Nat) (hi : L[i]? = some (l, .dK xs)) (hl : xs.length ≤ 1000) (q : ∀ H', Sta M D G0 H0 G H' (L.set i (l, .dK (putK xs (.inr k) v))) → R H') : rSetD (.ref l) (.str k) v H R := ls_putS S i hi hl q
end
end Sw
end
section
set_option maxRecDepth 100000
namespace Sw
open PySem L2
variable [TL]
section
variable {X : Cx} {K : PySem.W.Frag} (hK : X.K = K)
include hK
theorem y_in : OpR X (compareOp .In) (rIn K false) := by subst hK; exact op_in_seq
theorem y_notIn : OpR X (compareOp .NotIn) (rIn K true) := by subst hK; exact op_notIn_seq
theorem y_eqD (hu : X.A.units + 64 < cLine) : OpR X (compareOp .Eq) (rEqD K) := by subst hK; exact op_eqD hu
theorem y_neD (hu : X.A.units + 64 < cLine) : OpR X (compareOp .NotEq) (rNeD K) := by subst hK; exact op_neD hu
theorem y_catA : OpR X (binaryOp .Add) (rCatA K) := by subst hK; exact op_catA
theorem y_ixL : IxR X (rIxL K) := by subst hK; exact ix_list
theorem y_ixT : IxR X (rIxT K) := by subst hK; exact ix_tup
theorem y_slL : SlR X (rSlL K) := by subst hK; exact sl_list
theorem y_slT : SlR X (rSlA K) := by subst hK; exact sl_tupA
theorem y_len : CallR X (.builtin "len") (rLenQ K) := by subst hK; exact k_lenQ
theorem y_lst : CallR X (.type "list") (rLstQ K) := by subst hK; exact k_lstQ
theorem y_tup : CallR X (.type "tuple") (rTupQ K) := by subst hK; exact k_tupQ
theorem y_dctP (hc : X.calm = true) : CallR X (.type "dict") (rDctP K) := by subst hK; exact k_dctP hc
theorem y_max (hc : X.calm = true) : CallR X (.builtin "max") (rMax K) := by subst hK; exact cr_max hc
theorem y_all (hc : X.calm = true) : CallR X (.builtin "all") (rAll K) := by subst hK; exact cr_all hc
theorem y_srtS : CallR X (.builtin "sorted") (rSortedS K) := by subst hK; exact cr_sortedS
theorem y_srtP : CallR X (.builtin "sorted") (rSortedP K) := by subst hK; exact cr_sortedP
theorem y_isi : CallR X (.builtin "isinstance") (rIsi K) := by subst hK; exact call_isi
theorem y_isiT : CallR X (.builtin "isinstance") (rIsiT K) := by subst hK; exact call_isiT
theorem y_gTup {es : List Expr} {k : Nat} {pos : Pos} {t : TGs} {n : Nat} (hc : X.calm = true) (h : PGs X es t) (h1 : (assignEach es X.env).length = n := by rfl) (h2 : (assignEach es X.env).findIdx? (·.1) = none := by rfl) : PG X (.Tuple es k pos) (gTup K n t) := by subst hK; exact pg_tup hc h h1 h2
theorem y_gUnl {es : List Expr} {k : Nat} {pos : Pos} {t : TGs} {n : Nat} (hc : X.calm = true) (h : PGs X es t) (h1 : (assignEach es X.env).length = n := by rfl) (h2 : (assignEach es X.env).findIdx? (·.1) = none := by rfl) : PG X (.Tuple es k pos) (gUnl K n t) := by subst hK; exact pg_unl hc h h1 h2
theorem y_iL {tg l : Expr} {tl : TE} (hl : PE X l tl) : PI X tg l (iList K tl) := by subst hK; exact pi_list hl
theorem y_iT {tg l : Expr} {tl : TE} (hl : PE X l tl) : PI X tg l (iTup K tl) := by subst hK; exact pi_tup hl
theorem y_iE {e : Expr} {ta : TA} {p pos tpos : Pos} {elts : List Expr} {kk : Nat} (hg : Gl X "enumerate") (hm : X.mg "enumerate" = none) (ha : PA X [e] ta) (h1 : starEach [e] X.env = [(false, eval e X.env)] := by rfl) : PI X (.Tuple elts kk tpos) (.Call (.Name "enumerate" p) [e] [] pos) (iEnum K ta) := by subst hK; exact pi_enum hg hm ha h1
theorem y_iZ {e e2 : Expr} {ta : TA} {p pos tpos : Pos} {elts : List Expr} {kk : Nat} (hg : Gl X "zip") (hm : X.mg "zip" = none) (ha : PA X [e, e2] ta) (h1 : starEach [e, e2] X.env = (false, eval e X.env) :: starEach [e2] X.env := by rfl) (h2 : (backTo pos (starEach [e2] X.env)).any (·.1) = false := by rfl) : PI X (.Tuple elts kk tpos) (.Call (.Name "zip" p) [e, e2] [] pos) (iZip K ta) := by subst hK; exact pi_zip hg hm ha h1 h2
theorem y_fld {e : Expr} {f : Str} {pos : Pos} {ta : TE} (he : PE X e ta) (hb : attributeBase e f X.env (eval e X.env) = eval e X.env) : PE X (.Attribute e f pos) (tFld K ta f) := by subst hK; exact pe_fld he hb
theorem y_rev {e : Expr} {te : TE} {k : Nat} {p1 p2 p3 pos : Pos} (he : PE X e te) : PE X (.Subscript e (.Slice none none (some (.UnaryOp .USub (.Constant (.int 1) k p1) p2)) p3) pos) (tRevL K te) := by subst hK; exact pe_revL he
section
variable {o e : Expr} {es : List Expr} {to : TE} {t : TA} {apos cpos : Pos}
theorem y_app (ho : PE X o to) (ha : PA X (e :: es) t) (h1 : attributeBase o "append" X.env (eval o X.env) = eval o X.env := by rfl)
    (h2 : ((backTo cpos (starEach (e :: es) X.env)).all (fun x => !x.1) && (backToKw cpos (keywordEach [] X.env)).all (fun x => x.1.isSome) && decide ((e :: es).length + ([] : List Keyword).length + (if ([] : List Keyword).isEmpty then 0 else 1) < 30)) = true := by rfl)
    (h3 : (apos.endLine == cpos.line) = true := by rfl) (h4 : starEach (e :: es) X.env = (false, eval e X.env) :: starEach es X.env := by rfl) (h5 : (backTo cpos (starEach es X.env)).any (·.1) = false := by rfl) : PE X (.Call (.Attribute o "append" apos) (e :: es) [] cpos) (tBM K "list" rAppend to t) := by
  subst hK; exact pe_bm PySem.F.plainAttrs_list PySem.F.slot_list_append PySem.F.type_list_append mt_append ho ha h1 h2 h3 h4 h5
theorem y_ext (ho : PE X o to) (ha : PA X (e :: es) t) (h1 : attributeBase o "extend" X.env (eval o X.env) = eval o X.env := by rfl)
    (h2 : ((backTo cpos (starEach (e :: es) X.env)).all (fun x => !x.1) && (backToKw cpos (keywordEach [] X.env)).all (fun x => x.1.isSome) && decide ((e :: es).length + ([] : List Keyword).length + (if ([] : List Keyword).isEmpty then 0 else 1) < 30)) = true := by rfl)
    (h3 : (apos.endLine == cpos.line) = true := by rfl) (h4 : starEach (e :: es) X.env = (false, eval e X.env) :: starEach es X.env := by rfl) (h5 : (backTo cpos (starEach es X.env)).any (·.1) = false := by rfl) : PE X (.Call (.Attribute o "extend" apos) (e :: es) [] cpos) (tBM K "list" rExtend to t) := by
  subst hK; exact pe_bm PySem.F.plainAttrs_list PySem.F.slot_list_extend PySem.F.type_list_extend mt_extend ho ha h1 h2 h3 h4 h5
theorem y_pop (ho : PE X o to) (ha : PA X (e :: es) t) (h1 : attributeBase o "pop" X.env (eval o X.env) = eval o X.env := by rfl)
    (h2 : ((backTo cpos (starEach (e :: es) X.env)).all (fun x => !x.1) && (backToKw cpos (keywordEach [] X.env)).all (fun x => x.1.isSome) && decide ((e :: es).length + ([] : List Keyword).length + (if ([] : List Keyword).isEmpty then 0 else 1) < 30)) = true := by rfl)
    (h3 : (apos.endLine == cpos.line) = true := by rfl) (h4 : starEach (e :: es) X.env = (false, eval e X.env) :: starEach es X.env := by rfl) (h5 : (backTo cpos (starEach es X.env)).any (·.1) = false := by rfl) : PE X (.Call (.Attribute o "pop" apos) (e :: es) [] cpos) (tBM K "list" rPopAt to t) := by
  subst hK; exact pe_bm PySem.F.plainAttrs_list PySem.F.slot_list_pop PySem.F.type_list_pop mt_popAt ho ha h1 h2 h3 h4 h5
end
end
end Sw
end
section
set_option maxRecDepth 100000
set_option maxHeartbeats 1000000
namespace Sw
open PySem L2
def pgA (K : PySem.W.Frag) (C f : Str) : Addr := match PySem.W.recIn K (He.ma K (He.ga K C) f) "property" with
  | some (.ref g :: _) => g
  | _ => 0
def propB (K : PySem.W.Frag) (q : Str × Str) : Bool := He.eqO (PySem.W.findIn K (.ref (He.ga K q.1)) q.2) (some (some (.ref (He.ma K (He.ga K q.1) q.2)))) && (He.eqO (PySem.W.specialIn K (.ref (He.ma K (He.ga K q.1) q.2)) "__get__") (some (some (.builtin "property.__get__"))) && (decide (PySem.W.takesIn K (.ref (He.ma K (He.ga K q.1) q.2)) = some true) && (match PySem.W.recIn K (He.ma K (He.ga K q.1) q.2) "property" with
  | some (.ref _ :: _) => true
  | _ => false)))
theorem propB_ok {K : PySem.W.Frag} {q : Str × Str} (h : propB K q = true) : PropOf K (He.ga K q.1) q.2 (He.ma K (He.ga K q.1) q.2) (pgA K q.1 q.2) := by
  obtain ⟨h1, h⟩ := He.ba h
  obtain ⟨h2, h⟩ := He.ba h
  obtain ⟨h3, h4⟩ := He.ba h
  refine ⟨He.eqO_ok h1, He.eqO_ok h2, of_decide_eq_true h3, ?_⟩
  unfold pgA
  split at h4
  · rename_i g r e
    rw [e]
    exact ⟨r, rfl⟩
  · cases h4
abbrev AlY : Type := He.AlX × List He.FnW
def exY (fa2 : List He5.DefA) (ps : List (Str × Str)) (p1 p2 : He.Defn) (K : PySem.W.Frag) : Bool := (fa2.all fun d => d.ok K) && (ps.all (propB K) && !((He.cT K p1).2 == (He.cT K p2).2))
section
variable (n : Nat) (fa : List He.Fa) (fn : List He.DefD) (fa2 : List He5.DefA) (ps : List (Str × Str)) (p1 p2 : He.Defn)
def obsY (g : Addr → Option Obj) : AlY := (He.obsX n fa fn [] [p1, p2] (exY fa2 ps p1 p2) g, fa2.map fun d => He5.fnA (He.frT g (He.asD g n)) (d.at_ (He.frT g (He.asD g n))))
def valY (w : World) : AlY := (He.valX fn [] w, fa2.map He5.DefA.val)
def SaysY (w : World) (h : Heap) (K : PySem.W.Frag) : Prop := He.SaysX fa fn [] [p1, p2] (exY fa2 ps p1 p2) w h K ∧ (fa2.map fun d => He5.fnA K (d.at_ K)) = fa2.map He5.DefA.val
def hookY : PySem.W.Hook where
  α := AlY
  obs := fun s => obsY n fa fn fa2 ps p1 p2 s.heap.get?
  val := fun w => valY fn fa2 w
  says := fun w h => ∃ K : PySem.W.Frag, K.In h ∧ SaysY fa fn fa2 ps p1 p2 w h K
  of := fun _ _ e => ⟨_, He.frT_in, He.saysX_of (congrArg (fun z : AlY => z.1) e), congrArg (fun z : AlY => z.2) e⟩
  keeps := fun _ _ _ ⟨K, hK, c, e⟩ k => ⟨K, PySem.W.Frag.In.keeps hK k, ⟨c.t, c.more, c.hd, c.out, fun p hp => k _ _ (c.empty p hp)⟩, e⟩
theorem obsY_eq {g : Addr → Option Obj} {s : Shared} (h : ∀ a, g a = s.heap.get? a) : obsY n fa fn fa2 ps p1 p2 g = (hookY n fa fn fa2 ps p1 p2).obs s := by
  have e : g = s.heap.get? := funext h
  rw [e] <;> rfl
end
theorem SaysY.defA {fa : List He.Fa} {fn : List He.DefD} {fa2 : List He5.DefA} {ps : List (Str × Str)} {p1 p2 : He.Defn} {w : World} {h : Heap} {K : PySem.W.Frag} (c : SaysY fa fn fa2 ps p1 p2 w h K) (i : Nat) {d : He5.DefA} (hi : fa2[i]? = some d := by rfl) : ∃ fd, L2.FunD K d.name d.qual d.params d.body d.scope (d.dvs K) (d.kws K) (d.at_ K) fd := by
  have c2 := (He.ba (show exY fa2 ps p1 p2 K = true from c.1.more)).1
  have e2 : (fa2.map fun d => He5.fnA K (d.at_ K))[i]? = (fa2.map He5.DefA.val)[i]? := by rw [c.2]
  rw [List.getElem?_map, List.getElem?_map, hi] at e2
  exact He5.DefA.funD (Option.some.inj e2) (List.all_eq_true.mp c2 d (List.mem_of_getElem? hi))
theorem SaysY.prop {fa : List He.Fa} {fn : List He.DefD} {fa2 : List He5.DefA} {ps : List (Str × Str)} {p1 p2 : He.Defn} {w : World} {h : Heap} {K : PySem.W.Frag} (c : SaysY fa fn fa2 ps p1 p2 w h K) (i : Nat) {q : Str × Str} (hi : ps[i]? = some q := by rfl) : PropOf K (He.ga K q.1) q.2 (He.ma K (He.ga K q.1) q.2) (pgA K q.1 q.2) := by
  have c2 := (He.ba (He.ba (show exY fa2 ps p1 p2 K = true from c.1.more)).2).1
  exact propB_ok (List.all_eq_true.mp c2 q (List.mem_of_getElem? hi))
theorem SaysY.ne {fa : List He.Fa} {fn : List He.DefD} {fa2 : List He5.DefA} {ps : List (Str × Str)} {p1 p2 : He.Defn} {w : World} {h : Heap} {K : PySem.W.Frag} (c : SaysY fa fn fa2 ps p1 p2 w h K) : (He.cT K p1).2 ≠ (He.cT K p2).2 := fun z => by
  have c2 := (He.ba (He.ba (show exY fa2 ps p1 p2 K = true from c.1.more)).2).2
  rw [z, beq_self_eq_true] at c2
  cases c2
section
variable {K : PySem.W.Frag} {h : Heap} {mg : Str → Option Value}
abbrev BindH (x qual : Str) (st : Stmt) (ps : List Str) : Prop := ∀ (kV doc pm : Value) (an : Option Addr) (cdv ct : Value) (us : List Value), us.length = ps.length → bindArgs (PySem.W.fnOf x qual (defArgs st) (defBody st) (defScope st) .none kV doc pm an cdv ct) ⟨us, []⟩ = pure (ps.zip us)
theorem df_of (X : K.In h) (G : h.Ns mainGlobals mg) {x : Str} {st : Stmt} {ps : List Str} (hF : ∃ fd, FunD K x x (defArgs st) (defBody st) (defScope st) [] [] (He.fAd K (x, none)) fd) (hg : (He.Fa.glo x).ok K = true) (hb : BindH x x st ps) : ∃ D : Df K mg x st ps, D.a = He.fAd K (x, none) := by
  obtain ⟨fd, F⟩ := hF
  exact ⟨⟨_, fd, He5.fun_of F, He.glo_ok X G hg, F.bindsN hb⟩, rfl⟩
theorem mf_of {a : Addr} {x qual : Str} {st : Stmt} {ps : List Str} (hF : ∃ fd, FunD K x qual (defArgs st) (defBody st) (defScope st) [] [] a fd) (hb : BindH x qual st ps) : ∃ D : Mf K x qual st ps, D.a = a := by
  obtain ⟨fd, F⟩ := hF
  exact ⟨⟨_, fd, He5.fun_of F, F.bindsN hb⟩, rfl⟩
end
def dD (x : Str) (st : Stmt) : He.DefD := ⟨(x, none), x, x, defArgs st, defBody st, defScope st, [], []⟩
def dG (C f q : Str) (st : Stmt) : He5.DefA := ⟨fun K => pgA K C f, f, q, defArgs st, defBody st, defScope st, [], []⟩
def fnL : List He.DefD := [dD "is_between" s_is_between, dD "is_name" s_is_name, dD "is_list" s_is_list, dD "are_drifts" s_are_drifts, dD "are_sources" s_are_sources, dD "is_fact" s_is_fact, dD "is_event" s_is_event, dD "check_events" s_check_events, dD "subsets" s_subsets, dD "choices" s_choices, dD "is_moment" s_is_moment, dD "check_moment" s_check_moment, dD "put" s_put, dD "put_drift" s_put_drift, dD "lines_of" s_lines_of, dD "put_moment" s_put_moment, dD "put_facts" s_put_facts, dD "table_with" s_table_with, dD "nodes_of" s_nodes_of, dD "relaxed" s_relaxed, dD "negative_ring" s_negative_ring, dD "farthest" s_farthest, dD "joined_spans" s_joined_spans, dD "span_between" s_span_between, dD "spans_between" s_spans_between, dD "known" s_known, dD "differences" s_differences, dD "_law_begin" s_law_begin, dD "_law_take" s_law_take, dD "_law_pick" s_law_pick, dD "_law_words" s_law_words, dD "_law_saying" s_law_saying, dD "_law_message" s_law_message, dD "_law_deeds" s_law_deeds, dD "_law_choices" s_law_choices, dD "_law_steps" s_law_steps, dD "_law_rules" s_law_rules, dD "_law_closed" s_law_closed, dD "_law_nodes" s_law_nodes, dD "_law_united" s_law_united, dD "_law_ranges" s_law_ranges, dD "_law_told" s_law_told, dD "_law_spot" s_law_spot, dD "_law_shuffled" s_law_shuffled, dD "_law_groups" s_law_groups, dD "_law_woven" s_law_woven, dD "_law_ends" s_law_ends, dD "_law_both" s_law_both, dD "_law_moved" s_law_moved, dD "_law_turned" s_law_turned, dD "_law_bridge" s_law_bridge, dD "_law_joined" s_law_joined, dD "_law_shares_right" s_law_shares_right, dD "law" s_law,
  ⟨("Network", some "__init__"), "__init__", "Network.__init__", defArgs s_Network_init, defBody s_Network_init, defScope s_Network_init, [], []⟩,
  ⟨("History", some "__init__"), "__init__", "History.__init__", defArgs s_History_init, defBody s_History_init, defScope s_History_init, [.adr (He.dflAt ("History", some "__init__") 0)], []⟩]
def faL : List He.Fa := [.glo "is_between", .glo "is_name", .glo "is_list", .glo "are_drifts", .glo "are_sources", .glo "is_fact", .glo "is_event", .glo "check_events", .glo "subsets", .glo "choices", .glo "is_moment", .glo "check_moment", .glo "put", .glo "put_drift", .glo "lines_of", .glo "put_moment", .glo "put_facts", .glo "table_with", .glo "nodes_of", .glo "relaxed", .glo "negative_ring", .glo "farthest", .glo "joined_spans", .glo "span_between", .glo "spans_between", .glo "known", .glo "differences", .glo "_law_begin", .glo "_law_take", .glo "_law_pick", .glo "_law_words", .glo "_law_saying", .glo "_law_message", .glo "_law_deeds", .glo "_law_choices", .glo "_law_steps", .glo "_law_rules", .glo "_law_closed", .glo "_law_nodes", .glo "_law_united", .glo "_law_ranges", .glo "_law_told", .glo "_law_spot", .glo "_law_shuffled", .glo "_law_groups", .glo "_law_woven", .glo "_law_ends", .glo "_law_both", .glo "_law_moved", .glo "_law_turned", .glo "_law_bridge", .glo "_law_joined", .glo "_law_shares_right", .glo "law", .glo "Network", .cls "Network", .mkr "Network", .glo "History", .cls "History", .mkr "History", .noat "Network" "n_drifts", .noat "Network" "n_sources", .noat "Network" "n_wrong", .noat "History" "h_network", .noat "History" "h_events", .str "ALPHABET" "abcdefghijklmnopqrstuvwxyz", .int "MOST_SIGNS" (6), .int "MOST_STATIONS" (4), .int "MOST_SOURCES" (6), .int "MOST_WRONG" (2), .int "MOST_DRIFT" (500), .int "MOST_EVENTS" (30), .int "MOST_FACTS" (3), .int "MOST_READING" (1000000000), .int "MOST_TIME" (1000000000000000), .int "MOST_DELAY" (1000000000000), .str "FROM" "from", .str "SAYS" "says", .str "MOMENT" "moment", .str "OTHER" "other", .str "ORIGIN" "origin", .int "EXACT" (1000), .free "abs", .free "all", .free "bool", .free "dict", .free "divmod", .free "enumerate", .free "int", .free "isinstance", .free "len", .free "list", .free "max", .free "min", .free "range", .free "sorted", .free "str", .free "tuple", .free "zip"]
def psL : List (Str × Str) := [("Network", "drifts"), ("Network", "stations"), ("Network", "sources"), ("Network", "wrong"), ("History", "network"), ("History", "events")]
def fa2L : List He5.DefA := [dG "Network" "drifts" "Network.drifts" s_Network_drifts, dG "Network" "stations" "Network.stations" s_Network_stations, dG "Network" "sources" "Network.sources" s_Network_sources, dG "Network" "wrong" "Network.wrong" s_Network_wrong, dG "History" "network" "History.network" s_History_network, dG "History" "events" "History.events" s_History_events]
abbrev dJ : He.Defn := ("joined_spans", none)
abbrev dS : He.Defn := ("_law_steps", none)
abbrev Says := SaysY faL fnL fa2L psL dJ dS
end Sw
namespace Sw
section
set_option maxHeartbeats 0
open PySem PySem.Spec PyProof.Rows L2
abbrev R : PySem.W.OpenRow := PySem.W.OpenLaw.row PySem.Challenge.rw_surehour_k85_whole_one_message_between_g
abbrev hk : PySem.W.Hook := hookY 6 faL fnL fa2L psL dJ dS
def ob (s : PySem.W.SharedT) : AlY := obsY 6 faL fnL fa2L psL dJ dS (HandSHeadRun.getT s)
theorem ob_eq (s : PySem.W.SharedT) : ob s = hk.obs s.abs := obsY_eq 6 faL fnL fa2L psL dJ dS (HandSHeadRun.getT_eq s)
abbrev qv : Program := PySem.W.view R.prog [82]
def nmA : List PySem.Str := [("_wall" : PySem.Str), ("__name__" : PySem.Str), ("HourError" : PySem.Str), ("NoNetwork" : PySem.Str), ("NoEvent" : PySem.Str), ("NoMoment" : PySem.Str), ("ALPHABET" : PySem.Str), ("MOST_SIGNS" : PySem.Str), ("MOST_STATIONS" : PySem.Str), ("MOST_SOURCES" : PySem.Str), ("MOST_WRONG" : PySem.Str), ("MOST_DRIFT" : PySem.Str), ("MOST_EVENTS" : PySem.Str), ("MOST_FACTS" : PySem.Str), ("MOST_READING" : PySem.Str), ("MOST_TIME" : PySem.Str), ("MOST_DELAY" : PySem.Str), ("FROM" : PySem.Str), ("SAYS" : PySem.Str), ("is_between" : PySem.Str), ("is_name" : PySem.Str), ("is_list" : PySem.Str), ("are_drifts" : PySem.Str), ("are_sources" : PySem.Str), ("Network" : PySem.Str), ("is_fact" : PySem.Str), ("is_event" : PySem.Str), ("check_events" : PySem.Str), ("History" : PySem.Str), ("MOMENT" : PySem.Str), ("OTHER" : PySem.Str), ("ORIGIN" : PySem.Str), ("EXACT" : PySem.Str), ("subsets" : PySem.Str), ("choices" : PySem.Str), ("is_moment" : PySem.Str), ("check_moment" : PySem.Str), ("put" : PySem.Str), ("put_drift" : PySem.Str)]
def nmB : List PySem.Str := [("lines_of" : PySem.Str), ("put_moment" : PySem.Str), ("put_facts" : PySem.Str), ("table_with" : PySem.Str), ("nodes_of" : PySem.Str), ("relaxed" : PySem.Str), ("negative_ring" : PySem.Str), ("farthest" : PySem.Str), ("joined_spans" : PySem.Str), ("span_between" : PySem.Str), ("spans_between" : PySem.Str), ("known" : PySem.Str), ("differences" : PySem.Str), ("_law_begin" : PySem.Str), ("_law_take" : PySem.Str), ("_law_pick" : PySem.Str), ("_law_words" : PySem.Str), ("_law_saying" : PySem.Str), ("_law_message" : PySem.Str), ("_law_deeds" : PySem.Str), ("_law_choices" : PySem.Str), ("_law_steps" : PySem.Str), ("_law_rules" : PySem.Str), ("_law_closed" : PySem.Str), ("_law_nodes" : PySem.Str), ("_law_united" : PySem.Str), ("_law_ranges" : PySem.Str), ("_law_told" : PySem.Str), ("_law_spot" : PySem.Str), ("_law_shuffled" : PySem.Str), ("_law_groups" : PySem.Str), ("_law_woven" : PySem.Str), ("_law_ends" : PySem.Str), ("_law_both" : PySem.Str), ("_law_moved" : PySem.Str), ("_law_turned" : PySem.Str), ("_law_bridge" : PySem.Str), ("_law_joined" : PySem.Str), ("_law_shares_right" : PySem.Str)]
def nms : List PySem.Str := nmA ++ nmB
theorem run (w : World) : HandSHeadRun.RunEq R qv hk ob 20000 nms w := by
  intro os
  kernel_rfl
end
end Sw
namespace Sw
section
set_option maxHeartbeats 0
open PySem PySem.W PySem.Calls PyProof.Rows L2
theorem head (F : ∀ (w : World) (mg : Str → Option Value) (fa : Addr) (h : Heap) (K : PySem.W.Frag), K.In h → Says w h K → h.Ns mainGlobals mg → mg "law" = some (.ref fa) → LamX.LawAtS PySem.Challenge.rw_surehour_k85_whole_one_message_between_g w K CX0 12 63 "_law_script" mg fa h) : PySem.Challenge.rw_surehour_k85_whole_one_message_between_g.Holds := by
  w_on; o_law
  refine HandSHeadRun.head_any (r := OpenLaw.row PySem.Challenge.rw_surehour_k85_whole_one_message_between_g) (q := Sw.qv) (H := Sw.hk) (ob := Sw.ob) (M := 20000) (loose := Sw.nms) (d := HandSHeadRun.topDef (OpenLaw.row PySem.Challenge.rw_surehour_k85_whole_one_message_between_g).prog 82) (kwd := []) Sw.ob_eq
    (by kernel_rfl) (fun s => by kernel_rfl) Sw.run (by kernel_rfl) (by kernel_rfl) (by kernel_rfl) (by rfl) (by first | assumption | decide +kernel) (by decide +kernel) ⟨rfl, rfl, rfl, rfl, rfl, by decide +kernel⟩ ?hw ?hc
  case hw => w_witness2
  case hc =>
    refine LamX.walk_ofTsE (l := PySem.Challenge.rw_surehour_k85_whole_one_message_between_g) (n := 63) (k := 12) (x := "_law_script") (CX := fun _ => L2.CX0) rfl (by decide) (by kernel_rfl) ⟨rfl, by decide, by decide⟩ ?F (fun _ _ _ _ _ z => z)
    intro w mg fa h Y G hmg0
    obtain ⟨K, KX, c⟩ := Y
    have hmg : mg ("law" : PySem.Str) = some (.ref fa) := by
      have e : (HandSHeadRun.topDef (OpenLaw.row PySem.Challenge.rw_surehour_k85_whole_one_message_between_g).prog 82).name = ("law" : PySem.Str) := by kernel_rfl
      rw [← e]
      exact hmg0
    exact ⟨K, KX, F w mg fa h K KX c G hmg⟩
end
end Sw
end
section
set_option maxRecDepth 100000
namespace Sw
open PySem L2
variable [TL]
def Wd (s : Str) : Prop := 1 ≤ s.length ∧ s.length ≤ 6 ∧ ∀ c ∈ s.cps.toList, 97 ≤ c ∧ c ≤ 122
theorem Wd.ok {s : Str} (h : Wd s) : PyData.strOk s = true := by
  unfold PyData.strOk
  rw [Array.all_eq_true]
  intro i hi
  have := h.2.2 s.cps[i] (by rw [Array.mem_toList_iff]; exact Array.getElem_mem hi)
  exact decide_eq_true (by omega)
def Wds (ws : List Str) : Prop := ∀ w ∈ ws, Wd w
theorem Wds.ok {ws : List Str} (h : Wds ws) : ∀ w ∈ ws, PyData.strOk w = true := fun w hw => (h w hw).ok
def dStrs (ws : List Str) : Da := .lst (ws.map .str)
def dInts (ns : List Int) : Da := .lst (ns.map .int)
def dLeans (l : List (Str × Int)) : Da := .dct (l.map fun p => (.inr p.1, .int p.2))
def dNet (l : List (Str × Int)) (vs : List Str) : Da := .tup [dLeans l, dStrs vs, .int 0]
def dNote : Sh.Note Str → Da
  | .frm j l m => .tup [.str "from", .int j, .int l, .int m]
  | .says v l h => .tup [.str "says", .str v, .int l, .int h]
def dNotes (ns : List (Sh.Note Str)) : Da := .tup (ns.map dNote)
def dDeed (d : Sh.Deed Str) : Da := .tup [.str d.st, .int d.tick, dNotes d.notes]
def dDeeds (ds : List (Sh.Deed Str)) : Da := .lst (ds.map dDeed)
section
variable {G : Hp} {v : V}
theorem rep_strs {ws : List Str} : Rep G (dStrs ws) v ↔ ∃ a, v = .ref a ∧ G a = some (.lst (ws.map V.str)) := by
  constructor
  · rintro ⟨a, vs, rfl, e, r⟩
    rw [RepL.strs.mp r] at e
    exact ⟨a, rfl, e⟩
  · rintro ⟨a, rfl, e⟩
    exact ⟨a, _, rfl, e, RepL.strs.mpr rfl⟩
theorem rep_ints {ws : List Int} : Rep G (dInts ws) v ↔ ∃ a, v = .ref a ∧ G a = some (.lst (ws.map V.int)) := by
  constructor
  · rintro ⟨a, vs, rfl, e, r⟩
    rw [RepL.ints.mp r] at e
    exact ⟨a, rfl, e⟩
  · rintro ⟨a, rfl, e⟩
    exact ⟨a, _, rfl, e, RepL.ints.mpr rfl⟩
def lkv (l : List (Str × Int)) : List (Key × V) := l.map fun p => (.inr p.1, .int p.2)
theorem repK_leans : ∀ {l : List (Str × Int)} {kvs : List (Key × V)}, RepK G (l.map fun p => (Sum.inr p.1, Da.int p.2)) kvs ↔ kvs = lkv l
  | [], _ => Iff.rfl
  | p :: l, kvs => by
    constructor
    · rintro ⟨v, r, rfl, h1, h2⟩
      rw [repK_leans.mp h2, show v = .int p.2 from h1]
      rfl
    · rintro rfl
      exact ⟨_, _, rfl, rfl, repK_leans.mpr rfl⟩
theorem rep_leans {l : List (Str × Int)} : Rep G (dLeans l) v ↔ ∃ a, v = .ref a ∧ G a = some (.dK (lkv l)) := by
  constructor
  · rintro ⟨a, vs, rfl, e, r⟩
    rw [repK_leans.mp r] at e
    exact ⟨a, rfl, e⟩
  · rintro ⟨a, rfl, e⟩
    exact ⟨a, _, rfl, e, repK_leans.mpr rfl⟩
theorem rep_net {l : List (Str × Int)} {vs : List Str} : Rep G (dNet l vs) v ↔ ∃ a b c, v = .ref a ∧ G a = some (.tup [.ref b, .ref c, .int 0]) ∧ G b = some (.dK (lkv l)) ∧ G c = some (.lst (vs.map V.str)) := by
  constructor
  · rintro ⟨a, ws, rfl, e, r⟩
    obtain ⟨x1, _, rfl, h1, x2, _, rfl, h2, x3, _, rfl, h3, rfl⟩ := r
    obtain ⟨b, rfl, hb⟩ := rep_leans.mp h1
    obtain ⟨c, rfl, hc⟩ := rep_strs.mp h2
    rw [show x3 = .int 0 from h3] at e
    exact ⟨a, b, c, rfl, e, hb, hc⟩
  · rintro ⟨a, b, c, rfl, e, hb, hc⟩
    exact ⟨a, _, rfl, e, _, _, rfl, rep_leans.mpr ⟨b, rfl, hb⟩, _, _, rfl, rep_strs.mpr ⟨c, rfl, hc⟩, _, _, rfl, rfl, rfl⟩
theorem rep_frm {j : Nat} {l m : Int} : Rep G (dNote (.frm j l m)) v ↔ ∃ a, v = .ref a ∧ G a = some (.tup [.str "from", .int j, .int l, .int m]) := by
  constructor
  · rintro ⟨a, ws, rfl, e, r⟩
    obtain ⟨x1, _, rfl, h1, x2, _, rfl, h2, x3, _, rfl, h3, x4, _, rfl, h4, rfl⟩ := r
    cases h1; cases h2; cases h3; cases h4
    exact ⟨a, rfl, e⟩
  · rintro ⟨a, rfl, e⟩
    exact ⟨a, _, rfl, e, _, _, rfl, rfl, _, _, rfl, rfl, _, _, rfl, rfl, _, _, rfl, rfl, rfl⟩
theorem rep_says {s : Str} {l m : Int} : Rep G (dNote (.says s l m)) v ↔ ∃ a, v = .ref a ∧ G a = some (.tup [.str "says", .str s, .int l, .int m]) := by
  constructor
  · rintro ⟨a, ws, rfl, e, r⟩
    obtain ⟨x1, _, rfl, h1, x2, _, rfl, h2, x3, _, rfl, h3, x4, _, rfl, h4, rfl⟩ := r
    cases h1; cases h2; cases h3; cases h4
    exact ⟨a, rfl, e⟩
  · rintro ⟨a, rfl, e⟩
    exact ⟨a, _, rfl, e, _, _, rfl, rfl, _, _, rfl, rfl, _, _, rfl, rfl, _, _, rfl, rfl, rfl⟩
theorem rep_notes {ns : List (Sh.Note Str)} : Rep G (dNotes ns) v ↔ ∃ a vs, v = .ref a ∧ G a = some (.tup vs) ∧ RepL G (ns.map dNote) vs := Iff.rfl
theorem rep_deed {d : Sh.Deed Str} : Rep G (dDeed d) v ↔ ∃ a n, v = .ref a ∧ G a = some (.tup [.str d.st, .int d.tick, n]) ∧ Rep G (dNotes d.notes) n := by
  constructor
  · rintro ⟨a, ws, rfl, e, r⟩
    obtain ⟨x1, _, rfl, h1, x2, _, rfl, h2, x3, _, rfl, h3, rfl⟩ := r
    cases h1; cases h2
    exact ⟨a, _, rfl, e, h3⟩
  · rintro ⟨a, n, rfl, e, r⟩
    exact ⟨a, _, rfl, e, _, _, rfl, rfl, _, _, rfl, rfl, _, _, rfl, r, rfl⟩
theorem rep_deeds {ds : List (Sh.Deed Str)} : Rep G (dDeeds ds) v ↔ ∃ a vs, v = .ref a ∧ G a = some (.lst vs) ∧ RepL G (ds.map dDeed) vs := Iff.rfl
end
def DispEnd (p : Addr) (Q : VK) (ps : List (V × V)) (H2 : Hp) : Prop := H2 p = some (.dK []) ∧ ∃ kvs : List (Key × V), ps = kvs.map (fun kv => (kV kv.1, kv.2)) ∧ kvs.length ≤ 15 ∧ Q (.ref p) (upd H2 p (.dK (mergeK [] kvs)))
section
variable {M : Addr → Prop} {D : Option Dr} {G0 H0 G H G' H' : Hp} {L : List (Addr × HO)} {p : Addr} {Q : VK} {σ : L2.St}
theorem xs_disp {trs : List (TE × TE)} (S : Sta M D G0 H0 G H L) (h : ∀ p H', Sta M D G0 H0 G H' ((p, .dK []) :: L) → tPairs trs σ H' (DispEnd p Q)) : tDisp trs σ H Q := fun p hn => h p _ (S.mine hn ⟨fun _ z => (nomatch z), fun _ z => (nomatch z)⟩)
theorem x_pair {tk tv : TE} {r : List (TE × TE)} {R : List (V × V) → Hp → Prop} (h : tk σ H fun x H1 => tv σ H1 fun y H2 => tPairs r σ H2 fun ps H3 => R ((x, y) :: ps) H3) : tPairs ((tk, tv) :: r) σ H R := h
theorem x_pair0 {R : List (V × V) → Hp → Prop} (h : R [] H) : tPairs [] σ H R := h
theorem ls_disp (kvs : List (Key × V)) {ps : List (V × V)} (S : Sta M D G0 H0 G H L) (i : Nat) (hi : L[i]? = some (p, .dK [])) (e : ps = kvs.map fun kv => (kV kv.1, kv.2)) (hl : kvs.length ≤ 15) (q : ∀ H', Sta M D G0 H0 G H' (L.set i (p, .dK (mergeK [] kvs))) → Q (.ref p) H') : DispEnd p Q ps H :=
  ⟨S.at hi, kvs, e, hl, q _ (S.set hi ⟨fun _ z => (nomatch z), fun _ z => (nomatch z)⟩)⟩
end
theorem mergeK_nodup : ∀ {more acc : List (Key × V)}, ((acc ++ more).map Prod.fst).Nodup → mergeK acc more = acc ++ more
  | [], acc, _ => by rw [List.append_nil]; rfl
  | kv :: more, acc, h => by
    show mergeK (putK acc kv.1 kv.2) more = _
    have hn : valV acc kv.1 = none := by
      cases e : valV acc kv.1 with
      | none => rfl
      | some x =>
        exfalso
        have a : (acc.any fun q => decide (q.1 = kv.1)) = true := by rw [valV_any, e]; rfl
        obtain ⟨q, hq, hk⟩ := List.any_eq_true.mp a
        rw [List.map_append, List.map_cons, List.nodup_append] at h
        exact h.2.2 q.1 (List.mem_map.mpr ⟨q, hq, rfl⟩) kv.1 List.mem_cons_self (of_decide_eq_true hk)
    have hp : putK acc kv.1 kv.2 = acc ++ [kv] := by
      unfold putK
      rw [if_neg]
      rw [valV_any, hn]
      exact fun z => (nomatch z)
    rw [hp, mergeK_nodup (by rw [List.append_assoc]; exact h), List.append_assoc]
    rfl
theorem mergeK_nil {more : List (Key × V)} (h : (more.map Prod.fst).Nodup) : mergeK [] more = more := mergeK_nodup (acc := []) h
theorem putK_new {acc : List (Key × V)} {k : Key} {v : V} (hn : valV acc k = none) : putK acc k v = acc ++ [(k, v)] := by
  unfold putK
  rw [if_neg]
  rw [valV_any, hn]
  exact fun z => (nomatch z)
theorem valV_mem {acc : List (Key × V)} {k : Key} {v : V} (h : (acc.map Prod.fst).Nodup) (m : (k, v) ∈ acc) : valV acc k = some v := by
  induction acc with
  | nil => exact nomatch m
  | cons q acc ih =>
    rw [List.map_cons, List.nodup_cons] at h
    rcases List.mem_cons.mp m with rfl | m
    · exact valV_pos rfl
    · rw [valV_neg fun z => h.1 (z ▸ List.mem_map.mpr ⟨_, m, rfl⟩)]
      exact ih h.2 m
theorem valV_none {acc : List (Key × V)} {k : Key} (h : ∀ q ∈ acc, q.1 ≠ k) : valV acc k = none := by
  induction acc with
  | nil => rfl
  | cons q acc ih =>
    rw [valV_neg (h q List.mem_cons_self)]
    exact ih fun x hx => h x (List.mem_cons_of_mem _ hx)
theorem lkv_key {l : List (Str × Int)} : (lkv l).map Prod.fst = (l.map Prod.fst).map Sum.inr := by
  unfold lkv
  rw [List.map_map, List.map_map]
  rfl
theorem nodup_inr {l : List Str} (h : l.Nodup) : (l.map (Sum.inr : Str → Key)).Nodup := List.Pairwise.map _ (fun a b n z => n (by cases z; rfl)) h
theorem lkv_val {l : List (Str × Int)} (h : (l.map Prod.fst).Nodup) {s : Str} {i : Int} (m : (s, i) ∈ l) : valV (lkv l) (.inr s) = some (.int i) :=
  valV_mem (by rw [lkv_key]; exact nodup_inr h) (List.mem_map.mpr ⟨(s, i), m, rfl⟩)
end Sw
namespace Sw
open PySem L2
variable [TL]
theorem l_wipe {σ τ : L2.St} {R : Prop} (h : σ = τ) (q : R) : σ = τ ∧ R := ⟨h, q⟩
theorem drawK_nd (l c : Addr) (r t m : Int) : ((drawK l c r t m).map Prod.fst).Nodup := by
  show ([kk "large", kk "cells", kk "rest", kk "turn", kk "mix"] : List Key).Nodup
  decide +kernel
end Sw
namespace Sw
open PySem L2
variable [TL]
theorem inV_strs (s : Str) : ∀ ws : List Str, inV (.str s) (ws.map V.str) = decide (s ∈ ws)
  | [] => rfl
  | w :: ws => by
    have ih := inV_strs s ws
    unfold inV at ih ⊢
    rw [List.map_cons, List.any_cons, ih]
    show (w == s || _) = _
    by_cases h : w = s
    · subst h
      simp
    · have h' : ¬ s = w := fun z => h z.symm
      simp [h, h']
theorem flat_strs : ∀ ws : List Str, (ws.map V.str).all flatV = true
  | [] => rfl
  | w :: ws => by
    rw [List.map_cons, List.all_cons, flat_strs ws]
    rfl
theorem pig {α : Type} [DecidableEq α] : ∀ (l m : List α), l.Nodup → (∀ x ∈ l, x ∈ m) → l.length ≤ m.length
  | [], _, _, _ => Nat.zero_le _
  | x :: l, m, h, s => by
    rw [List.nodup_cons] at h
    have hx := s x List.mem_cons_self
    have := pig l (m.erase x) h.2 fun y hy => (List.mem_erase_of_ne fun z => h.1 (by rw [← z]; exact hy)).mpr (s y (List.mem_cons_of_mem _ hy))
    rw [List.length_erase_of_mem hx] at this
    have := List.length_pos_of_mem hx
    rw [List.length_cons]
    omega
theorem cut5 (w : Str) : ∃ l : List Nat, cutS w none (some 5) = ⟨l.toArray⟩ ∧ l.length ≤ 5 ∧ ∀ c ∈ l, c ∈ w.cps.toList := by
  refine ⟨_, rfl, ?_, fun c hc => List.mem_of_mem_drop (List.mem_of_mem_take hc)⟩
  rw [List.length_take, HT.sIx_none]
  have : HT.sIx w.length w.length (some 5) ≤ 5 := by
    show (if (5 : Int) < 0 then ((5 : Int) + (w.length : Int)).toNat else min (5 : Int).toNat w.length) ≤ 5
    rw [if_neg (by decide)]
    exact Nat.min_le_left _ _
  omega
def lets : Str := "abcdefghijklmnopqrstuvwxyz"
theorem lets_ok : lets.cps.toList.Nodup ∧ (∀ c ∈ lets.cps.toList, 97 ≤ c ∧ c ≤ 122) ∧ lets.cps.size = 26 := by decide +kernel
def vary (w : Str) (c : Nat) : Str := cutS w none (some 5) ++ ⟨#[c]⟩
theorem vary_wd {w : Str} (h : Wd w) {c : Nat} (hc : 97 ≤ c ∧ c ≤ 122) : Wd (vary w c) := by
  obtain ⟨l, e, h1, h2⟩ := cut5 w
  unfold vary
  rw [e]
  have q : ((⟨l.toArray⟩ : Str) ++ ⟨#[c]⟩).cps.toList = l ++ [c] := by
    show (l.toArray ++ #[c]).toList = _
    simp
  have z : ((⟨l.toArray⟩ : Str) ++ ⟨#[c]⟩).length = l.length + 1 := by
    show (l.toArray ++ #[c]).size = _
    simp
  refine ⟨by omega, by omega, fun x hx => ?_⟩
  rw [q] at hx
  rcases List.mem_append.mp hx with hx | hx
  · exact h.2.2 x (h2 x hx)
  · rw [List.mem_singleton.mp hx]
    exact hc
theorem vary_inj {w : Str} {c d : Nat} (h : vary w c = vary w d) : c = d := by
  obtain ⟨l, e, _⟩ := cut5 w
  unfold vary at h
  rw [e] at h
  have := congrArg (fun z : Str => z.cps.toList) h
  have q : ∀ c, ((⟨l.toArray⟩ : Str) ++ ⟨#[c]⟩).cps.toList = l ++ [c] := fun c => by
    show (l.toArray ++ #[c]).toList = _
    simp
  simp only [q] at this
  have := List.append_cancel_left this
  cases this
  rfl
def cands (w : Str) : List Str := w :: lets.cps.toList.map (vary w)
theorem cands_len (w : Str) : (cands w).length = 27 := by
  unfold cands
  rw [List.length_cons, List.length_map, Array.length_toList, lets_ok.2.2]
theorem cands_wd {w : Str} (h : Wd w) : Wds (cands w) := fun x hx => by
  rcases List.mem_cons.mp hx with rfl | hx
  · exact h
  · obtain ⟨c, hc, rfl⟩ := List.mem_map.mp hx
    exact vary_wd h (lets_ok.2.1 c hc)
theorem cands_out {w : Str} {ws : List Str} (h : ws.length < 26) : (cands w).filter (fun x => !decide (x ∈ ws)) ≠ [] := by
  intro e
  have hp := pig (lets.cps.toList.map (vary w)) ws (List.Pairwise.map _ (fun a b n z => n (vary_inj z)) lets_ok.1) (fun x hx => by
    rcases Decidable.em (x ∈ ws) with q | q
    · exact q
    · have : x ∈ (cands w).filter (fun x => !decide (x ∈ ws)) := List.mem_filter.mpr ⟨List.mem_cons_of_mem _ hx, by rw [decide_eq_false q]; rfl⟩
      rw [e] at this
      exact nomatch this)
  rw [List.length_map, Array.length_toList, lets_ok.2.2] at hp
  omega
end Sw
namespace Sw
open PySem L2
variable [TL]
def NoteIn (vs : List Str) (i : Nat) : Sh.Note Str → Prop
  | .frm j l m => j < i ∧ 0 ≤ l ∧ l ≤ m ∧ m ≤ 1000000
  | .says v l h => v ∈ vs ∧ -1000000 ≤ l ∧ l ≤ h ∧ h ≤ 1000000
theorem NoteIn.more {vs : List Str} {i : Nat} {n : Sh.Note Str} (h : NoteIn [] i n) : NoteIn vs i n := by
  cases n with
  | frm j l m => exact h
  | says v l m => exact nomatch h.1
structure LeanOk (lean : List (Str × Int)) : Prop where
  ne : lean ≠ []
  len : lean.length ≤ 4
  nd : (lean.map Prod.fst).Nodup
  wd : ∀ p ∈ lean, Wd p.1
  b : ∀ p ∈ lean, 0 ≤ p.2 ∧ p.2 ≤ 500
structure DeedsOk (lean : List (Str × Int)) (vs : List Str) (ds : List (Sh.Deed Str)) : Prop where
  len : ds.length ≤ 5
  st : ∀ d ∈ ds, d.st ∈ lean.map Prod.fst
  tick : ∀ d ∈ ds, 0 ≤ d.tick ∧ d.tick ≤ 1000
  mono : ds.Pairwise fun a b => a.st = b.st → a.tick < b.tick
  notes : ∀ i d, ds[i]? = some d → d.notes.length ≤ 3 ∧ ∀ n ∈ d.notes, NoteIn vs i n
theorem lkv_names (lean : List (Str × Int)) : (lkv lean).map (fun kv => kV kv.1) = (lean.map Prod.fst).map V.str := by
  unfold lkv
  rw [List.map_map, List.map_map]
  rfl
end Sw
namespace Sw
open PySem L2
variable [TL]
theorem valV_putK (kvs : List (Key × V)) (k j : Key) (v : V) : valV (putK kvs k v) j = if j = k then some v else valV kvs j := by
  unfold putK
  by_cases h : (kvs.any fun kv => decide (kv.1 = k)) = true
  · rw [if_pos h, valV_map]
    by_cases e : j = k
    · subst e
      rw [if_pos rfl]
      rw [valV_any] at h
      obtain ⟨x, hx⟩ := Option.isSome_iff_exists.mp h
      rw [hx]
      simp
    · rw [if_neg e]
      cases valV kvs j <;> simp [e]
  · rw [if_neg h]
    rw [valV_any] at h
    refine valV_snoc k j v kvs ?_
    cases e : valV kvs k with
    | none => rfl
    | some x => rw [e] at h; exact absurd rfl h
end Sw
namespace Sw
variable [TL]
theorem perm_erase {α : Type} : ∀ (ls : List α) (n : Nat) (h : n < ls.length), ([ls[n]] ++ ls.eraseIdx n).Perm ls
  | x :: ls, 0, _ => by simp
  | x :: ls, n + 1, h => by
    have h' : n < ls.length := by simpa using h
    have ih := perm_erase ls n h'
    show (ls[n] :: x :: ls.eraseIdx n).Perm (x :: ls)
    exact (List.Perm.swap _ _ _).trans (List.Perm.cons x ih)
end Sw
namespace Sw
variable [TL]
theorem map_erase {α β : Type} (f : α → β) : ∀ (ls : List α) (n : Nat), (ls.map f).eraseIdx n = (ls.eraseIdx n).map f
  | [], _ => rfl
  | x :: ls, 0 => rfl
  | x :: ls, n + 1 => congrArg (f x :: ·) (map_erase f ls n)
end Sw
end
section
set_option maxRecDepth 100000
namespace Sw
open PySem L2
variable [TL]
theorem pr_mono {α β : Type} {R R' : α → β → Prop} (h : ∀ a b, R a b → R' a b) : ∀ {l : List α} {m : List β}, Paired R l m → Paired R' l m
  | [], _, p => by cases p; exact .nil
  | _ :: _, _, p => by cases p with | cons r t => exact .cons (h _ _ r) (pr_mono h t)
theorem pr_app {α β : Type} {R : α → β → Prop} : ∀ {l l' : List α} {m m' : List β}, Paired R l m → Paired R l' m' → Paired R (l ++ l') (m ++ m')
  | [], _, _, _, p, q => by cases p; exact q
  | _ :: _, _, _, _, p, q => by cases p with | cons r t => exact .cons r (pr_app t q)
theorem pr_snoc {α β : Type} {R : α → β → Prop} {l : List α} {m : List β} {a : α} {b : β} (p : Paired R l m) (h : R a b) : Paired R (l ++ [a]) (m ++ [b]) := pr_app p (.cons h .nil)
theorem pr_map {α β γ : Type} (R : α → γ → Prop) (f : β → γ) : ∀ {l : List α} {m : List β}, Paired R l (m.map f) ↔ Paired (fun a b => R a (f b)) l m
  | [], [] => ⟨fun _ => .nil, fun _ => .nil⟩
  | [], _ :: _ => ⟨fun h => (nomatch h), fun h => (nomatch h)⟩
  | _ :: _, [] => ⟨fun h => (nomatch h), fun h => (nomatch h)⟩
  | a :: l, b :: m => ⟨fun h => by cases h with | cons r t => exact .cons r ((pr_map R f).mp t), fun h => by cases h with | cons r t => exact .cons r ((pr_map R f).mpr t)⟩
theorem pr_len {α β : Type} {R : α → β → Prop} : ∀ {l : List α} {m : List β}, Paired R l m → l.length = m.length
  | [], _, p => by cases p; rfl
  | _ :: _, _, p => by cases p with | cons r t => rw [List.length_cons, List.length_cons, pr_len t]
theorem pr_get {α β : Type} {R : α → β → Prop} : ∀ {l : List α} {m : List β} {a : α}, Paired R l m → a ∈ l → ∃ b ∈ m, R a b
  | [], _, _, _, h => nomatch h
  | _ :: _, _, _, p, h => by
    cases p with
    | cons r t =>
      rcases List.mem_cons.mp h with rfl | h
      · exact ⟨_, List.mem_cons_self, r⟩
      · obtain ⟨b, hb, q⟩ := pr_get t h
        exact ⟨b, List.mem_cons_of_mem _ hb, q⟩
/-- tuples (word, number) -/
abbrev TpW (G : Hp) : List Addr → List (Str × Int) → Prop := Paired fun t x => G t = some (.tup [.str x.1, .int x.2])
section
variable {M : Addr → Prop} {D : Option Dr} {G0 H0 G H G' H' : Hp} {L : List (Addr × HO)} {d : Addr} {Q : VK} {K : PySem.W.Frag}
theorem ls_items {lean : List (Str × Int)} (S : Sta M D G0 H0 G H L) (h : H d = some (.dK (lkv lean))) (q : ∀ G' H' p ts, Sub G G' → Sta M D G0 H0 G' H' L → G' p = some (.lst (ts.map V.ref)) → TpW G' ts lean → Q (.ref p) H') : LiI.rItemsL (.ref d) H Q := by
  refine ⟨d, lkv lean, rfl, h, fun H' p ts he hp ht hpt e r => ?_⟩
  have hr : Paired (fun t (x : Str × Int) => H' t = some (.tup [.str x.1, .int x.2])) ts lean := (pr_map (fun t (q : Key × V) => H' t = some (HO.tup [kV q.1, q.2])) _).mp r
  have s1 : Sub G (fun b => if b = p then some (.lst (ts.map V.ref)) else if b ∈ ts then H' b else G b) := fun b o hb => by
    have hH := S.inn b o hb
    show (if b = p then _ else _) = _
    rw [if_neg (fun z => by rw [z, hp] at hH; cases hH), if_neg (fun z => by rw [ht b z] at hH; cases hH)]
    exact hb
  refine q _ H' p ts s1 (S.grow he s1 (fun b o hb => ?_) (fun b hb hg => ?_) fun b ps e0 => ?_) (if_pos rfl) ?_
  · have hb : (if b = p then some (HO.lst (ts.map V.ref)) else if b ∈ ts then H' b else G b) = some o := hb
    by_cases e1 : b = p
    · rw [if_pos e1] at hb
      rw [e1, e]
      exact hb
    · rw [if_neg e1] at hb
      by_cases e2 : b ∈ ts
      · rw [if_pos e2] at hb
        exact hb
      · rw [if_neg e2] at hb
        exact he b o (S.inn b o hb)
  · show (if b = p then _ else _) = _
    rw [if_neg (fun z => hb (by rw [z]; exact hp)), if_neg (fun z => hb (ht b z))]
    exact hg
  · have e0 : (if b = p then some (HO.lst (ts.map V.ref)) else if b ∈ ts then H' b else G b) = some (.tbl ps) := e0
    by_cases e1 : b = p
    · rw [if_pos e1] at e0
      cases e0
    · rw [if_neg e1] at e0
      by_cases e2 : b ∈ ts
      · rw [if_pos e2] at e0
        obtain ⟨x, _, q2⟩ := pr_get hr e2
        rw [q2] at e0
        cases e0
      · rw [if_neg e2] at e0
        exact e0
  · have key : ∀ (l : List Addr) (m : List (Str × Int)), (∀ t ∈ l, t ∈ ts) → Paired (fun t (x : Str × Int) => H' t = some (HO.tup [.str x.1, .int x.2])) l m → Paired (fun t (x : Str × Int) => (if t = p then some (HO.lst (ts.map V.ref)) else if t ∈ ts then H' t else G t) = some (.tup [.str x.1, .int x.2])) l m := by
      intro l
      induction l with
      | nil => intro m _ p; cases p; exact .nil
      | cons t l ih =>
        intro m hm pp
        cases pp with
        | cons r1 r2 =>
          refine .cons ?_ (ih _ (fun x hx => hm x (List.mem_cons_of_mem _ hx)) r2)
          have hin := hm t List.mem_cons_self
          rw [if_neg (fun z : t = p => hpt (by rw [← z]; exact hin)), if_pos hin]
          exact r1
    exact key ts lean (fun _ h => h) hr
/-- dict([(word, number), ..]), the words apart -/
theorem ls_dictW {a : Addr} {ps : List Addr} {lean : List (Str × Int)} (S : Sta M D G0 H0 G H L) (h : H a = some (.lst (ps.map V.ref))) (r : TpW G ps lean) (nd : (lean.map Prod.fst).Nodup) (q : New Q (.dK (lkv lean)) H) : rDctP K [.ref a] H Q := by
  refine ls_dictP (kvs := lkv lean) h ((pr_map (fun p (kv : Key × V) => SqT K H p [kV kv.1, kv.2]) _).mpr (pr_mono (fun t x e => SqT.of (S.inn _ _ e)) r)) ?_
  rw [mergeK_nil (by rw [lkv_key]; exact nodup_inr nd)]
  exact q
end
structure Grp where
  lean : List (Str × Int)
  vs : List Str
  ds : List (Sh.Deed Str)
  hrs : List Int
structure GrpOk (g : Grp) : Prop where
  lean : LeanOk g.lean
  vlen : g.vs.length ≤ 6
  vwd : Wds g.vs
  ds : DeedsOk g.lean g.vs g.ds
  hlen : g.hrs.length = g.ds.length
  hb : ∀ h ∈ g.hrs, -100000 ≤ h ∧ h ≤ 100000
def dGroup (g : Grp) : Da := .dct [(kk "net", dNet g.lean g.vs), (kk "deeds", dDeeds g.ds), (kk "hours", dInts g.hrs)]
def groupK (n d h : V) : List (Key × V) := [(kk "net", n), (kk "deeds", d), (kk "hours", h)]
theorem rep_group {G : Hp} {g : Grp} {v : V} : Rep G (dGroup g) v ↔ ∃ a n d h, v = .ref a ∧ G a = some (.dK (groupK n d h)) ∧ Rep G (dNet g.lean g.vs) n ∧ Rep G (dDeeds g.ds) d ∧ Rep G (dInts g.hrs) h := by
  constructor
  · rintro ⟨a, ws, rfl, e, r⟩
    obtain ⟨x1, _, rfl, h1, x2, _, rfl, h2, x3, _, rfl, h3, rfl⟩ := r
    exact ⟨a, x1, x2, x3, rfl, e, h1, h2, h3⟩
  · rintro ⟨a, n, d, h, rfl, e, h1, h2, h3⟩
    exact ⟨a, _, rfl, e, _, _, rfl, h1, _, _, rfl, h2, _, _, rfl, h3, rfl⟩
theorem gND : ¬ kk "net" = kk "deeds" := by decide +kernel
theorem gNH : ¬ kk "net" = kk "hours" := by decide +kernel
theorem gDH : ¬ kk "deeds" = kk "hours" := by decide +kernel
section
variable (n d h : V)
theorem group_net : valV (groupK n d h) (kk "net") = some n := valV_pos (p := (kk "net", n)) rfl
theorem group_deeds : valV (groupK n d h) (kk "deeds") = some d := (valV_neg (p := (kk "net", n)) gND).trans (valV_pos (p := (kk "deeds", d)) rfl)
theorem group_hours : valV (groupK n d h) (kk "hours") = some h := (valV_neg (p := (kk "net", n)) gNH).trans ((valV_neg (p := (kk "deeds", d)) gDH).trans (valV_pos (p := (kk "hours", h)) rfl))
theorem groupK_nd : ((groupK n d h).map Prod.fst).Nodup := by
  show ([kk "net", kk "deeds", kk "hours"] : List Key).Nodup
  decide +kernel
end
end Sw
namespace Sw
open PySem L2
variable [TL]
theorem cut_take (xs : List V) (n : Nat) : cutV xs none (some (n : Int)) = xs.take n := by
  unfold cutV
  rw [HT.sIx_none, HT.sIx_nat, List.drop_zero, Nat.sub_zero]
  by_cases h : n ≤ xs.length
  · rw [Nat.min_eq_left h]
  · rw [Nat.min_eq_right (by omega), List.take_of_length_le (Nat.le_refl _), List.take_of_length_le (by omega)]
theorem cut_drop (xs : List V) (n : Nat) : cutV xs (some (n : Int)) none = xs.drop n := by
  unfold cutV
  rw [HT.sIx_none, HT.sIx_nat]
  by_cases h : n ≤ xs.length
  · rw [Nat.min_eq_left h, List.take_of_length_le (by rw [List.length_drop]; exact Nat.le_refl _)]
  · rw [Nat.min_eq_right (by omega), Nat.sub_self, List.take_zero, List.drop_of_length_le (by omega)]
end Sw
namespace Sw
open PySem L2
variable [TL]
theorem clL_map {α : Type} (f : α → Da) : ∀ {l : List α}, (∀ x ∈ l, (f x).cl = true) → Da.clL (l.map f) = true
  | [], _ => rfl
  | x :: l, h => by
    rw [List.map_cons]
    simp only [Da.clL, h x List.mem_cons_self, clL_map f fun y hy => h y (List.mem_cons_of_mem _ hy), Bool.and_self]
theorem depL_map {α : Type} (f : α → Da) (n : Nat) : ∀ {l : List α}, (∀ x ∈ l, (f x).dep ≤ n) → Da.depL (l.map f) ≤ n
  | [], _ => Nat.zero_le _
  | x :: l, h => by
    rw [List.map_cons]
    have := h x List.mem_cons_self
    have := depL_map f n fun y (hy : y ∈ l) => h y (List.mem_cons_of_mem _ hy)
    simp only [Da.depL]
    omega
theorem from_ok : PyData.strOk ("from" : Str) = true := by decide +kernel
theorem says_ok : PyData.strOk ("says" : Str) = true := by decide +kernel
theorem note_cl {n : Sh.Note Str} (h : ∀ v l m, n = .says v l m → Wd v) : (dNote n).cl = true := by
  cases n with
  | frm j l m => simp only [dNote, Da.cl, Da.clL, from_ok, Bool.and_self]
  | says v l m => simp only [dNote, Da.cl, Da.clL, says_ok, (h v l m rfl).ok, Bool.and_self]
theorem note_dep (n : Sh.Note Str) : (dNote n).dep ≤ 1 := by
  cases n <;> simp [dNote, Da.dep, Da.depL]
theorem deed_cl {d : Sh.Deed Str} (h1 : Wd d.st) (h2 : ∀ n ∈ d.notes, ∀ v l m, n = .says v l m → Wd v) : (dDeed d).cl = true := by
  have := clL_map dNote fun n hn => note_cl (h2 n hn)
  simp only [dDeed, dNotes, Da.cl, Da.clL, h1.ok, this, Bool.and_self]
theorem deed_dep (d : Sh.Deed Str) : (dDeed d).dep ≤ 3 := by
  have := depL_map dNote 1 (l := d.notes) fun n _ => note_dep n
  simp only [dDeed, dNotes, Da.dep, Da.depL]
  omega
theorem deeds_dep (ds : List (Sh.Deed Str)) : Da.depL (ds.map dDeed) ≤ 50 := Nat.le_trans (depL_map dDeed 3 fun d _ => deed_dep d) (by decide)
theorem DeedsOk.cl {lean : List (Str × Int)} {vs : List Str} {ds : List (Sh.Deed Str)} (ok : DeedsOk lean vs ds) (lo : LeanOk lean) (hw : Wds vs) : Da.clL (ds.map dDeed) = true := by
  refine clL_map dDeed fun d hd => deed_cl ?_ fun n hn v l m e => ?_
  · obtain ⟨p, hp, e⟩ := List.mem_map.mp (ok.st d hd)
    rw [← e]
    exact lo.wd p hp
  · obtain ⟨i, hi⟩ := List.getElem?_of_mem hd
    have := (ok.notes i d hi).2 n hn
    rw [e] at this
    exact hw v this.1
def dSpot (s : Str × Int) : Da := .tup [.str s.1, .int s.2]
theorem rep_spot {G : Hp} {s : Str × Int} {v : V} : Rep G (dSpot s) v ↔ ∃ a, v = .ref a ∧ G a = some (.tup [.str s.1, .int s.2]) := by
  constructor
  · rintro ⟨a, ws, rfl, e, r⟩
    obtain ⟨x1, _, rfl, h1, x2, _, rfl, h2, rfl⟩ := r
    cases h1; cases h2
    exact ⟨a, rfl, e⟩
  · rintro ⟨a, rfl, e⟩
    exact ⟨a, _, rfl, e, _, _, rfl, rfl, _, _, rfl, rfl, rfl⟩
end Sw
namespace Sw
open PySem L2
variable [TL]
def optV : Option Int → V
  | none => .non
  | some i => .int i
theorem rep_opt {G : Hp} {o : Option Int} {v : V} : Rep G (dOpt o) v ↔ v = optV o := by cases o <;> exact Iff.rfl
theorem rep_span {G : Hp} {s : Sh.Span} {v : V} : Rep G (dSpan s) v ↔ ∃ a, v = .ref a ∧ G a = some (.tup [optV s.1, optV s.2]) := by
  constructor
  · rintro ⟨a, ws, rfl, e, r⟩
    obtain ⟨x1, _, rfl, h1, x2, _, rfl, h2, rfl⟩ := r
    rw [rep_opt.mp h1, rep_opt.mp h2] at e
    exact ⟨a, rfl, e⟩
  · rintro ⟨a, rfl, e⟩
    exact ⟨a, _, rfl, e, _, _, rfl, rep_opt.mpr rfl, _, _, rfl, rep_opt.mpr rfl, rfl⟩
def dPair (p : Int × Int) : Da := .tup [.int p.1, .int p.2]
def dPairs (l : List (Int × Int)) : Da := .lst (l.map dPair)
theorem rep_pair {G : Hp} {s : Int × Int} {v : V} : Rep G (dPair s) v ↔ ∃ a, v = .ref a ∧ G a = some (.tup [.int s.1, .int s.2]) := by
  constructor
  · rintro ⟨a, ws, rfl, e, r⟩
    obtain ⟨x1, _, rfl, h1, x2, _, rfl, h2, rfl⟩ := r
    cases h1; cases h2
    exact ⟨a, rfl, e⟩
  · rintro ⟨a, rfl, e⟩
    exact ⟨a, _, rfl, e, _, _, rfl, rfl, _, _, rfl, rfl, rfl⟩
theorem isNon_opt (o : Option Int) : decide (optV o = .non) = o.isNone := by cases o <;> rfl
end Sw
namespace Sw
open PySem L2
variable [TL]
theorem opt_t {o : Option Int} (h : o.isNone = true) (d : Int) : V.int d = .int (o.getD d) := by cases o; rfl; cases h
theorem opt_f {o : Option Int} (h : o.isNone = false) (d : Int) : optV o = .int (o.getD d) := by cases o; cases h; rfl
end Sw
namespace Sw
open PySem L2
variable [TL]
theorem pairs_cl (l : List (Int × Int)) : Da.clL (l.map dPair) = true := clL_map dPair fun p _ => by simp [dPair, Da.cl, Da.clL]
theorem pairs_dep (l : List (Int × Int)) : Da.depL (l.map dPair) ≤ 50 := Nat.le_trans (depL_map dPair 1 fun p _ => by simp [dPair, Da.dep, Da.depL]) (by decide)
theorem perm_le1 {α : Type} {ys xs : List α} (h : ys.Perm xs) (hl : xs.length ≤ 1) : ys = xs := by
  match xs, hl with
  | [], _ => exact List.Perm.eq_nil h
  | [x], _ => exact List.perm_singleton.mp h
end Sw
namespace Sw
open PySem L2
variable [TL]
theorem lets_all (c : Nat) (h : 97 ≤ c ∧ c ≤ 122) : c ∈ lets.cps.toList := by
  have k : ((List.range 123).all fun c => decide (c < 97) || decide (c ∈ lets.cps.toList)) = true := by decide +kernel
  have := List.all_eq_true.mp k c (List.mem_range.mpr (by omega))
  rw [Bool.or_eq_true, decide_eq_true_iff, decide_eq_true_iff] at this
  exact this.resolve_left (by omega)
theorem all_true : ∀ n : Nat, (List.replicate n true).all id = true
  | 0 => rfl
  | n + 1 => by rw [List.replicate_succ, List.all_cons, all_true n]; rfl
theorem rep_snoc (n : Nat) : (List.replicate n true).map V.bl ++ [V.bl true] = (List.replicate (n + 1) true).map V.bl := by
  rw [List.replicate_succ', List.map_append]
  rfl
end Sw
end
section
set_option maxRecDepth 100000
namespace Sw
open PySem L2
variable [TL]
def fl (pl : List Nat) (j : Nat) : Nat := pl.getD j 0
def carry (pl : List Nat) (d : Sh.Deed Str) (x : List (Sh.Note Str)) : Sh.Deed Str := ⟨d.st, d.tick, d.notes.map (Sh.Note.ren (fl pl)) ++ x⟩
def Backs (ds : List (Sh.Deed Str)) : Prop := ∀ i d, ds[i]? = some d → ∀ j l m, Sh.Note.frm j l m ∈ d.notes → j < i
structure Wv (D : Bool → List (Sh.Deed Str)) (X : Bool → Nat → List (Sh.Note Str)) (found : List (Sh.Deed Str)) (pl : Bool → List Nat) : Prop where
  n : ∀ k, (pl k).length ≤ (D k).length
  len : found.length = (pl false).length + (pl true).length
  at_ : ∀ k i p, (pl k)[i]? = some p → ∃ d, (D k)[i]? = some d ∧ found[p]? = some (carry (pl k) d (X k i))
  up : ∀ k, (pl k).Pairwise (· < ·)
  cov : ∀ p, p < found.length → ∃ k, p ∈ pl k
  ap : ∀ p, p ∈ pl false → p ∉ pl true
theorem Wv.lt {D : Bool → List (Sh.Deed Str)} {X : Bool → Nat → List (Sh.Note Str)} {found : List (Sh.Deed Str)} {pl : Bool → List Nat} (w : Wv D X found pl) {k : Bool} {p : Nat} (h : p ∈ pl k) : p < found.length := by
  obtain ⟨i, hi⟩ := List.getElem?_of_mem h
  obtain ⟨d, _, e⟩ := w.at_ k i p hi
  exact (List.getElem?_eq_some_iff.mp e).1
theorem fl_app {pl : List Nat} {x j : Nat} (h : j < pl.length) : fl (pl ++ [x]) j = fl pl j := by
  unfold fl
  rw [List.getD_eq_getElem?_getD, List.getD_eq_getElem?_getD, List.getElem?_append_left h]
theorem carry_app {pl : List Nat} {x : Nat} {d : Sh.Deed Str} {e : List (Sh.Note Str)} (h : ∀ j l m, Sh.Note.frm j l m ∈ d.notes → j < pl.length) : carry (pl ++ [x]) d e = carry pl d e := by
  have : d.notes.map (Sh.Note.ren (fl (pl ++ [x]))) = d.notes.map (Sh.Note.ren (fl pl)) := List.map_congr_left fun n hn => by
    cases n with
    | frm j l m =>
      show Sh.Note.frm (fl (pl ++ [x]) j) l m = Sh.Note.frm (fl pl j) l m
      rw [fl_app (h j l m hn)]
    | says v l m => rfl
  unfold carry
  rw [this]
theorem Wv.start (D : Bool → List (Sh.Deed Str)) (X : Bool → Nat → List (Sh.Note Str)) : Wv D X [] (fun _ => []) :=
  ⟨fun _ => Nat.zero_le _, rfl, fun k i p h => by simp at h, fun _ => .nil, fun p h => absurd h (Nat.not_lt_zero _), fun p h => (nomatch h)⟩
/-- the next one of group k -/
theorem Wv.step {D : Bool → List (Sh.Deed Str)} {X : Bool → Nat → List (Sh.Note Str)} {found : List (Sh.Deed Str)} {pl : Bool → List Nat} (w : Wv D X found pl) (b : ∀ k, Backs (D k)) (k : Bool) {d : Sh.Deed Str} (hd : (D k)[(pl k).length]? = some d) :
    Wv D X (found ++ [carry (pl k) d (X k (pl k).length)]) (fun k' => if k' = k then pl k ++ [found.length] else pl k') where
  n := fun k' => by
    by_cases e : k' = k
    · rw [if_pos e, List.length_append, e]
      exact (List.getElem?_eq_some_iff.mp hd).1
    · rw [if_neg e]
      exact w.n k'
  len := by
    rw [List.length_append, w.len]
    cases k with
    | false => rw [if_pos rfl, if_neg (by decide), List.length_append]; simp; omega
    | true => rw [if_neg (by decide), if_pos rfl, List.length_append]; simp; omega
  at_ := fun k' i p h => by
    by_cases e : k' = k
    · subst e
      rw [if_pos rfl] at h ⊢
      by_cases hi : i < (pl k').length
      · rw [List.getElem?_append_left hi] at h
        obtain ⟨d', e1, e2⟩ := w.at_ k' i p h
        refine ⟨d', e1, ?_⟩
        rw [List.getElem?_append_left (List.getElem?_eq_some_iff.mp e2).1, e2, carry_app fun j l m hj => Nat.lt_trans (b k' i d' e1 j l m hj) hi]
      · have hi3 := (List.getElem?_eq_some_iff.mp h).1
        rw [List.length_append] at hi3
        have : i = (pl k').length := by simp at hi3; omega
        subst this
        rw [List.getElem?_concat_length] at h
        cases h
        refine ⟨d, hd, ?_⟩
        rw [List.getElem?_concat_length, carry_app fun j l m hj => b k' _ d hd j l m hj]
    · rw [if_neg e] at h ⊢
      obtain ⟨d', e1, e2⟩ := w.at_ k' i p h
      exact ⟨d', e1, by rw [List.getElem?_append_left (List.getElem?_eq_some_iff.mp e2).1, e2]⟩
  up := fun k' => by
    by_cases e : k' = k
    · rw [if_pos e]
      exact List.pairwise_append.mpr ⟨w.up k, List.pairwise_singleton _ _, fun x hx y hy => by rw [List.mem_singleton.mp hy]; exact w.lt hx⟩
    · rw [if_neg e]
      exact w.up k'
  cov := fun p hp => by
    rw [List.length_append] at hp
    by_cases h : p < found.length
    · obtain ⟨k', hk⟩ := w.cov p h
      refine ⟨k', ?_⟩
      by_cases e : k' = k
      · rw [if_pos e]
        exact List.mem_append_left _ (e ▸ hk)
      · rw [if_neg e]
        exact hk
    · refine ⟨k, ?_⟩
      rw [if_pos rfl]
      exact List.mem_append_right _ (by simp at hp; simp; omega)
  ap := fun p h1 h2 => by
    cases k with
    | false =>
      rw [if_pos rfl] at h1
      rw [if_neg (by decide)] at h2
      rcases List.mem_append.mp h1 with h1 | h1
      · exact w.ap p h1 h2
      · rw [List.mem_singleton.mp h1] at h2
        exact absurd (w.lt h2) (Nat.lt_irrefl _)
    | true =>
      rw [if_neg (by decide)] at h1
      rw [if_pos rfl] at h2
      rcases List.mem_append.mp h2 with h2 | h2
      · exact w.ap p h1 h2
      · rw [List.mem_singleton.mp h2] at h1
        exact absurd (w.lt h1) (Nat.lt_irrefl _)
/-- longer rows, other additions behind -/
theorem Wv.more {D D' : Bool → List (Sh.Deed Str)} {X X' : Bool → Nat → List (Sh.Note Str)} {found : List (Sh.Deed Str)} {pl : Bool → List Nat} (w : Wv D X found pl) (h : ∀ k i d, (D k)[i]? = some d → (D' k)[i]? = some d ∧ X' k i = X k i) : Wv D' X' found pl where
  n := fun k => by
    rcases Nat.eq_zero_or_pos (pl k).length with e | e
    · omega
    · have hi : (pl k).length - 1 < (D k).length := by have := w.n k; omega
      have := (List.getElem?_eq_some_iff.mp (h k _ _ (List.getElem?_eq_getElem hi)).1).1
      omega
  len := w.len
  at_ := fun k i p e => by
    obtain ⟨d, e1, e2⟩ := w.at_ k i p e
    obtain ⟨e3, e4⟩ := h k i d e1
    exact ⟨d, e3, by rw [e4]; exact e2⟩
  up := w.up
  cov := w.cov
  ap := w.ap
section
variable {M : Addr → Prop} {D : Option Dr} {d : Dr} {G0 H0 G H G' H' : Hp} {L L' : List (Addr × HO)} {Q : VK} {K : PySem.W.Frag}
/-- what a callee has made, for the caller to change -/
theorem Sta.callL (S : Sta M (some d) G0 H0 G H L) (S' : Sta d.has (some d) G H G' H' L') : Sta M (some d) G0 H0 G' H' (L' ++ L) := by
  have S2 := S.callD S'.go S'.ok
  refine ⟨S2.go, fun x hx => ?_, ?_, fun d' e => ?_⟩
  · rcases List.mem_append.mp hx with hx | hx
    · obtain ⟨a, b, c, e⟩ := S'.own x hx
      have hn : H x.1 = none := c.resolve_left ((S'.dr d rfl).2.2.2 x hx)
      refine ⟨a, b, .inr ?_, e⟩
      cases e0 : H0 x.1 with
      | none => rfl
      | some z => exact absurd hn (S.go.dm x.1 (by rw [e0]; exact fun z => (nomatch z)))
    · exact S2.own x hx
  · rw [List.map_append]
    refine List.nodup_append.mpr ⟨S'.nd, S.nd, fun a ha b hb e => ?_⟩
    obtain ⟨x, hx, rfl⟩ := List.mem_map.mp ha
    obtain ⟨y, hy, rfl⟩ := List.mem_map.mp hb
    have hn : H x.1 = none := (S'.own x hx).2.2.1.resolve_left ((S'.dr d rfl).2.2.2 x hx)
    rw [e, (S.own y hy).1] at hn
    cases hn
  · obtain ⟨a, b, c, f⟩ := S2.dr d' e
    refine ⟨a, b, c, fun x hx => ?_⟩
    rcases List.mem_append.mp hx with hx | hx
    · cases e
      exact (S'.dr d rfl).2.2.2 x hx
    · exact f x hx
/-- notes as they are carried on -/
def tCarry (K : PySem.W.Frag) (X : TE) (v : Nat) : TE := tIf (tTest (tOp rEq (tOp (rIxT K) (tVar v) (tC (.int 0))) (tC (.str (Str.ofString "from")))))
  (tOp (rCatA K) (tTup (tCons (tC (.str (Str.ofString "from"))) (tCons (tOp (rIxL K) X (tOp (rIxT K) (tVar v) (tC (.int 1)))) tNil))) (tSl (rSlA K) (tVar v) (tPart (tC (.int 2))) tNoPart)) (tVar v)
def nInts (pl : List Nat) : List V := pl.map fun n => V.int (n : Nat)
theorem fs_ne : ¬ ("says" : Str) = ("from" : Str) := by decide +kernel
theorem lc_carry {σ : L2.St} {vs : List Nat} {v : Nat} {X : TE} (S : Sta M D G0 H0 G H L) {pn q : Addr} {notes : List (Sh.Note Str)} {nv : List V} (hn : G pn = some (.tup nv)) (rn : RepL G (notes.map dNote) nv) (h3 : notes.length ≤ 10) {pl : List Nat} (hb : ∀ j l m, Sh.Note.frm j l m ∈ notes → j < pl.length)
    (jq : Nat) (hq : L[jq]? = some (q, .lst (nInts pl))) (hX : ∀ c G1 H1 x R, Sub G G1 → Sta M D G0 H0 G1 H1 (x :: L) → R (.ref q) H1 → X ((wipe σ vs).set v (some c)) H1 R)
    (w1 : ∀ c, wipe ((wipe σ vs).set v (some c)) vs = wipe σ vs) (w2 : ∀ c, ((wipe σ vs).set v (some c))[v]? = some (some c))
    (fin : ∀ l G1 H1 cv, Sub G G1 → Sta M D G0 H0 G1 H1 ((l, .lst cv) :: L) → RepL G1 ((notes.map (Sh.Note.ren (fl pl))).map dNote) cv → Q (.ref l) H1) : LcB (Itt K pn) (gName v) tYes (tCarry K X v) vs σ Q H := by
  have nl : nv.length = notes.length := by rw [rn.len, List.length_map]
  refine lc_t (xs := nv) S (fun i G acc => RepL G (((notes.take i).map (Sh.Note.ren (fl pl))).map dNote) acc) rfl (fun G1 H1 x s1 S1 => S1.isin (s1.to hn)) (fun l G1 H1 acc s1 S1 hl hv => ?_) (fun i u l G1 H1 acc hi s1 S1 hl hv => ?_)
  · rw [nl, List.take_of_length_le (Nat.le_refl _)] at hv
    exact fin l G1 H1 acc s1 S1 hv
  · obtain ⟨dn, hdn, rdn⟩ := rn.got hi
    rw [List.getElem?_map] at hdn
    obtain ⟨n, hnn, rfl⟩ := Option.map_eq_some_iff.mp hdn
    have hlt := (List.getElem?_eq_some_iff.mp hnn).1
    have tk : notes.take (i + 1) = notes.take i ++ [n] := by rw [List.take_add_one, hnn]; rfl
    refine ⟨w1 u, ?_⟩
    refine xs_yes ?_
    refine iteT ?_
    have gets : ∀ R : VK, R u H1 → tVar v ((wipe σ vs).set v (some u)) H1 R := fun R r => ⟨u, w2 u, r⟩
    refine x_if ?_
    refine x_test ?_
    refine x_op ?_
    refine x_op ?_
    refine gets _ ?_
    cases n with
    | frm j lo up =>
      obtain ⟨t, rfl, et⟩ := rep_frm.mp rdn
      have et1 : H1 t = some (.tup [.str "from", .int j, .int lo, .int up]) := S1.isin (s1.to et)
      have hj : j < pl.length := hb j lo up (List.mem_of_getElem? hnn)
      refine x_c ?_
      refine l_ixT (v := .str "from") et1 rfl ?_
      refine x_c ?_
      refine l_eq rfl ?_
      refine l_blp ?_
      rw [decide_eq_true rfl]
      refine iteT ?_
      refine x_op ?_
      refine xs_tup ?_
      refine x_cons ?_
      refine x_c ?_
      refine x_cons ?_
      refine x_op ?_
      refine hX _ _ _ _ _ s1 S1 ?_
      refine x_op ?_
      refine gets _ ?_
      refine x_c ?_
      refine l_ixT (v := .int j) et1 rfl ?_
      refine l_ixL (v := .int (fl pl j : Nat)) (S1.at (i := jq + 1) hq) (atI_nat (j := j) (by unfold nInts fl; rw [List.getElem?_map, List.getElem?_eq_getElem hj, List.getD_eq_getElem?_getD, List.getElem?_eq_getElem hj]; rfl)) ?_
      refine x_nil ?_
      refine l_new (Nat.le_of_ble_eq_true rfl) (n_fix S1 fun p2 G2 H2 s2 S2 e2 => ?_)
      refine x_sl ?_
      refine x_var (v := .ref t) (w2 _) ?_
      refine x_part ?_
      refine x_c ?_
      refine ⟨2, rfl, ?_⟩
      refine x_nopart ?_
      have et2 : H2 t = some (.tup [.str "from", .int j, .int lo, .int up]) := S2.isin (s2.to (s1.to et))
      refine ls_slT et2 (fun z => absurd z.1 (show ¬ HT.sIx 4 0 (some 2) = 0 by decide)) ?_
      refine n_fix S2 fun p3 G3 H3 s3 S3 e3 => ?_
      refine ls_catT (xs := [.str "from", .int (fl pl j : Nat)]) (ys := [.int lo, .int up]) (S3.isin (s3.to e2)) (S3.isin e3) (fun z => (nomatch z)) (fun z => (nomatch z)) (Nat.le_of_ble_eq_true rfl) (n_fix S3 fun p4 G4 H4 s4 S4 e4 => ?_)
      refine lc_in (s1.tr (s2.tr (s3.tr s4))) S4 (by omega) (by omega) ?_
      rw [tk, List.map_append, List.map_append]
      exact (hv.mono (s2.tr (s3.tr s4))).snoc (rep_frm.mpr ⟨p4, rfl, e4⟩)
    | says w lo up =>
      obtain ⟨t, rfl, et⟩ := rep_says.mp rdn
      have et1 : H1 t = some (.tup [.str "says", .str w, .int lo, .int up]) := S1.isin (s1.to et)
      refine x_c ?_
      refine l_ixT (v := .str "says") et1 rfl ?_
      refine x_c ?_
      refine l_eq rfl ?_
      refine l_blp ?_
      rw [decide_eq_false (fun z => by cases z)]
      refine iteF ?_
      refine gets _ ?_
      refine lc_in s1 S1 (by omega) (by omega) ?_
      rw [tk, List.map_append, List.map_append]
      exact hv.snoc (rep_says.mpr ⟨t, rfl, s1.to et⟩)
end
end Sw
namespace Sw
open PySem L2
variable [TL]
section
variable {M : Addr → Prop} {D : Option Dr} {G0 H0 G H : Hp} {L : List (Addr × HO)} {Q : VK} {K : PySem.W.Frag} {a b : Addr} {xs ys : List V}
theorem ls_catTS (S : Sta M D G0 H0 G H L) (h1 : G a = some (.tup xs)) (h2 : G b = some (.tup ys)) (hy : ys ≠ []) (hl : xs.length + ys.length ≤ 1000) (q : ∀ p G' H', Sub G G' → Sta M D G0 H0 G' H' L → G' p = some (.tup (xs ++ ys)) → Q (.ref p) H') : rCatA K (.ref a) (.ref b) H Q := by
  by_cases hx : xs = []
  · subst hx
    exact ls_catT0 (S.isin h1) (S.isin h2) (by rw [List.length_nil, Nat.zero_add] at hl; exact hl) (q b G H (Sub.rfl' _) S h2)
  · exact ls_catT (S.isin h1) (S.isin h2) hx hy hl (n_fix S q)
end
theorem fl_last (pl : List Nat) (x : Nat) : fl (pl ++ [x]) pl.length = x := by
  unfold fl
  rw [List.getD_eq_getElem?_getD, List.getElem?_concat_length]
  rfl
end Sw
end
section
set_option maxRecDepth 100000
namespace Sw
open PySem PySem.Spec PyProof.Rows L2
variable [TL]
def rTupD : List V → Hp → VK → Prop := fun xs H Q => ∃ (a : Addr) (kvs : List (Key × V)), xs = [.ref a] ∧ H a = some (.dK kvs) ∧ New Q (.tup (kvs.map fun kv => kV kv.1)) H
section
variable {prog : Program} {w : World} {A : Around} {E : Value → Shared → Prop} {s : Shared}
theorem tup_of_dict {K : Type} [DecidableEq K] {knd : KeyKind prog w K} {d : Addr} {kvs : List (K × Value)} {ep : Nat} {Q : Value → Shared → Prop} (lo : (d == sysModules) = false) (hh : A.handled = none) (hat : s.heap.DictAt knd d kvs ep) (hn : kvs.length ≤ sizeLine)
    (hQ : ∀ (h' : Heap) (tk : Nat) (acc : Array Value), (∀ b o, s.heap.get? b = some o → h'.get? b = some o) → ItemsOf (fun i v => ∃ k x, kvs[i]? = some (k, x) ∧ knd.is k v = true) acc kvs.length → Q (.ref h'.objs.size) { s with heap := h'.push { cls := .type "tuple", data := .seq acc }, toks := tk }) :
    wpAny (model prog w) A (call (.type "tuple") [.ref d]) Q E s := by
  refine callType_codes (Q₁ := fun ob st => st.TypeIs ob "tuple" ∧ Q ob st) F.called_tuple (F.typeCall_tuple_1 _) F.entry_object_init ?_ fun ob st hst =>
    ⟨hst.1, F.args_object_init_2 ob _, object_init_meets F.called_tuple.init.lookup F.called_tuple.made (by decide) prog w A.in1 _ st ⟨hst.1, rfl, hst.2⟩⟩
  refine codeAny_of_tree ?_
  show wpAny _ A.in1.in1 (do checkBuiltinCall "tuple.__new__" ⟨[.type "tuple", .ref d], []⟩; again (.builtin "tuple.__new__" ⟨[.type "tuple", .ref d], []⟩)) _ _ s
  refine wpAny_bind (wpAny_of_eq (F.newCall_tuple_1 _) (wpAny_pure ⟨plainId_quiet F.plain_tuple_new _, codeAny_builtin F.entry_tuple_new ?_⟩))
  rw [Around.under_plainId F.plain_tuple_new _]
  have q1 := sub_tuple_self
  have q2 := init_tuple_lookup
  have q3 := madeHere_tuple
  have q4 : s.TypeIs (.ref d) "dict" := hat.dictOf.typeIs
  have q5 : A.in1.in1.handled = none := hh
  wp_walk using wpAny_typeOf q4, PySem.W.kdu_collect (A := A.in1.in1) (PySem.W.kdl_dict (knd := knd) (kvs := kvs) (ep := ep) lo) q5 hat hn
  intro h' tk acc hk hacc
  show wpAny _ _ (Builtin.Tuple.tupleExact acc.toList.toArray >>= fun v => ret v) _ _ _
  unfold Builtin.Tuple.tupleExact
  refine wpAny_bind (wpAny_newObj_type ?_ (by rw [Array.toArray_toList]; show acc.size ≤ sizeLine; rw [hacc.1]; exact hn))
  refine wpAny_pure ?_
  rw [Array.toArray_toList]
  exact ⟨⟨_, Heap.get?_push_size _ rfl, rfl⟩, hQ h' tk acc hk hacc⟩
end
section
variable {X : Cx}
theorem k_tupD (hc : X.calm = true) : CallR X (.type "tuple") rTupD := by
  intro pins s σ H xs us Q I r q
  obtain ⟨a, kvs, rfl, hd, q⟩ := q
  obtain ⟨u, rfl, rx⟩ := vals1 r
  cases rx
  obtain ⟨z, lo, vs, rel, dd⟩ := dk_rd I.hok (.inl hd)
  obtain ⟨ep, hat⟩ := dd.dictAt
  have ek : (kvs.map fun kv => kV kv.1) = vs.map fun p => kV p.1 := by
    have := congrArg (List.map kV) rel.keys
    simp only [List.map_map] at this
    exact this
  refine tup_of_dict lo (I.ok.hd hc) hat (by rw [← rel.length]; exact z) fun h' tk acc hk hacc => ?_
  have hv : Vals (vs.map fun p => kV p.1) acc.toList := keys_at (by rw [Array.length_toList]; exact hacc.1) fun j v e => hacc.2 j v (by rw [← Array.getElem?_toList]; exact e)
  have I1 : Inv X pins σ H { s with heap := h', toks := tk } := I.kept hk
  have ok : (kvs.map fun kv => kV kv.1).length ≤ sizeLine := by rw [List.length_map]; exact z
  have I2 : Inv X pins σ (upd H h'.objs.size (.tup (kvs.map fun kv => kV kv.1))) { s with heap := h'.push { cls := .type "tuple", data := .seq acc }, toks := tk } :=
    I1.laid (t' := tk) (fun b o e => Heap.get?_push_of_some _ e) (Nat.le_refl _) (show ObjOk X.prog X.w _ _ _ (.tup (kvs.map fun kv => kV kv.1)) from ⟨ok, acc.toList, by rw [ek]; exact hv, by rw [Array.toArray_toList]; exact IsTup.new _ _⟩)
  exact ⟨.ref h'.objs.size, _, I2, rfl, q _ (I1.hok.fresh (Nat.le_refl _))⟩
end
theorem ls_tupD {a : Addr} {kvs : List (Key × V)} {H : Hp} {Q : VK} (h : H a = some (.dK kvs)) (q : New Q (.tup (kvs.map fun kv => kV kv.1)) H) : rTupD [.ref a] H Q := ⟨a, kvs, rfl, h, q⟩
end Sw
end
section
set_option maxRecDepth 100000
namespace Sw
open PySem PySem.Spec PyProof.Rows L2
variable [TL]
set_option maxHeartbeats 1000000 in
theorem enum_new1 {v : Value} {o : Obj} {F : Heap → Prop} (B : Begins v o F) : Meets (Builtin.«enumerate.__new__» ⟨[.type "enumerate", v], []⟩) (fun _ R s => F s.heap ∧ R (.ok (.ret (.ref (s.heap.push o).objs.size))) { s with heap := (s.heap.push o).push { cls := .type "enumerate", data := .fields #[.none, .bool false, .ref s.heap.objs.size, rawInt 0, .none, .none] } }) :=
  .of_wp fun prog w A R s hh => by
    obtain ⟨hp, g, d, tk, os⟩ := s
    obtain ⟨b1, b2⟩ := hh
    have z1 := sub_enumerate
    have z2 : ∀ {A' : Around} {E : Value → Shared → Prop} {Q : Value → Shared → Prop}, Q (.ref hp.objs.size) ⟨hp.push o, g, d, tk, os⟩ → wpAny (model prog w) A' (pyIter v) Q E ⟨hp, g, d, tk, os⟩ :=
      fun y => B.iter prog w _ _ ⟨hp, g, d, tk, os⟩ _ b1 y
    wp_walk using z2
    refine wpAny_stack_any fun _ => wpAny_pure ?_
    split
    · rename_i c _ _ _ _ _
      cases (c == Value.type "enumerate")
      · wp_walk using z2
        exact ⟨_, rfl, b2⟩
      · wp_walk using z2
        exact ⟨_, rfl, b2⟩
    · wp_walk using z2
      exact ⟨_, rfl, b2⟩
section
variable {prog : Program} {w : World} {A : Around} {E : Value → Shared → Prop} {s : Shared}
theorem enum_call1 {v : Value} {o : Obj} {Fs : Heap → Prop} {Q : Value → Shared → Prop} (B : Begins v o Fs) (b1 : Fs s.heap)
    (k : ∀ h', IsEnum h' (s.heap.objs.size + 1) s.heap.objs.size 0 .none → h'.get? s.heap.objs.size = some o → (∀ b u, s.heap.get? b = some u → h'.get? b = some u) → Q (.ref (s.heap.objs.size + 1)) { s with heap := h' }) :
    wpAny (model prog w) A (call (.type "enumerate") [v]) Q E s := by
  refine callType_new F.called_enumerate (by decide) (F.typeCall_enumerate_1 _) (F.newCall_enumerate_1 _) (fun ob => F.args_object_init_2 ob _) F.entry_enumerate_new (enum_new1 B) ⟨b1, ?_⟩
  have z : (s.heap.push o).objs.size = s.heap.objs.size + 1 := Heap.size_push ..
  have g : IsEnum ((s.heap.push o).push { cls := .type "enumerate", data := .fields #[.none, .bool false, .ref s.heap.objs.size, rawInt 0, .none, .none] }) (s.heap.objs.size + 1) s.heap.objs.size 0 .none := by
    have y := Heap.get?_push_size (s.heap.push o) (o := { cls := .type "enumerate", data := .fields #[.none, .bool false, .ref s.heap.objs.size, rawInt 0, .none, .none] }) rfl
    rw [z] at y
    exact y
  show _ ∧ _
  rw [z]
  exact ⟨⟨_, g, rfl⟩, k _ g (Heap.get?_push_of_some _ (Heap.get?_push_size _ B.free)) fun b u y => Heap.get?_push_of_some _ (Heap.get?_push_of_some _ y)⟩
end
/-- the tuple at a, each item in a new pair -/
def IteT (K : PySem.W.Frag) (a : Addr) : It :=
  ⟨fun i H => ∃ (xs : List V) (x : V), SqT K H a xs ∧ xs[i]? = some x, fun i H v H' => ∃ T x, v = .ref T ∧ H T = none ∧ H' = upd H T (.tup [.int (i : Nat), x]) ∧ ∀ ys, SqT K H a ys → ys[i]? = some x, fun i H => ∃ xs : List V, SqT K H a xs ∧ xs.length = i⟩
theorem turn_eT {P : Program} {w : World} {K : PySem.W.Frag} {elts : List Expr} {kk : Nat} {tp : Pos} (a e it : Addr) :
    Turn P w K (.Tuple elts kk tp) (IteT K a) [e, it] e (fun i h => (∃ old, IsEnum h e it ((i : Nat) : Int) old) ∧ h.IsTupleIter it a i ∧ e ≠ it ∧ a ≠ it ∧ a ≠ e) where
  mem := by simp
  obj := fun i h ⟨⟨old, he⟩, ⟨o, ho, hc, hd⟩, _⟩ b hb => by
    rcases (show b = e ∨ b = it by simpa using hb) with rfl | rfl
    · exact ⟨_, he, fun v q => nomatch q⟩
    · exact ⟨o, ho, fun v q => by rw [hd] at q; cases q⟩
  keep := fun i h h' ⟨⟨old, he⟩, hi, hn⟩ k => ⟨⟨old, k e (by simp) _ he⟩, hi.at fun o y => k it (by simp) o y, hn⟩
  item := by
    intro X hP hw hK hc i pins s σ H E I hf st hg
    subst hP hw hK
    obtain ⟨⟨old, he⟩, hit, n1, n2, n3⟩ := st
    obtain ⟨xs, x, hq, hx⟩ := hg
    obtain ⟨its, rv, p, hz⟩ := I.tuple hq
    obtain ⟨u, hu, ru⟩ := rv.get hx
    have le : e < s.heap.objs.size := Heap.lt_size he
    have li : it < s.heap.objs.size := by obtain ⟨_, y, _⟩ := hit; exact Heap.lt_size y
    have lt : i < its.toArray.size := by rw [List.size_toArray]; exact (List.getElem?_eq_some_iff.mp hu).1
    refine wpAny_pyNext_enum_itemD (Draws.tuple (prog := X.prog) (w := X.w) (A := X.A.in1) (I.ok.hd hc) it a n2 its.toArray) he ⟨hit, p⟩ lt n1 (by simp; exact ⟨n1, Ne.symm n3⟩) fun y h' tk hy ho hit' hT hsz hk => ?_
    obtain rfl : y = u := by
      have : its.toArray[i]? = some u := by simpa using hu
      exact Option.some.inj (hy.symm.trans this)
    refine ⟨_, rfl, wpAny_letOwnedTupleGo_enum (s := { s with heap := h', toks := tk + 1 }) ho fun h'' he' sb => ?_⟩
    have hT2 : h''.get? s.heap.objs.size = some { cls := .type "tuple", data := .seq #[.int i tk, y] } := (sb.2 _ (Nat.ne_of_gt le)).trans hT
    have new : ObjOk X.prog X.w (upd H s.heap.objs.size (.tup [.int (i : Nat), x])) h'' s.heap.objs.size (.tup [.int (i : Nat), x]) :=
      ⟨(by decide : 2 ≤ sizeLine), [.int i tk, y], .cons ⟨_, rfl⟩ (.cons ru .nil), ⟨_, hT2, rfl, _, rfl⟩⟩
    have I1 : Inv X pins σ (upd H s.heap.objs.size (.tup [.int (i : Nat), x])) { s with heap := h'', toks := tk + 1 } :=
      I.turnedNew (ch := [e, it]) (fun b ob hb y => (sb.2 b (fun z => hb (by rw [z]; simp))).trans (hk b ob (fun z => hb (by rw [z]; simp)) (fun z => hb (by rw [z]; simp)) y)) hf (Nat.le_refl _) new
    refine ⟨.ref s.heap.objs.size, _, I1, rfl, ⟨_, x, rfl, I.hok.fresh (Nat.le_refl _), rfl, fun ys hy => ?_⟩, ⟨⟨y, ?_⟩, hit'.1.at fun o q => (sb.2 it (Ne.symm n1)).trans q, n1, n2, n3⟩, fun b hb => ?_⟩
    · rw [I.tuple_inj hy hq]
      exact hx
    · rw [show ((i + 1 : Nat) : Int) = (i : Int) + 1 from rfl]
      exact he'
    · have lb : b < s.heap.objs.size := by
        rcases (show b = e ∨ b = it by simpa using hb) with rfl | rfl
        · exact le
        · exact li
      rw [upd_ne (Nat.ne_of_lt lb)]
      exact (hf b hb).1
  done := by
    intro X hP hw hK hc i pins s σ H E I hf st hg
    subst hP hw hK
    obtain ⟨⟨old, he⟩, hit, n1, n2, n3⟩ := st
    obtain ⟨xs, hq, hx⟩ := hg
    obtain ⟨its, rv, p, hz⟩ := I.tuple hq
    obtain ⟨f0, f1, f2, f3, f4, f5⟩ := hf it (by simp)
    have hn : its.toArray.size = i := by rw [List.size_toArray, ← rv.length]; exact hx
    refine wpAny_pyNext_enum_endD (Draws.tuple (prog := X.prog) (w := X.w) (A := X.A.in1) (I.ok.hd hc) it a n2 its.toArray) he ⟨by rw [hn]; exact hit, p⟩ fun h' eb => ⟨rfl, I.turned (t' := s.toks) (fun b o hb y => eb b o hb y) f0 f1 f3 f4 f5⟩
  self := fun A i s Q E ⟨⟨_, he⟩, _⟩ h => wpAny_pyIter_enum he h
def iEnT (K : PySem.W.Frag) (ta : TA) : TI := fun σ H R => ta σ H fun vs H1 => ∃ a xs, vs = [.ref a] ∧ SqT K H1 a xs ∧ R (IteT K a) H1
theorem y_iET {X : Cx} {K : PySem.W.Frag} (hK : X.K = K) {e : Expr} {ta : TA} {p pos tp : Pos} {elts : List Expr} {kk : Nat} (hg : Gl X "enumerate") (hm : X.mg "enumerate" = none) (ha : PA X [e] ta) (h1 : starEach [e] X.env = [(false, eval e X.env)] := by rfl) : PI X (.Tuple elts kk tp) (.Call (.Name "enumerate" p) [e] [] pos) (iEnT K ta) := by
  subst hK
  refine ⟨fun pins s σ H R I h => Call_ (ld_blt I hg hm boot_enumerate (PyProof.Rows.callWith_type1 (thn (ha.run pos pins s σ H _ I h) fun us st ⟨vs, H1, I1, r1, a, xs, ex, hq, q⟩ => ?_) h1 rfl))⟩
  subst ex
  obtain ⟨u, rfl, r⟩ := vals1 r1
  cases r
  obtain ⟨its, rv, tp', hz⟩ := I1.tuple hq
  have la : a < st.heap.objs.size := by obtain ⟨o, ho, _⟩ := tp'; exact Heap.lt_size ho
  refine enum_call1 (begins_tuple a its.toArray) tp' fun h' he hit hk => wpAny_pyIter_enum he ?_
  have I2 : Inv X pins σ H1 { st with heap := h' } := I1.kept (t' := st.toks) hk
  refine ⟨st.heap.objs.size + 1, [st.heap.objs.size + 1, st.heap.objs.size], _, _, H1, rfl, I2, turn_eT a (st.heap.objs.size + 1) st.heap.objs.size, ⟨⟨.none, he⟩, ⟨_, hit, rfl, rfl⟩, Nat.succ_ne_self _, Nat.ne_of_lt la, Nat.ne_of_lt (Nat.lt_succ_of_lt la)⟩, fun b hb => ?_, q⟩
  have lb : st.heap.objs.size ≤ b := by
    rcases (show b = st.heap.objs.size + 1 ∨ b = st.heap.objs.size by simpa using hb) with rfl | rfl
    · exact Nat.le_succ _
    · exact Nat.le_refl _
  exact I1.fpOk lb (I1.hok.fresh lb)
section
variable {M : Addr → Prop} {D : Option Dr} {G0 H0 G H : Hp} {L : List (Addr × HO)} {a : Addr} {σ : L2.St} {K : PySem.W.Frag}
theorem x_iEnT {ta : TA} {R : It → Hp → Prop} (h : ta σ H fun vs H1 => ∃ a xs, vs = [.ref a] ∧ SqT K H1 a xs ∧ R (IteT K a) H1) : iEnT K ta σ H R := h
theorem for_eT {g : TG} {tb : TS} {E : Ends} {xs : List V} (inv : Nat → L2.St → Hp → Prop) (h0 : inv 0 σ H) (rd : ∀ i σ H, inv i σ H → H a = some (.tup xs)) (fin : ∀ σ H, inv xs.length σ H → E.nx σ H)
    (step : ∀ (i : Nat) v T σ H H', xs[i]? = some v → inv i σ H → H T = none → H' = upd H T (.tup [.int (i : Nat), v]) → g (.ref T) σ H' fun σ2 H2 => tb { E with nx := inv (i + 1), ct := inv (i + 1), bk := E.nx } σ2 H2) : ForB (IteT K a) g tb E σ H :=
  for_n xs.length inv h0 (fun σ H h => ⟨⟨xs, SqT.of (rd _ σ H h), rfl⟩, fin σ H h⟩) fun i σ H hi h =>
    ⟨⟨xs, xs[i], SqT.of (rd _ σ H h), List.getElem?_eq_getElem hi⟩, fun v H' y => by
      obtain ⟨T, x, rfl, hT, e, q⟩ := y
      exact step i x T σ H H' (q xs (SqT.of (rd _ σ _ h))) h hT e⟩
end
end Sw
end
section
set_option maxRecDepth 100000
namespace Sw
open PySem PySem.Spec PyProof.Rows L2
variable [TL]
section
variable {X : Cx} {pins : List (Addr × Obj)} {σ : L2.St} {H : Hp} {s : Shared} {d : Addr} {o : Obj}
theorem frz_rows {kvs : List (List Key × V)} (I : Inv X pins σ H s) (h : H d = some (.frz o (.dT kvs))) :
    (d == sysModules) = false ∧ ∃ (es : Array DictEntry) (ep : Nat), o.data = .dict es ep ∧ DT.Raw s.heap d es ep ∧ es.size = kvs.length ∧ ∀ (i : Nat) (k : List Key) (v : V), kvs[i]? = some (k, v) → ∃ (en : DictEntry) (q : Addr), es[i]? = some en ∧ en.key = .ref q ∧ H q = some (.tup (k.map kV)) ∧ RelV v en.val := by
  obtain ⟨g, z, hs, xs, pr, o', es, ep, ho, hx, hdt, he, _⟩ := I.hok d _ h
  rw [g] at ho
  cases ho
  refine ⟨hs, es, ep, hdt, ⟨_, g, hx, hdt⟩, ?_, fun i k v e => ?_⟩
  · rw [size_of_entries he]
    exact (Paired.length pr).symm
  · obtain ⟨b, hb, e1, e2, e3⟩ := paired_get pr e
    have y := entry_at he i
    rw [hb] at y
    exact ⟨_, b.2.1, y, rfl, e2, e3⟩
end
def ItiT (d : Addr) (o : Obj) (kvs : List (List Key × V)) : It :=
  ⟨fun i H => H d = some (.frz o (.dT kvs)) ∧ i < kvs.length, fun i H x H' => ∃ T k v q, kvs[i]? = some (k, v) ∧ x = .ref T ∧ H T = none ∧ H q = some (.tup (k.map kV)) ∧ H' = upd H T (.tup [.ref q, v]), fun i H => H d = some (.frz o (.dT kvs)) ∧ kvs.length ≤ i⟩
theorem turn_iT {P : Program} {w : World} {K : PySem.W.Frag} {d : Addr} {o : Obj} {es : Array DictEntry} {ep : Nat} {kvs : List (List Key × V)} {elts : List Expr} {kk : Nat} {tp : Pos} (it : Addr) (hod : o.data = .dict es ep) :
    Turn P w K (.Tuple elts kk tp) (ItiT d o kvs) [it] it (fun i h => ∃ ok ov, IsItemIter h it d i kvs.length ep ok ov) where
  mem := by simp
  obj := fun i h ⟨ok, ov, e⟩ b hb => by
    rw [show b = it by simpa using hb]
    exact ⟨_, e, fun v z => nomatch z⟩
  keep := fun i h h' ⟨ok, ov, e⟩ k => ⟨ok, ov, k it (by simp) _ e⟩
  item := by
    intro X hP hw hK hc i pins s σ H E I hf st hg
    subst hP hw hK
    obtain ⟨hd, hi⟩ := hg
    obtain ⟨hs, es', ep', hdt, raw, hsz, ent⟩ := frz_rows I hd
    obtain ⟨rfl, rfl⟩ := dict_ep hod hdt
    obtain ⟨⟨k, v⟩, hkv⟩ : ∃ p, kvs[i]? = some p := ⟨kvs[i], List.getElem?_eq_getElem hi⟩
    obtain ⟨en, q, hen, hkey, hq, rv⟩ := ent i k v hkv
    obtain ⟨ok, ov, he⟩ := st
    rw [← hsz] at he
    have lt : it < s.heap.objs.size := Heap.lt_size he
    have li : i < es'.size := by rw [hsz]; exact hi
    have een : es'[i] = en := Option.some.inj ((Array.getElem?_eq_getElem li).symm.trans hen)
    refine DT.nextI he raw li fun h' ho hT hz hk => ?_
    rw [een] at ho hT
    refine ⟨_, rfl, wpAny_letOwnedTupleGo_items (s := { s with heap := h' }) ho fun h'' he' sb => ?_⟩
    have hT2 : h''.get? s.heap.objs.size = some { cls := .type "tuple", data := .seq #[en.key, en.val] } := (sb.2 _ (Nat.ne_of_gt lt)).trans hT
    have new : ObjOk X.prog X.w (upd H s.heap.objs.size (.tup [.ref q, v])) h'' s.heap.objs.size (.tup [.ref q, v]) :=
      ⟨(by decide : 2 ≤ sizeLine), [en.key, en.val], .cons hkey (.cons rv .nil), ⟨_, hT2, rfl, _, rfl⟩⟩
    have I1 : Inv X pins σ (upd H s.heap.objs.size (.tup [.ref q, v])) { s with heap := h'' } :=
      I.turnedNew (t' := s.toks) (ch := [it]) (fun b ob hb e => (sb.2 b (by simpa using hb)).trans (hk b ob (by simpa using hb) e)) hf (Nat.le_refl _) new
    refine ⟨.ref s.heap.objs.size, _, I1, rfl, ⟨_, k, v, q, hkv, rfl, I.hok.fresh (Nat.le_refl _), hq, rfl⟩, ⟨en.key, en.val, ?_⟩, fun b hb => ?_⟩
    · rw [← hsz]
      exact he'
    · rw [show b = it by simpa using hb, upd_ne (Nat.ne_of_lt lt)]
      exact (hf it (by simp)).1
  done := by
    intro X hP hw hK hc i pins s σ H E I hf st hg
    subst hP hw hK
    obtain ⟨hd, hi⟩ := hg
    obtain ⟨f0, f1, f2, f3, f4, f5⟩ := hf it (by simp)
    obtain ⟨hs, es', ep', hdt, raw, hsz, ent⟩ := frz_rows I hd
    obtain ⟨rfl, rfl⟩ := dict_ep hod hdt
    obtain ⟨ok, ov, he⟩ := st
    rw [← hsz] at he
    exact DT.endI (I.ok.hd hc) he raw (by rw [hsz]; exact hi) fun h' eb => ⟨rfl, I.turned (t' := s.toks) (fun b ob hb e => eb b ob hb e) f0 f1 f3 f4 f5⟩
  self := fun A i s Q E ⟨_, _, e⟩ h => PySem.W.kcp_self e h
def iItT (td : TE) : TI := fun σ H R => td σ H fun x H1 => ∃ d o kvs, x = .ref d ∧ H1 d = some (.frz o (.dT kvs)) ∧ R (ItiT d o kvs) H1
section
variable {X : Cx} {e : Expr} {td : TE} {apos cpos : Pos}
theorem pi_itemsT {elts : List Expr} {kk : Nat} {tp : Pos} (he : PE X e td) (h1 : attributeBase e "items" X.env (eval e X.env) = eval e X.env := by rfl) (h2 : (apos.endLine == cpos.line) = true := by rfl) : PI X (.Tuple elts kk tp) (.Call (.Attribute e "items" apos) [] [] cpos) (iItT td) := by
  refine ⟨fun pins s σ H R I h => wpAny_Call_method (T := "dict") (id := "dict.items") h1 rfl h2 F.plainAttrs_dict F.slot_dict_items F.type_dict_items (thn (he.run pins s σ H _ I h) fun u st ⟨x, H1, I1, rx, d, o, kvs, ex, hd, q⟩ => ?_)⟩
  subst ex
  obtain rfl : u = Value.ref d := rx
  obtain ⟨hs, es, ep, hdt, raw, hsz, ent⟩ := frz_rows I1 hd
  refine ⟨raw.typeIs, fun b y => ?_, ?_⟩
  · cases y
    obtain ⟨ob, g, hx, _⟩ := raw
    exact ⟨ob, g, hx.2.1⟩
  have I2 : Inv X pins σ H1 { st with heap := st.heap.push { cls := .type "dict_items", data := .fields #[.ref d] } } := I1.kept (t' := st.toks) fun b ob y => Heap.get?_push_of_some _ y
  have fin : wpAny (model X.prog X.w) X.A (pyIter (.ref st.heap.objs.size)) (PIE X pins σ (.Tuple elts kk tp) R) X.xe { st with heap := st.heap.push { cls := .type "dict_items", data := .fields #[.ref d] } } := by
    refine DT.iterI (d := d) (es := es) (ep := ep) ⟨_, Heap.get?_push_size _ rfl, rfl, rfl⟩ (raw.push _) (pi_one (tk := st.toks) I2 _ (turn_iT _ hdt) ⟨.none, .none, ?_⟩ q)
    rw [← hsz]
    exact Heap.get?_push_size _ rfl
  show wpAny _ _ (callWith cpos (.builtin "dict.items") [.ref d] [] []) _ X.xe st
  exact method_meetsIn F.slot_dict_items F.entry_dict_items rfl (PySem.evalArgs_none ⟨rfl, raw.typeIs, F.args_dict_items_1 _, _, DT.meetsItems hs, raw, fin⟩)
end
section
variable {M : Addr → Prop} {D : Option Dr} {G0 H0 G H : Hp} {L : List (Addr × HO)} {a : Addr} {σ : L2.St} {K : PySem.W.Frag}
theorem x_iItT {td : TE} {R : It → Hp → Prop} (h : td σ H fun x H1 => ∃ d o kvs, x = .ref d ∧ H1 d = some (.frz o (.dT kvs)) ∧ R (ItiT d o kvs) H1) : iItT td σ H R := h
theorem for_iT {g : TG} {tb : TS} {E : Ends} {kvs : List (List Key × V)} {od : Obj} (inv : Nat → L2.St → Hp → Prop) (h0 : inv 0 σ H) (rd : ∀ i σ H, inv i σ H → H a = some (.frz od (.dT kvs))) (fin : ∀ σ H, inv kvs.length σ H → E.nx σ H)
    (step : ∀ (i : Nat) k v q T σ H H', kvs[i]? = some (k, v) → inv i σ H → H q = some (.tup (k.map kV)) → H T = none → H' = upd H T (.tup [.ref q, v]) → g (.ref T) σ H' fun σ2 H2 => tb { E with nx := inv (i + 1), ct := inv (i + 1), bk := E.nx } σ2 H2) : ForB (ItiT a od kvs) g tb E σ H :=
  for_n kvs.length inv h0 (fun σ H h => ⟨⟨rd _ σ H h, Nat.le_refl _⟩, fin σ H h⟩) fun i σ H hi h =>
    ⟨⟨rd _ σ H h, hi⟩, fun v H' y => by
      obtain ⟨T, k, x, q, e1, rfl, hT, e2, e3⟩ := y
      exact step i k x q T σ H H' e1 h e2 hT e3⟩
end
end Sw
end
section
set_option maxRecDepth 100000
namespace Sw
open PySem PySem.Spec PyProof.Rows L2
variable [TL]
def mergeT (acc rows : List (List Key × V)) : List (List Key × V) := rows.foldl (fun a r => putK a r.1 r.2) acc
def Row (H : Hp) (t : Addr) (r : List Key × V) : Prop := ∃ q, H t = some (.tup [.ref q, r.2]) ∧ H q = some (.tup (r.1.map kV))
def rDctT (K : PySem.W.Frag) : List V → Hp → VK → Prop := fun xs H Q => ∃ (a : Addr) (ts : List Addr) (rows : List (List Key × V)), xs = [.ref a] ∧ SqL K H a (ts.map V.ref) ∧ Paired (Row H) ts rows ∧ New Q (.dT (mergeT [] rows)) H
theorem kt_merge {H : Hp} : ∀ {rows : List (List Key × V)} {ps : List (List Key × Addr × Value)} {acc : List (List Key × V)} {xs : List (List Key × Addr × Value)}, KT H rows ps → KT H acc xs → KT H (mergeT acc rows) (storedAllH xs ps)
  | [], _, _, _, p, q => by cases p; exact q
  | x :: rows, _, acc, xs, p, q => by
    cases p with
    | @cons _ b _ ps r t =>
      obtain ⟨e, hb, rv⟩ := r
      have y : KT H (putK acc x.1 x.2) (storedH xs b.1 b.2.1 b.2.2) := by
        rw [← e]
        exact q.put _ hb rv
      exact kt_merge (rows := rows) (ps := ps) (acc := putK acc x.1 x.2) (xs := storedH xs b.1 b.2.1 b.2.2) t y
theorem pr_right {α β : Type} {R : α → β → Prop} : ∀ {l : List α} {m : List β} {b : β}, Paired R l m → b ∈ m → ∃ a, R a b
  | [], _, _, p, h => by cases p; exact nomatch h
  | _ :: _, _, _, p, h => by
    cases p with
    | cons r t =>
      rcases List.mem_cons.mp h with rfl | h
      · exact ⟨_, r⟩
      · exact pr_right t h
theorem putK_lenT (kvs : List (List Key × V)) (k : List Key) (v : V) : (putK kvs k v).length ≤ kvs.length + 1 := by
  unfold putK
  split
  · rw [List.length_map]; omega
  · rw [List.length_append]; exact Nat.le_refl _
theorem mergeT_len : ∀ (rows acc : List (List Key × V)), (mergeT acc rows).length ≤ acc.length + rows.length
  | [], _ => Nat.le_refl _
  | r :: rows, acc => by
    have a := mergeT_len rows (putK acc r.1 r.2)
    have b := putK_lenT acc r.1 r.2
    rw [List.length_cons]
    show (mergeT (putK acc r.1 r.2) rows).length ≤ _
    omega
section
variable {X : Cx}
theorem rows_of {pins : List (Addr × Obj)} {σ : L2.St} {H : Hp} {s : Shared} (I : Inv X pins σ H s) : ∀ {ts : List Addr} {rows : List (List Key × V)}, Paired (Row H) ts rows →
    ∃ ps : List (List Key × Addr × Value), KT H rows ps ∧ ps.length = ts.length ∧ ∀ (j : Nat) (p : List Key × Addr × Value), ps[j]? = some p → ∃ t, ts[j]? = some t ∧ IsTup s.heap t #[.ref p.2.1, p.2.2]
  | [], _, p => by
    cases p
    exact ⟨[], .nil, rfl, fun j p e => by simp at e⟩
  | t :: ts, _, p => by
    cases p with
    | @cons _ r _ rows h u =>
      obtain ⟨ps, k, hl, hp⟩ := rows_of I u
      obtain ⟨q, e1, e2⟩ := h
      obtain ⟨_, its, rv, ht⟩ := (show ObjOk X.prog X.w H s.heap t (.tup [.ref q, r.2]) from I.hok t _ e1)
      obtain ⟨y, z, ei, ry, rz⟩ := vals2 rv
      subst ei
      cases ry
      refine ⟨(r.1, q, z) :: ps, .cons ⟨rfl, e2, rz⟩ k, by rw [List.length_cons, List.length_cons, hl], fun j p e => ?_⟩
      cases j with
      | zero =>
        cases e
        exact ⟨t, rfl, ht⟩
      | succ j => exact hp j p (by simpa using e)
theorem k_dctT (hc : X.calm = true) (hu : X.A.units + 64 < cLine) : CallR X (.type "dict") (rDctT X.K) := by
  intro pins s σ H xs us Q I r q
  obtain ⟨a, ts, rows, rfl, hq, hr, q⟩ := q
  obtain ⟨u, rfl, rx⟩ := vals1 r
  cases rx
  obtain ⟨its, rv, pl, hz⟩ := I.list hq
  have ei := refs_at rv
  subst ei
  obtain ⟨ps, kt, hl, hp⟩ := rows_of I hr
  have ei2 : rows.length = ps.length := Paired.length kt
  rw [List.length_map] at hz
  obtain ⟨o, n, ho, hcl, hd, hdat⟩ := pl
  let Ts : Nat → Addr := fun j => ts.getD j 0
  let pv : List (Value × Value) := ps.map fun p => (.ref p.2.1, p.2.2)
  have pvl : pv.length = ps.length := List.length_map _
  have items : PairItems s.heap (ts.map Value.ref).toArray Ts pv := by
    refine ⟨by rw [List.size_toArray, List.length_map, pvl, hl], fun j k v hj => ?_⟩
    rw [List.getElem?_map] at hj
    obtain ⟨p, hpj, e⟩ := Option.map_eq_some_iff.mp hj
    cases e
    obtain ⟨t, htj, tup⟩ := hp j p hpj
    have et : Ts j = t := by
      show ts.getD j 0 = t
      rw [List.getD_eq_getElem?_getD, htj]
      rfl
    rw [et]
    exact ⟨by simp [htj], .inl tup⟩
  refine call_dict_pairsH (knd := tupleKind (mixKind X.prog X.w)) (ps := ps) (PairArg.list a (ts.map Value.ref).toArray Ts pv) (I.ok.hd hc) (tupleKind_room_in1 (A := X.A.in1) (by have : X.A.in1.units = X.A.units + 1 := rfl; omega)) ⟨⟨o, n, ho, hcl, hd, hdat⟩, items⟩ ⟨pvl.symm, fun i key v hrel => ?_⟩ (fun h' hk x hx => ?_) (by rw [pvl, hl]; exact hz) fun h' tk dd hk => ?_
  · have hrel : pv[i]? = some (key, v) := hrel
    rw [List.getElem?_map] at hrel
    obtain ⟨p, hpi, e⟩ := Option.map_eq_some_iff.mp hrel
    cases e
    exact ⟨p.1, p.2.1, hpi, rfl⟩
  · obtain ⟨w, e1, e2, _⟩ := pr_right kt hx
    obtain ⟨ob, vs, m, g1, g2, g3, g4⟩ := key_of I.hok e2
    rw [← e1]
    exact ⟨ob, vs, m, hk _ _ (Nat.ne_of_lt (Heap.lt_size g1)) (fun y => nomatch y) g1, g2, g3, g4⟩
  · have hm : (s.heap.objs.size == sysModules) = false := beq_eq_false_iff_ne.mpr (Nat.ne_of_gt I.big)
    have hn : H s.heap.objs.size = none := I.hok.fresh (Nat.le_refl _)
    obtain ⟨ob, es, ep, g1, g2, g3, g4, _, g5⟩ := dd
    have z : (mergeT [] rows).length ≤ sizeLine := Nat.le_trans (mergeT_len rows []) (by rw [List.length_nil, Nat.zero_add, ei2, hl]; exact hz)
    refine ⟨.ref s.heap.objs.size, _, I.laid (t' := tk) (fun b u e => hk b u (fun y => nomatch y) e) (Nat.le_refl _) (show ObjOk X.prog X.w (upd H s.heap.objs.size (.dT (mergeT [] rows))) h' s.heap.objs.size (.dT (mergeT [] rows)) from ⟨z, hm, storedAllH [] ps, (kt_merge kt .nil).keeps fun b ys e => upd_old hn e, ob, es, ep, g1, g2, g3, g4, g5⟩), rfl, q _ hn⟩
end
end Sw
end
section
set_option maxRecDepth 100000
namespace Sw
open PySem PySem.Spec PyProof.Rows L2
variable [TL]
abbrev dcE (kx vx t0 i0 t1 i1 : Expr) (sc : Scope) (pos : Pos) : Expr := .DictComp kx vx [⟨t0, i0, [], 0⟩, ⟨t1, i1, [], 0⟩] sc pos
section
variable {prog : Program} {w : World} {A : Around} {R : Result → Shared → Prop} {s : Shared} {kx vx t0 i0 t1 i1 : Expr} {sc : Scope} {pos : Pos} {it acc : Value} {D : Addr} {env : Env}
theorem d2_out : compTurn (dcE kx vx t0 i0 t1 i1 sc pos) 0 it acc env = (do
      standAt i0.pos
      match ← pyNext it with
      | none => pure (.done .next)
      | some v =>
        letOwnedTupleGo t0 it v
        assign t0 env v
        let mut ok := true
        for c in ([] : List Expr) do
          if ok then ok ← isTrue c env (eval c env)
        if ok then
          let x ← eval i1 env
          standAt i1.pos
          let x ← foldedSetIterable i1 env x
          let _ ← runOwn (.compStart (dcE kx vx t0 i0 t1 i1 sc pos) 1 (← holding [x] (pyIter x)) acc env) env
        again (.compLoop (dcE kx vx t0 i0 t1 i1 sc pos) 0 it acc env)) := by rfl
theorem d2_in : compTurn (dcE kx vx t0 i0 t1 i1 sc pos) 1 it (.ref D) env = (do
      standAt i1.pos
      match ← pyNext it with
      | none => pure (.done .next)
      | some v =>
        letOwnedTupleGo t1 it v
        assign t1 env v
        let mut ok := true
        for c in ([] : List Expr) do
          if ok then ok ← isTrue c env (eval c env)
        if ok then
          (do
            let kv ← eval kx env
            let vv ← holding [kv] (eval vx env)
            standAt { kx.pos with endLine := vx.pos.endLine, endCol := vx.pos.endCol }
            holding [kv, vv] (dictSet D kv vv))
        again (.compLoop (dcE kx vx t0 i0 t1 i1 sc pos) 1 it (.ref D) env)) := by rfl
abbrev NB (prog : Program) (w : World) (A : Around) (env : Env) (R : Result → Shared → Prop) : Value → Shared → Prop := notedBy (model prog w) A env fun e s' => R (.error e) s'
theorem d2_lout (hs : ∀ x, foldedSetIterable i1 env x = pure x) (I : Nat → Shared → Prop)
    (turn : ∀ n s, I n s → wpAny (model prog w) A (pyNext it) (fun r s₁ => match r with
      | none => R (.ok .next) s₁
      | some v => wpAny (model prog w) A (letOwnedTupleGo t0 it v) (fun _ s₂ => wpAny (model prog w) A (assign t0 env v) (fun _ s₃ =>
          wpAny (model prog w) A (eval i1 env) (fun x s₄ => wpAny (model prog w) A (pyIter x) (fun it1 s₅ =>
              codeAny (model prog w) A (.compStart (dcE kx vx t0 i0 t1 i1 sc pos) 1 it1 acc env) (fun r s' => match r with
                | .ok _ => ∃ m, m < n ∧ I m s'
                | .error _ => False) s₅) (NB prog w A env R) s₄) (NB prog w A env R) s₃) (NB prog w A env R) s₂) (NB prog w A env R) s₁) (NB prog w A env R) s)
    (n : Nat) (h : I n s) : codeAny (model prog w) A (.compLoop (dcE kx vx t0 i0 t1 i1 sc pos) 0 it acc env) R s := by
  refine codeAny_loop rfl I (fun n s hI => ?_) n h
  show wpAny _ A ((compTurn (dcE kx vx t0 i0 t1 i1 sc pos) 0 it acc env).onRaise (fun x => do noteFrame x env; theTreesLotGoes x)) _ _ s
  refine wpAny_noted ?_
  rw [d2_out]
  refine wpAny_bind (wpAny_standAt (wpAny_bind (wpAny_mono (turn n s hI) (fun r s₁ h₁ => ?_) fun _ _ z => z)))
  cases r with
  | none => exact wpAny_pure h₁
  | some v =>
    refine wpAny_bind (wpAny_mono h₁ (fun _ s₂ h₂ => wpAny_bind (wpAny_mono h₂ (fun _ s₃ h₃ => wpAny_bind (wpAny_pure ?_)) fun _ _ z => z)) fun _ _ z => z)
    refine wpAny_bind (wpAny_mono h₃ (fun x s₄ h₄ => ?_) fun _ _ z => z)
    refine wpAny_bind (wpAny_standAt (wpAny_bind (wpAny_of_eq (hs x) (wpAny_bind (wpAny_holding (wpAny_mono h₄ (fun it1 s₅ h₅ => ?_) fun _ _ z => z))))))
    refine wpAny_bind (wpAny_runOwn ?_)
    rw [Around.mark_none]
    refine codeAny_mono h₅ fun r s' hr => ?_
    cases r with
    | ok f =>
      first
        | exact wpAny_pure ⟨rfl, hr⟩
        | exact wpAny_bind (wpAny_pure (wpAny_pure ⟨rfl, hr⟩))
    | error e => exact hr.elim
theorem d2_lin (I : Nat → Shared → Prop)
    (turn : ∀ n s, I n s → wpAny (model prog w) A (pyNext it) (fun r s₁ => match r with
      | none => R (.ok .next) s₁
      | some v => wpAny (model prog w) A (letOwnedTupleGo t1 it v) (fun _ s₂ => wpAny (model prog w) A (assign t1 env v) (fun _ s₃ =>
          wpAny (model prog w) A (eval kx env) (fun kv s₄ => wpAny (model prog w) A (eval vx env) (fun vv s₅ =>
              wpAny (model prog w) A (dictSet D kv vv) (fun _ s₆ => ∃ m, m < n ∧ I m s₆) (NB prog w A env R) s₅) (NB prog w A env R) s₄) (NB prog w A env R) s₃) (NB prog w A env R) s₂) (NB prog w A env R) s₁) (NB prog w A env R) s)
    (n : Nat) (h : I n s) : codeAny (model prog w) A (.compLoop (dcE kx vx t0 i0 t1 i1 sc pos) 1 it (.ref D) env) R s := by
  refine codeAny_loop rfl I (fun n s hI => ?_) n h
  show wpAny _ A ((compTurn (dcE kx vx t0 i0 t1 i1 sc pos) 1 it (.ref D) env).onRaise (fun x => do noteFrame x env; theTreesLotGoes x)) _ _ s
  refine wpAny_noted ?_
  rw [d2_in]
  refine wpAny_bind (wpAny_standAt (wpAny_bind (wpAny_mono (turn n s hI) (fun r s₁ h₁ => ?_) fun _ _ z => z)))
  cases r with
  | none => exact wpAny_pure h₁
  | some v =>
    refine wpAny_bind (wpAny_mono h₁ (fun _ s₂ h₂ => wpAny_bind (wpAny_mono h₂ (fun _ s₃ h₃ => wpAny_bind (wpAny_pure ?_)) fun _ _ z => z)) fun _ _ z => z)
    exact wpAny_bind (wpAny_bind (wpAny_mono h₃ (fun kv s₄ h₄ => wpAny_bind (wpAny_holding (wpAny_mono h₄ (fun vv s₅ h₅ => wpAny_bind (wpAny_standAt (wpAny_holding (wpAny_mono h₅ (fun _ s₆ h₆ => wpAny_pure ⟨rfl, h₆⟩) fun _ _ z => z)))) fun _ _ z => z))) fun _ _ z => z))
theorem d2_start1 (h0 : codeAny (model prog w) A (.compLoop (dcE kx vx t0 i0 t1 i1 sc pos) 1 it acc env) R s)
    (h : wpAny (model prog w) A (pyIter it) (fun it' s' => codeAny (model prog w) A (.compLoop (dcE kx vx t0 i0 t1 i1 sc pos) 1 it' acc env) R s') (NB prog w A env R) s) :
    codeAny (model prog w) A (.compStart (dcE kx vx t0 i0 t1 i1 sc pos) 1 it acc env) R s := by
  refine codeAny_of_tree ?_
  show wpAny _ _ ((compStart (dcE kx vx t0 i0 t1 i1 sc pos) 1 it acc env).onRaise (fun x => do noteFrame x env; standAt theWindowsPlace)) _ _ s
  refine wpAny_notedAt ?_
  unfold compStart
  show wpAny _ _ (ask >>= _) _ _ s
  refine wpAny_bind (wpAny_askSetting (wpAny_ite ?_))
  split
  · first
      | exact wpAny_bind (wpAny_pure (wpAny_pure (And.intro rfl h0)))
      | exact wpAny_pure (And.intro rfl h0)
  · first
      | exact wpAny_bind (wpAny_rule (wpAny_bind (wpAny_standAt (wpAny_bind (wpAny_mono h (fun it' s' h' => wpAny_pure (And.intro rfl h')) fun _ _ x => x)))))
      | (refine wpAny_bind (wpAny_rule ?_); show wpAny _ _ (standAt i1.pos >>= _) _ _ s; exact wpAny_bind (wpAny_standAt (wpAny_bind (wpAny_mono h (fun it' s' h' => wpAny_pure (And.intro rfl h')) fun _ _ x => x))))
end
/-- the second clause's loop, and the first one's -/
def D2in (J1 : It) (g1 : TG) (tk tv : TE) (vs1 : List Nat) (σ2 : L2.St) (D : Addr) (Nx : Hp → Prop) (H4 : Hp) : Prop := ∃ W1 : Nat → Nat → Hp → Prop, (∃ m, W1 0 m H4) ∧ ∀ j k H, W1 j k H →
  (J1.stop j H ∧ Nx H) ∨ (J1.go j H ∧ ∃ Nx1 : Hp → Prop, (∀ H', Nx1 H' → ∃ k', k' < k ∧ W1 (j + 1) k' H') ∧ ∀ x H', J1.yld j H x H' → g1 x (wipe σ2 vs1) H' fun σ3 H5 => wipe σ3 vs1 = wipe σ2 vs1 ∧
    tk σ3 H5 fun y H6 => tv σ3 H6 fun z H7 => ∃ kvs k, y = kV k ∧ H7 D = some (.dK kvs) ∧ kvs.length < sizeLine ∧ Nx1 (upd H7 D (.dK (putK kvs k z))))
def tDc2 (wi : TI) (g : TG) (wi1 : TI) (g1 : TG) (tk tv : TE) (vs vs1 : List Nat) : TE := fun σ H Q => wi σ H fun J H1 => ∀ D, H1 D = none → ∃ W : Nat → Nat → Hp → Prop, (∃ m, W 0 m (upd H1 D (.dK []))) ∧ ∀ i m H, W i m H →
  (J.stop i H ∧ Q (.ref D) H) ∨ (J.go i H ∧ ∃ Nx : Hp → Prop, (∀ H', Nx H' → ∃ m', m' < m ∧ W (i + 1) m' H') ∧ ∀ x H', J.yld i H x H' → g x (wipe σ vs) H' fun σ2 H2 => wipe σ2 vs = wipe σ vs ∧
    wi1 σ2 H2 fun J1 H4 => D2in J1 g1 tk tv vs1 σ2 D Nx H4)
section
variable {X : Cx}
theorem pe_dc2 {kx vx tg iter tg1 iter1 : Expr} {scope : Scope} {own : List (Str × Nat)} {vs1 : List Nat} {pos : Pos} {wi wi1 : TI} {g g1 : TG} {tk tv : TE}
    (hc : X.calm = true) (hN : X.N.Nodup) (hi : PI X tg iter wi) (ok : BlkOk X.N X.env.scope scope own) (hv : ∀ i ∈ vs1, i ∈ own.map (·.2))
    (hg : ∀ (s : Shared) (H : Hp) (C : Addr) (cl : List (Str × Addr)) (fp : List Addr), PG (X.blk s H scope (compEnvC scope cl C X.env) fp) tg g)
    (hi1 : ∀ (s : Shared) (H : Hp) (C : Addr) (cl : List (Str × Addr)) (fp : List Addr), PI (X.blk s H scope (compEnvC scope cl C X.env) fp) tg1 iter1 wi1)
    (hg1 : ∀ (s : Shared) (H : Hp) (C : Addr) (cl : List (Str × Addr)) (fp : List Addr), PG (X.blk s H scope (compEnvC scope cl C X.env) fp) tg1 g1)
    (hk : ∀ (s : Shared) (H : Hp) (C : Addr) (cl : List (Str × Addr)) (fp : List Addr), PE (X.blk s H scope (compEnvC scope cl C X.env) fp) kx tk)
    (he : ∀ (s : Shared) (H : Hp) (C : Addr) (cl : List (Str × Addr)) (fp : List Addr), PE (X.blk s H scope (compEnvC scope cl C X.env) fp) vx tv)
    (hs : ∀ x, foldedSetIterable iter X.env x = pure x := by intro _; rfl) (hs1 : ∀ env x, foldedSetIterable iter1 env x = pure x := by intro _ _; rfl) :
    PE X (dcE kx vx tg iter tg1 iter1 scope pos) (tDc2 wi g wi1 g1 tk tv (own.map (·.2)) vs1) := by
  refine ⟨fun pins s σ H Q I h => ?_⟩
  rw [arm_eval_DictComp]
  have hfree : ∀ y ∈ scope.names, y.2 = .free → ∃ c, X.env.cells.lookup y.1 = some c := fun y hy e => by
    rcases ok.free y hy e with k | k
    · exact I.ok.has _ (.inl k)
    · exact I.ok.has _ (.inr k)
  refine wpAny_comprehension_free (use := none) rfl hs (closure_ok hfree) ok.kind (fun y hy e => by rw [ok.uniq y hy, e])
    (thn (hi.run pins s σ H _ I h) fun xv s1 hx => thn hx fun itv s2 h2 => ?_)
  obtain ⟨it, fp, tn, J, H2, e, I2, T, st2, f2, q⟩ := h2
  subst e
  refine wpAny_newObj_type (newEnv_comp ?_)
  generalize hD : s2.heap.objs.size = D
  have hDn : H2 D = none := I2.hok.fresh (Nat.le_of_eq hD)
  obtain ⟨W, ⟨m0, w0⟩, turn⟩ := q D hDn
  generalize hs3 : ({ s2 with heap := s2.heap.push { cls := .type "dict", data := .dict #[] } } : Shared) = s3
  have I3 : Inv X pins σ (upd H2 D (.dK [])) s3 := by
    rw [← hs3]
    refine I2.laid (t' := s2.toks) (fun b o e => Heap.get?_push_of_some _ e) (Nat.le_of_eq hD) ?_
    rw [← hD]
    exact dk_empty s2.heap I2.big
  have h3 : s3.heap = s2.heap.push { cls := .type "dict", data := .dict #[] } := by rw [← hs3]
  have sz : ∀ b ∈ fp, b < s2.heap.objs.size := fun b hb => by
    obtain ⟨o, e, _⟩ := T.obj _ _ st2 b hb
    exact Heap.lt_size e
  have f3 : ∀ b ∈ fp, FpOk X pins (upd H2 D (.dK [])) b ∧ b < s3.heap.objs.size := fun b hb => by
    have hlt := sz b hb
    refine ⟨⟨?_, (f2 b hb).2⟩, by rw [h3, Heap.size_push]; exact Nat.lt_succ_of_lt hlt⟩
    rw [upd_ne (by rw [← hD]; exact Nat.ne_of_lt hlt)]
    exact (f2 b hb).1
  have st3 : tn 0 s3.heap := T.keep _ _ _ st2 fun b _ o e => by rw [h3]; exact Heap.get?_push_of_some _ e
  have I4 := block_start I3 ok hN f3
  have pg := hg s3 (upd H2 D (.dK [])) s3.heap.objs.size (cellsFrom (s3.heap.objs.size + 1) scope.names (cloFrom X.env.cells scope.names [])) fp
  have pk := hk s3 (upd H2 D (.dK [])) s3.heap.objs.size (cellsFrom (s3.heap.objs.size + 1) scope.names (cloFrom X.env.cells scope.names [])) fp
  have pe := he s3 (upd H2 D (.dK [])) s3.heap.objs.size (cellsFrom (s3.heap.objs.size + 1) scope.names (cloFrom X.env.cells scope.names [])) fp
  have pi1 := hi1 s3 (upd H2 D (.dK [])) s3.heap.objs.size (cellsFrom (s3.heap.objs.size + 1) scope.names (cloFrom X.env.cells scope.names [])) fp
  have pg1 := hg1 s3 (upd H2 D (.dK [])) s3.heap.objs.size (cellsFrom (s3.heap.objs.size + 1) scope.names (cloFrom X.env.cells scope.names [])) fp
  generalize hQf : EP X pins σ Q = Qf
  have hRR : ∀ s' m H', Inv X pins σ H' s' → Q (.ref D) H' → s'.heap.Ns s3.heap.objs.size m → FpOk X pins H' s3.heap.objs.size → compPost (model X.prog X.w) X.A X.xe none Qf (.ref D) s3.heap.objs.size (.ok .next) s' := fun s' m H' I' q hn f => ⟨m, hn, fun h'' sb => by
    obtain ⟨f0, f1, f2, f3, f4, f5⟩ := f
    rw [← hQf]
    exact ⟨.ref D, H', I'.turned (t' := s'.toks) (fun b o hb e => (sb.2 b hb).trans e) f0 f1 f3 f4 f5, rfl, q⟩⟩
  show codeAny _ _ (.compStart (dcE kx vx tg iter tg1 iter1 scope pos) 0 (.ref it) (.ref D) (compEnvC scope (cellsFrom (s3.heap.objs.size + 1) scope.names (cloFrom X.env.cells scope.names [])) s3.heap.objs.size X.env)) (compPost (model X.prog X.w) X.A X.xe none _ (.ref D) s3.heap.objs.size) { s3 with heap := pushCells (s3.heap.push { cls := .type "dict", data := .dict #[] }) scope.names }
  have nfp : ∀ b ∈ fp, (upd H2 D (.dK [])) b = none := fun b hb => (f3 b hb).1.1
  generalize hce : compEnvC scope (cellsFrom (s3.heap.objs.size + 1) scope.names (cloFrom X.env.cells scope.names [])) s3.heap.objs.size X.env = ce at I4 pg pk pe pi1 pg1 ⊢
  have cL : ce.locals = s3.heap.objs.size := by subst hce; rfl
  generalize hH3 : upd H2 D (.dK []) = H3 at I3 I4 pg pk pe pi1 pg1 w0 nfp f3
  generalize hs4 : ({ s3 with heap := pushCells (s3.heap.push { cls := .type "dict", data := .dict #[] }) scope.names } : Shared) = s4 at I4 ⊢
  have st4 : tn 0 s4.heap := T.keep _ _ _ st3 fun b _ o e => by rw [← hs4]; exact pushCells_keeps _ _ _ _ (Heap.get?_push_of_some _ e)
  let Y := X.blk s3 H3 scope ce fp
  have stat : ∀ {σ' : L2.St} {H' : Hp} {s' : Shared}, Inv Y [] σ' H' s' → (∀ b ∈ fp, H' b = none) → ∀ b ∈ fp, FpOk Y [] H' b := fun {σ' H' s'} I' hn b hb =>
    ⟨hn b hb, (I'.ok.exf b hb).1, I'.ok.exfs b hb, .inl hb, fun x c e => (I'.ok.exf b hb).2 x c e, fun p hp => absurd (show p ∈ ([] : List (Addr × Obj)) ++ [] from hp) (by simp)⟩
  have loop : codeAny (model X.prog X.w) X.A (.compLoop (dcE kx vx tg iter tg1 iter1 scope pos) 0 (.ref it) (.ref D) ce) (compPost (model X.prog X.w) X.A X.xe none Qf (.ref D) s3.heap.objs.size) s4 := by
    refine d2_lout (hs1 ce) (fun n s' => ∃ i H', Inv Y [] (wipe σ (own.map (·.2))) H' s' ∧ tn i s'.heap ∧ (∀ b ∈ fp, H' b = none) ∧ W i n H') ?_ m0 ⟨0, H3, I4, st4, nfp, w0⟩
    rintro n s5 ⟨i, H5, I5, st5, n5, w5⟩
    rcases turn i n H5 w5 with ⟨stop, qq⟩ | ⟨go, Nx, hNx, step⟩
    · refine thnF (T.done Y rfl rfl rfl hc i [] s5 _ H5 (fun _ _ => False) I5 (stat I5 n5) st5 stop) fun r s6 ⟨hr, I6⟩ => ?_
      subst hr
      have I7 : Inv X pins σ H5 s6 := I3.call' (ch := fp) I6.os I6.base I6.hok I6.bare fun b hb => ⟨(f3 b hb).1.2.2.2.1, (f3 b hb).1.2.1, (f3 b hb).1.2.2.2.2.1, (f3 b hb).1.2.2.2.2.2⟩
      have nC : H5 s3.heap.objs.size = none := by
        have z : H5 ce.locals = none := I6.free
        rw [cL] at z
        exact z
      obtain ⟨m, hn, _⟩ := I6.loc
      have hn : s6.heap.Ns ce.locals m := hn
      rw [cL] at hn
      exact hRR s6 m H5 I7 qq hn (I3.fpOk (Nat.le_refl _) nC)
    · refine thnF (T.item Y rfl rfl rfl hc i [] s5 _ H5 (fun _ _ => False) I5 (stat I5 n5) st5 go) fun r s6 ⟨u, hr, h6⟩ => ?_
      subst hr
      refine thnF h6 fun _ s7 ⟨x, H7, I7, r7, y7, st7, n7⟩ => ?_
      have I7' := I7.pinned (stat I7 n7) (T.obj _ _ st7)
      refine thnF (pg.run _ s7 _ H7 x u _ I7' r7 (step x H7 y7)) fun _ s8 ⟨σ8, H8, I8, hw8, q8⟩ => ?_
      have fin : ∀ {σ9 : L2.St} {s' : Shared} {H' : Hp}, Inv Y ([] ++ pinsAt fp s7.heap) σ9 H' s' → (wipe σ (own.map (·.2))).length = σ9.length → (∀ (j : Nat) v, (wipe σ (own.map (·.2)))[j]? = some (some v) → σ9[j]? = some (some v)) → Nx H' →
          ∃ m, m < n ∧ ∃ i H', Inv Y [] (wipe σ (own.map (·.2))) H' s' ∧ tn i s'.heap ∧ (∀ b ∈ fp, H' b = none) ∧ W i m H' := fun {σ9 s' H'} I' hl hk nx => by
        obtain ⟨m', hm, w'⟩ := hNx H' nx
        have pin' : ∀ b ∈ fp, ∀ o, s7.heap.get? b = some o → s'.heap.get? b = some o ∧ H' b = none := fun b hb o e =>
          let z := I'.pin (b, o) (List.mem_append_right _ (List.mem_append_right _ (mem_pinsAt hb e)))
          ⟨z.1, z.2.1⟩
        refine ⟨m', hm, i + 1, H', (I'.unpinned (pins := [])).weak hl hk, T.keep _ _ _ st7 fun b hb o e => (pin' b hb o e).1, fun b hb => ?_, w'⟩
        obtain ⟨o, e, _⟩ := T.obj _ _ st7 b hb
        exact (pin' b hb o e).2
      have hl8 : (wipe σ (own.map (·.2))).length = σ8.length := by rw [← hw8, wipe_length]
      have hk9 : ∀ (j : Nat) v, (wipe σ (own.map (·.2)))[j]? = some (some v) → (wipe σ8 vs1)[j]? = some (some v) := fun j v e => by
        rw [← hw8] at e
        obtain ⟨e1, e2⟩ := wipe_some e
        rw [wipe_out fun z => e2 (hv j z)]
        exact e1
      refine thnF (pi1.run _ s8 σ8 H8 _ I8 q8) fun xv s10 hx => thnF hx fun itv s11 h11 => ?_
      obtain ⟨it1, fp1, tn1, J1, H11, e1, I11, T1, st11, f11, W1, ⟨m1, w1⟩, turn1⟩ := h11
      subst e1
      have stat1 : ∀ {H' : Hp}, (∀ b ∈ fp1, H' b = none) → ∀ b ∈ fp1, FpOk Y ([] ++ pinsAt fp s7.heap) H' b := fun hn b hb => ⟨hn b hb, (f11 b hb).2⟩
      have loop1 : codeAny (model X.prog X.w) X.A (.compLoop (dcE kx vx tg iter tg1 iter1 scope pos) 1 (.ref it1) (.ref D) ce)
          (fun r s' => match r with
            | .ok _ => ∃ m, m < n ∧ ∃ i H', Inv Y [] (wipe σ (own.map (·.2))) H' s' ∧ tn i s'.heap ∧ (∀ b ∈ fp, H' b = none) ∧ W i m H'
            | .error _ => False) s11 := by
        refine d2_lin (fun k s' => ∃ j H', Inv Y ([] ++ pinsAt fp s7.heap) (wipe σ8 vs1) H' s' ∧ tn1 j s'.heap ∧ (∀ b ∈ fp1, H' b = none) ∧ W1 j k H') ?_ m1 ⟨0, H11, I11.weak (wipe_length _ _) (fun j v e => (wipe_some e).1), st11, fun b hb => (f11 b hb).1, w1⟩
        rintro k s12 ⟨j, H12, I12, st12, n12, w12⟩
        rcases turn1 j k H12 w12 with ⟨stop1, nx1⟩ | ⟨go1, Nx1, hNx1, step1⟩
        · refine thnF (T1.done Y rfl rfl rfl hc j _ s12 (wipe σ8 vs1) H12 (fun _ _ => False) I12 (stat1 n12) st12 stop1) fun r s13 ⟨hr, I13⟩ => ?_
          subst hr
          exact fin I13 (hl8.trans (wipe_length σ8 vs1).symm) hk9 nx1
        · refine thnF (T1.item Y rfl rfl rfl hc j _ s12 (wipe σ8 vs1) H12 (fun _ _ => False) I12 (stat1 n12) st12 go1) fun r s13 ⟨u1, hr, h13⟩ => ?_
          subst hr
          refine thnF h13 fun _ s14 ⟨x1, H14, I14, r14, y14, st14, n14⟩ => ?_
          have I14' := I14.pinned (stat1 n14) (T1.obj _ _ st14)
          refine thnF (pg1.run _ s14 (wipe σ8 vs1) H14 x1 u1 _ I14' r14 (step1 x1 H14 y14)) fun _ s15 ⟨σ15, H15, I15, hw15, q15⟩ => ?_
          have fin1 : ∀ {s' : Shared} {H' : Hp}, Inv Y (([] ++ pinsAt fp s7.heap) ++ pinsAt fp1 s14.heap) σ15 H' s' → Nx1 H' → ∃ m, m < k ∧ ∃ j H', Inv Y ([] ++ pinsAt fp s7.heap) (wipe σ8 vs1) H' s' ∧ tn1 j s'.heap ∧ (∀ b ∈ fp1, H' b = none) ∧ W1 j m H' := fun {s' H'} I' nx => by
            obtain ⟨m', hm, w'⟩ := hNx1 H' nx
            have pin' : ∀ b ∈ fp1, ∀ o, s14.heap.get? b = some o → s'.heap.get? b = some o ∧ H' b = none := fun b hb o e =>
              let z := I'.pin (b, o) (List.mem_append_right _ (List.mem_append_right _ (mem_pinsAt hb e)))
              ⟨z.1, z.2.1⟩
            refine ⟨m', hm, j + 1, H', I'.unpinned.weak (by rw [← hw15, wipe_length]) (fun j v e => by rw [← hw15] at e; exact (wipe_some e).1), T1.keep _ _ _ st14 fun b hb o e => (pin' b hb o e).1, fun b hb => ?_, w'⟩
            obtain ⟨o, e, _⟩ := T1.obj _ _ st14 b hb
            exact (pin' b hb o e).2
          refine thnF (pk.run _ s15 σ15 H15 _ I15 q15) fun z s16 ⟨yk, H16, I16, r16, q16⟩ => ?_
          refine thnF (pe.run _ s16 σ15 H16 _ I16 q16) fun z2 s17 ⟨yv, H17, I17, r17, kvs, k', ek, hD17, hz17, nx⟩ => ?_
          subst ek
          exact d_dictSet (X := Y) I17 hD17 hz17 r16 r17 fun s18 I18 => fin1 I18 nx
      exact d2_start1 loop1 (T1.self X.A 0 _ _ _ st11 loop1)
  exact codeAny_compStart_dict loop (T.self X.A 0 _ _ _ st4 loop)
end
end Sw
end
section
set_option maxRecDepth 100000
namespace Sw
open PySem PySem.Spec PyProof.Rows L2
variable [TL]
theorem sw_trueD {kx vx : Expr} {gs : List Comprehension} {scope : Scope} {pos py : Pos} {y : Str} {l : Nat} {env : Env} (hk : env.scope.kind = .function) (hy : env.scope.names.lookup y = some .local) (hl : (py.line == pos.line) = true)
    (ha : (scope.names.any fun (n, k) => n == y && (k == .local || k == .cell)) = false) : swapsWith (.DictComp kx vx gs scope pos) (some (.Name y py)) l env = pure true := by
  have ky : env.kindOf y = some .local := hy
  have hb : env.blockKind = .function := by unfold Env.blockKind; rw [hk]; rfl
  unfold swapsWith
  simp only [hb, ky, ha, Expr.pos, hl]
  rfl
section
variable {X : Cx}
theorem ps_setDc {i : Nat} {y : Str} {py : Pos} {kx vx tg iter : Expr} {scope : Scope} {own : List (Str × Nat)} {pos spos : Pos} {wi : TI} {g : TG} {tk tv : TE} (hc : X.calm = true) (hN : X.N.Nodup) (hy : X.N[i]? = some y) (hyl : X.env.scope.names.lookup y = some .local)
    (hsw : swapsWith (.DictComp kx vx [⟨tg, iter, [], 0⟩] scope pos) (some (.Name y py)) spos.line X.env = pure true) (hi : PI X tg iter wi) (ok : BlkOk X.N X.env.scope scope own)
    (hg : ∀ (s : Shared) (H : Hp) (C : Addr) (cl : List (Str × Addr)) (fp : List Addr), PG (X.blk s H scope (compEnvC scope cl C X.env) fp) tg g)
    (hk : ∀ (s : Shared) (H : Hp) (C : Addr) (cl : List (Str × Addr)) (fp : List Addr), PE (X.blk s H scope (compEnvC scope cl C X.env) fp) kx tk)
    (he : ∀ (s : Shared) (H : Hp) (C : Addr) (cl : List (Str × Addr)) (fp : List Addr), PE (X.blk s H scope (compEnvC scope cl C X.env) fp) vx tv) (hs : ∀ x, foldedSetIterable iter X.env x = pure x := by intro _; rfl) :
    PS X (.Assign [.Name y py] (.DictComp kx vx [⟨tg, iter, [], 0⟩] scope pos) spos) (tAsg (tDc wi g tYes tk tv (own.map (·.2))) (gName i)) := by
  refine ⟨fun pins s σ H D I h => ?_⟩
  rw [exec_Assign_Name_used _ _ _ _ hsw]
  refine wpAny_bind (wpAny_standAt (wpAny_bind ?_))
  show wpAny _ X.A (do let _ ← comprehension (.DictComp kx vx [⟨tg, iter, [], 0⟩] scope pos) scope X.env (firstIterPos [⟨tg, iter, [], 0⟩] pos) newDict false (eval iter X.env) (some (assign (.Name y py) X.env))) _ _ s
  have h : tDc wi g tYes tk tv (own.map (·.2)) σ H (fun x H1 => gName i x σ H1 D.nx) := h
  refine wpAny_bind (thn (dc_core (Qf := fun _ s' => SP X pins D .next s') hc hN I hi ok hg (fun _ _ _ _ _ => pts_nil) hk he hs h fun L C s' m H' I' q hn f => ?_) fun _ s' hq => wpAny_pure (wpAny_pure hq))
  show wpAny _ _ (assign (.Name y py) X.env (.ref L)) _ _ _
  obtain ⟨f0, f1, f2, f3, f4, f5⟩ := f
  refine wpAny_assign_Name (store_ok2 (v := V.ref L) I' hN hy (.inl hyl) rfl (fun s2 I2 ⟨a, sb, ha⟩ => ?_) (.inr hyl))
  have haC : C ≠ a := by
    rcases ha with z | z
    · rw [z]; exact f1
    · exact fun e => f4 y a z e.symm
  refine ⟨m, hn.sameBut sb haC, fun h3 sb3 => ?_⟩
  exact ⟨_, H', I2.turned (t' := s2.toks) (fun b o hb e => (sb3.2 b hb).trans e) f0 f1 f3 f4 f5, q⟩
end
end Sw
end
section
set_option maxRecDepth 100000
namespace Sw
open PySem PySem.Spec PyProof.Rows L2 LamX
variable [TL]
def LamG (H H1 : Hp) : Prop := ExtN H H1 ∧ ∀ b, H b ≠ none → H1 b ≠ none
/-- what a lambda of one parameter makes of an item: the key; all else stays -/
structure KeyLam (prog : Program) (w : World) (K : PySem.W.Frag) (mg : Str → Option Value) (base : Heap) (params : Arguments) (body : Expr) (scope : Scope) (x : Str) (Item : Hp → V → PyData → Prop) where
  raw : Heap → Value → PyData → Prop
  mono : ∀ {h h' : Heap} {u d}, (∀ b o, h.get? b = some o → h'.get? b = some o) → raw h u d → raw h' u d
  ext : ∀ {H H1 : Hp} {v d}, Item H v d → ExtN H H1 → Item H1 v d
  of : ∀ {H : Hp} {h : Heap} {v u d}, HOk prog w H h → RelV v u → Item H v d → raw h u d
  nofree : ∀ y ∈ scope.names, y.2 ≠ .free
  nocell : ∀ y ∈ scope.names, y.2 ≠ .cell
  loc : scope.names.lookup x = some .local
  kind : scope.kind = .function
  co : scope.isCoroutine = false
  gen : scope.isGenerator = false
  hdef : ∀ env, defaultsOf params env = ([], [])
  bind : ∀ (q : Str) (cl : List (Str × Addr)) (pm cv ctv u : Value), bindArgs (PySem.W.kla_fn "<lambda>" q params body scope cl pm cv ctv) ⟨[u], []⟩ = pure [(x, u)]
  run : ∀ (A : Around) (s : Shared) (q : Str) (L f : Addr) (cv : Value) (cl : List (Str × Addr)) (u : Value) (d : PyData) (E : Value → Shared → Prop), L2.Mod K mg base → A.handled = none → (∀ b o, base.get? b = some o → s.heap.get? b = some o) → s.heap.Ns L (fun y => [(x, u)].reverse.lookup y) → raw s.heap u d →
    wpAny (model prog w) A (eval body (PySem.W.envX q scope L f cv cl)) (PySem.W.KeyPure d s) E s
section
variable {prog : Program} {w : World} {K : PySem.W.Frag} {mg : Str → Option Value} {base : Heap} {params : Arguments} {body : Expr} {scope : Scope} {x : Str} {Item : Hp → V → PyData → Prop}
theorem lam_call1 (KL : KeyLam prog w K mg base params body scope x Item) (M : L2.Mod K mg base) {A : Around} {s : Shared} {f c' : Addr} {q : Str} {cl : List (Str × Addr)} {pm ctv u : Value} {d : PyData} {E : Value → Shared → Prop} (hf : s.heap.get? f = some (PySem.W.kla_obj "<lambda>" q params body scope cl pm c' ctv)) (hcd : s.heap.CodeRec (.ref c') q)
    (hr : A.depth < recursionLimit) (hd : A.handled = none) (hb : ∀ b o, base.get? b = some o → s.heap.get? b = some o) (lim : s.heap.NoLimit) (hraw : KL.raw s.heap u d) : wpAny (model prog w) A (call (.ref f) [u]) (PySem.W.KeyPure d s) E s := by
  refine wpAny_call (PySem.W.kla_callFunE hr hf rfl KL.co KL.gen rfl hcd ?_)
  rw [KL.bind]
  refine wpAny_pure (wpAny_newFunctionEnv KL.nocell (fun y hy => ?_) (fun h₁ hns hsb => ⟨lim.fresh _ hsb, ?_⟩) KL.kind)
  · rw [List.mem_singleton.mp hy]
    exact KL.loc
  show codeAny _ _ (.expr body (PySem.W.envX q scope s.heap.objs.size f (.ref c') cl)) _ _
  have kp : ∀ b o, s.heap.get? b = some o → h₁.get? b = some o := fun b o e => hsb.extBut b o (Nat.ne_of_lt (Heap.lt_size e)) (Heap.get?_push_of_some _ e)
  refine PySem.W.kla_codeExpr (wpAny_mono (KL.run _ _ q s.heap.objs.size f (.ref c') cl u d _ M (by show (A.deeper _).handled = none; exact hd) (fun b o e => kp b o (hb b o e)) hns (KL.mono kp hraw)) (fun v s' hq => ?_) fun e s' h => h)
  obtain ⟨h', tk, rfl, k2, r⟩ := hq
  exact ⟨h', tk, rfl, fun b o e => k2 b o (kp b o e), r⟩
end
section
variable {X : Cx} {pins : List (Addr × Obj)} {σ : L2.St} {H : Hp} {s : Shared}
theorem lam_make3 {T : List (Addr × Str)} {c P : Addr} {params : Arguments} {body : Expr} {scope : Scope} {pos : Pos} {E : Value → Shared → Prop} {Q : Value → Shared → Prop} (I : Inv X pins σ H s) (TB : TabB X.base X.mg c P) (hcode : X.env.code = .ref c)
    (hm : (P, X.env.qual ++ "<lambda>") ∈ T) (hu : ∀ p ∈ T, p.1 = P → p.2 = X.env.qual ++ "<lambda>") (hT : Tabs T H) (hdef : defaultsOf params X.env = ([], [])) (hnf : ∀ y ∈ scope.names, y.2 ≠ .free)
    (h : ∀ (f c' : Addr) (pm ctv : Value) (H1 : Hp) (s' : Shared), Inv X pins σ H1 s' → LamG H H1 → Tabs T H1 →
      s'.heap.get? f = some (PySem.W.kla_obj "<lambda>" (X.env.qual ++ "<lambda>") params body scope (cloFrom X.env.cells scope.names []) pm c' ctv) → H1 c' = some (CodeO c' (X.env.qual ++ "<lambda>")) → Q (.ref f) s') :
    wpAny (model X.prog X.w) X.A (eval (.Lambda params body scope pos) X.env) Q E s := by
  have hfree : ∀ y ∈ scope.names, y.2 = .free → ∃ c, X.env.cells.lookup y.1 = some c := fun y hy e => absurd e (hnf y hy)
  obtain ⟨ps, hP, ht, ha⟩ := hT _ hm
  refine PySem.W.kla_eval hdef ?_
  have bP : s.heap.BuiltinsAt X.mg P := TB.bm.keeps I.bk
  have hP' : s.heap.get? P = some { cls := .none, data := .fields ps } := I.hok P _ hP
  cases hc : codeAmong pos ps.toList with
  | none =>
    refine PySem.W.kla_makeFunction (mg := X.mg) (c := c) (P := P) (ps := ps) (closure_ok hfree) I.ok.glob (I.mod.glob.keeps I.bk) hcode (TB.code.keeps I.bk) hP' ht hc TB.gP bP fun c' ctv h' tk hx hge hlt hrec htb => ?_
    obtain ⟨c2, oc, vs, t, e2, hoc, hd, hv⟩ := hrec
    cases e2
    have nC : H c' = none := I.hok.fresh hge
    have I1 := inv_table (t' := tk) (q := X.env.qual ++ "<lambda>") (more := #[rawInt pos.line, rawInt pos.col, .ref c']) (h' := h'.push (PySem.W.kla_obj "<lambda>" (X.env.qual ++ "<lambda>") params body scope (cloFrom X.env.cells scope.names []) ((X.mg "__name__").getD .none) c' ctv)) I hP
      (fun b o hb e => Heap.get?_push_of_some _ (hx b o hb e)) (Heap.get?_push_of_some _ htb) hge ⟨oc, vs, t, Heap.get?_push_of_some _ hoc, hd, hv⟩
    have nPc := ne_of_none hP nC
    refine h h'.objs.size c' ((X.mg "__name__").getD .none) ctv _ _ I1 ⟨fun b o e n => ?_, fun b hb => ?_⟩ (fun p hp => ?_) (Heap.get?_push_size _ rfl) upd_same
    · rw [upd_ne (ne_of_none e nC), upd_ne (fun z => n ps (Option.some.inj (e.symm.trans (by rw [z]; exact hP))))]
      exact e
    · by_cases z : b = c'
      · rw [z, upd_same]
        exact fun z => nomatch z
      · rw [upd_ne z]
        by_cases z2 : b = P
        · rw [z2, upd_same]
          exact fun z => nomatch z
        · rw [upd_ne z2]
          exact hb
    · have eL : (ps ++ #[rawInt pos.line, rawInt pos.col, .ref c']).toList = ps.toList ++ [rawInt pos.line, rawInt pos.col, .ref c'] := by simp
      by_cases hb : p.1 = P
      · rw [hu p hp hb, hb]
        refine ⟨_, by rw [upd_ne nPc, upd_same], by rw [eL]; exact PySem.TriplesOk_snoc _ _ _ _ ht, fun p' cv hcv => ?_⟩
        rw [eL] at hcv
        rcases among_app _ ht hcv with z | z
        · obtain ⟨c0, e1, e2⟩ := ha p' cv z
          refine ⟨c0, e1, ?_⟩
          rw [upd_ne (ne_of_none e2 nC), upd_ne (fun z => codeO_ne ps (Option.some.inj (e2.symm.trans (by rw [z]; exact hP))))]
          exact e2
        · exact ⟨c', z, upd_same⟩
      · obtain ⟨ps', a1, a2, a3⟩ := hT p hp
        refine ⟨ps', by rw [upd_ne (ne_of_none a1 nC), upd_ne hb]; exact a1, a2, fun p' cv hcv => ?_⟩
        obtain ⟨c0, e1, e2⟩ := a3 p' cv hcv
        refine ⟨c0, e1, ?_⟩
        rw [upd_ne (ne_of_none e2 nC), upd_ne (fun z => codeO_ne ps (Option.some.inj (e2.symm.trans (by rw [z]; exact hP))))]
        exact e2
  | some cv =>
    obtain ⟨c', e, hco⟩ := ha pos cv hc
    subst e
    refine PySem.W.kla_makeFunctionHit (mg := X.mg) (c := c) (P := P) (ps := ps) (closure_ok hfree) I.ok.glob (I.mod.glob.keeps I.bk) hcode (TB.code.keeps I.bk) hP' ht hc bP fun ctv h' tk hx hsz => ?_
    have I1 : Inv X pins σ H { s with heap := h'.push (PySem.W.kla_obj "<lambda>" (X.env.qual ++ "<lambda>") params body scope (cloFrom X.env.cells scope.names []) ((X.mg "__name__").getD .none) c' ctv), toks := tk } := I.kept fun b o e => Heap.get?_push_of_some _ (hx b o e)
    exact h h'.objs.size c' ((X.mg "__name__").getD .none) ctv H _ I1 ⟨ExtN.refl H, fun _ h => h⟩ hT (Heap.get?_push_size _ rfl) hco
end
/-- no table is what stays; the tables are as they are to be -/
def TabOk (G H : Hp) : Prop := (∀ b ps, G b ≠ some (.tbl ps)) ∧ Tabs TL.lt H
section
variable {M : Addr → Prop} {D : Option Dr} {G0 H0 G H H1 : Hp} {L : List (Addr × HO)}
theorem Sta.tabs (S : Sta M D G0 H0 G H L) (h : TabOk G0 H0) : TabOk G H := ⟨fun b ps e => h.1 b ps (S.go.nt b ps e), S.go.tb h.2⟩
theorem Sta.lam (S : Sta M D G0 H0 G H L) (h : TabOk G0 H0) (g : LamG H H1) (t : Tabs TL.lt H1) : Sta M D G0 H0 G H1 L :=
  S.call ⟨Sub.rfl' _, fun b o e => g.1 b o (S.inn b o e) fun ps z => (S.tabs h).1 b ps (by rw [← z]; exact e), fun b o e _ n => g.1 b o e n, fun _ _ e => e, g.2, fun _ => t, fun _ _ e => e⟩
end
/-- sorted(xs, key=..): k, the items' keys -/
def rSortK (Item : Hp → V → PyData → Prop) (x : V) (H : Hp) (Q : VK) : Prop := ∃ (a : Addr) (xs : List V) (k : V → PyData), x = .ref a ∧ H a = some (.lst xs) ∧ Tabs TL.lt H ∧ xs.length ≤ 1000 ∧ (∀ y ∈ xs, Item H y (k y) ∧ (k y).depth ≤ 10) ∧ PySem.W.AllAlike (xs.map k) ∧ PySem.W.Sortable (xs.map k) ∧
  ∀ H1, LamG H H1 → Tabs TL.lt H1 → New Q (.lst (xs.mergeSort (PySem.W.dataLe false k))) H1
def tSortK (Item : Hp → V → PyData → Prop) (te : TE) : TE := fun σ H Q => te σ H fun x H1 => rSortK Item x H1 Q
theorem ls_sortK {M : Addr → Prop} {D : Option Dr} {G0 H0 G H : Hp} {L : List (Addr × HO)} {Item : Hp → V → PyData → Prop} {a : Addr} {xs : List V} {Q : VK} (S : Sta M D G0 H0 G H L) (ht : TabOk G0 H0) (k : V → PyData) (h : H a = some (.lst xs)) (hl : xs.length ≤ 1000) (hi : ∀ y ∈ xs, Item H y (k y) ∧ (k y).depth ≤ 10) (hal : PySem.W.AllAlike (xs.map k)) (hs : PySem.W.Sortable (xs.map k))
    (q : ∀ H1, Sta M D G0 H0 G H1 L → New Q (.lst (xs.mergeSort (PySem.W.dataLe false k))) H1) : rSortK Item (.ref a) H Q := ⟨a, xs, k, rfl, h, (S.tabs ht).2, hl, hi, hal, hs, fun H1 g t => q H1 (S.lam ht g t)⟩
theorem vals_each {its : List Value} {xs : List V} (P : Value → V → Prop) (r : Vals xs its) (h : ∀ v x, x ∈ xs → RelV x v → P v x) : PySem.W.EachIs P its xs := by
  induction r with
  | nil => exact .nil
  | cons a b ih => exact .cons (h _ _ List.mem_cons_self a) (ih fun v x hx => h v x (List.mem_cons_of_mem _ hx))
theorem each_vals {its : List Value} {xs : List V} (e : PySem.W.EachIs (fun v x => RelV x v) its xs) : Vals xs its := by
  induction e with
  | nil => exact .nil
  | cons a b ih => exact .cons a ih
section
variable {X : Cx} {params : Arguments} {body : Expr} {scope : Scope} {x : Str} {Item : Hp → V → PyData → Prop} {p pos lpos kp : Pos} {e : Expr} {te : TE} {c P : Addr}
theorem pe_sortK (hg : Gl X "sorted") (hm : X.mg "sorted" = none) (he : PE X e te) (hcm : X.calm = true) (hr : Room 1 X.A) (TB : TabB X.base X.mg c P) (hcode : X.env.code = .ref c)
    (hmT : (P, X.env.qual ++ "<lambda>") ∈ TL.lt) (hu : ∀ p ∈ TL.lt, p.1 = P → p.2 = X.env.qual ++ "<lambda>") (KL : KeyLam X.prog X.w X.K X.mg X.base params body scope x Item)
    (he1 : backTo pos (starEach [e] X.env) = (false, eval e X.env) :: backTo pos (starEach [] X.env) := by rfl) (hpl : (backTo pos (starEach [e] X.env)).any (·.1) = false := by rfl) :
    PE X (.Call (.Name "sorted" p) [e] [⟨some "key", .Lambda params body scope lpos, kp⟩] pos) (tSortK Item te) := by
  refine ⟨fun pins s σ H Q I h => ?_⟩
  refine wpAny_Call_Name_kw (ld_blt I hg hm boot_sorted ?_)
  refine PyProof.Rows.callWith_kw ?_ he1 hpl
  rw [he1]
  refine Calls.spliced_cons (thn (he.run pins s σ H _ I h) fun u s1 ⟨y, H1, I1, r1, a, xs, k, ex, hq, hT, hl, hit, hal, hsb, q⟩ => ?_)
  subst ex
  cases r1
  refine Calls.spliced_nil ?_
  refine kws_cons (lam_make3 I1 TB hcode hmT hu hT (KL.hdef _) KL.nofree fun f c' pm ctv H2 s2 I2 hG hT2 hf hco => ?_)
  refine kws_nil ?_
  show wpAny _ _ (call (.builtin "sorted") [.ref a] [(Str.ofString "key", .ref f)]) _ _ s2
  have hq2 : H2 a = some (.lst xs) := hG.1 a _ hq fun _ z => nomatch z
  obtain ⟨hz, its, n, rv, hg2⟩ := (show ObjOk X.prog X.w H2 s2.heap a (.lst xs) from I2.hok a _ hq2)
  obtain ⟨⟨oc, vs, t, hoc, hdc, hvc⟩, _, _⟩ := I2.hok c' _ hco
  have hraw : ∀ (v : Value) (y : V), y ∈ xs → RelV y v → KL.raw s2.heap v (k y) := fun v y hy r => KL.of I2.hok r (KL.ext (hit y hy).1 hG.1)
  refine PySem.W.sorted_key_data (b := false) (R := fun v y => RelV y v ∧ KL.raw s2.heap v (k y)) k ⟨_, hg2, rfl, n, rfl⟩ (vals_each _ rv fun v y hy r => ⟨r, hraw v y hy r⟩) hal hsb hz (fun y hy => ?_) (ksk_s1 _ _) (fun _ => ksk_l1 _ _) (fun _ => ksk_t1 _ _)
    (fun v y hR hy h tk kp => ?_) fun out cc h' tk kp hn hD hlen eo => ?_
  · have := (hit y hy).2
    have := hr.un
    omega
  · exact lam_call1 KL I2.ok.mod (s := { s2 with heap := h, toks := tk }) (kp _ _ hf) ⟨c', oc, vs, t, rfl, kp _ _ hoc, hdc, hvc⟩ (by have := hr.dp; show X.A.depth < _; omega) (I2.ok.hd hcm) (fun b o e => kp b o (I2.bk b o e)) (I2.nolimit.keeps kp) (KL.mono kp hR.2)
  · have rv2 : Vals (xs.mergeSort (PySem.W.dataLe false k)) out := each_vals (eo.mono fun _ _ z => z.1)
    have nH : H2 (s2.heap.objs.size + 1) = none := I2.hok.fresh (Nat.le_succ _)
    refine ⟨.ref (s2.heap.objs.size + 1), upd H2 (s2.heap.objs.size + 1) (.lst (xs.mergeSort (PySem.W.dataLe false k))), I2.laid (t' := tk) kp (Nat.le_succ _) ⟨by rw [List.length_mergeSort]; exact hz, out, cc, rv2, hD⟩, rfl, q H2 hG hT2 _ nH⟩
end
end Sw
end
section
set_option maxRecDepth 100000
namespace Sw
open PySem PySem.Spec PyProof.Rows L2 LamX
variable [TL]
theorem seqIx {i n : Nat} (h : i < n) (hb : i < 2 ^ 62) : seqIndex? (i : Int) n = some i := by
  unfold seqIndex?
  simp only [if_neg (by omega : ¬ (i : Int) < 0)]
  rw [if_pos (by simp; omega), Int.toNat_natCast]
section
variable {prog : Program} {w : World} {A : Around} {E : Value → Shared → Prop} {s : Shared} {env : Env}
/-- x[i], x a local tuple -/
theorem raw_ix {x : Str} {m : Str → Option Value} {t : Addr} {its : Array Value} {i : Nat} {z : Value} {k : Nat} {p1 p2 p3 : Pos} {Q : Value → Shared → Prop} (hk : env.scope.kind = .function) (hl : env.kindOf x = some .local) (hn : s.heap.Ns env.locals m) (hm : m x = some (.ref t))
    (ht : IsTup s.heap t its) (hz : its[i]? = some z) (hb : i < 2 ^ 62) (q : Q z { s with toks := s.toks + 1 }) (hd : (x == ("__debug__" : Str)) = false)
    (hs : ∀ u, subscripted (.Constant (.int (i : Int)) k p2) false (.ref t) (.int (i : Int) u) = operate [.ref t, .int (i : Int) u] (getItem (.ref t) (.int (i : Int) u))) : wpAny (model prog w) A (eval (.Subscript (.Name x p1) (.Constant (.int (i : Int)) k p2) p3) env) Q E s := by
  have hi : i < its.size := (Array.getElem?_eq_some_iff.mp hz).1
  refine Subscript_ (wpAny_Name (wpAny_loadName_local hk hl hn hm (wpAny_Constant_int ?_)) hd)
  exact subscriptTail_builtinR (x := z) (s := { s with toks := s.toks + 1 }) (IsTup.typeIs (s := { s with toks := s.toks + 1 }) ht) slot_tuple_getitem.lookup
    (getItem_tuple (s := { s with toks := s.toks + 1 }) (j := i) (Q := fun r s' => r = z ∧ Q r s') ht (by omega) (by omega) (seqIx hi hb) hz ⟨rfl, q⟩) (hs _)
end
def Item0 (H : Hp) (v : V) (d : PyData) : Prop := ∃ t n r, v = .ref t ∧ H t = some (.tup (.int n :: r)) ∧ d = .int n
def Item2 (H : Hp) (v : V) (d : PyData) : Prop := ∃ t i j z, v = .ref t ∧ H t = some (.tup [.int i, .int j, z]) ∧ ((∃ n : Int, z = .int n ∧ n.natAbs.log2 < 1920 ∧ d = .tuple [.int i, .int j, .str (toString n)]) ∨ ∃ y, z = .str y ∧ d = .tuple [.int i, .int j, .str y])
section
variable {prog : Program} {w : World} {K : PySem.W.Frag} {mg : Str → Option Value} {base : Heap} {params : Arguments} {scope : Scope} {x : Str}
structure LamSc (params : Arguments) (scope : Scope) (x : Str) : Prop where
  nofree : ∀ y ∈ scope.names, y.2 ≠ .free
  nocell : ∀ y ∈ scope.names, y.2 ≠ .cell
  loc : scope.names.lookup x = some .local
  kind : scope.kind = .function
  co : scope.isCoroutine = false
  gen : scope.isGenerator = false
  hdef : ∀ env, defaultsOf params env = ([], [])
  hd : (x == ("__debug__" : Str)) = false
theorem look1 (x : Str) (u : Value) : ([(x, u)].reverse.lookup x) = some u := by simp
def keyLam0 {k : Nat} {p1 p2 p3 : Pos} (S : LamSc params scope x) (hb : ∀ (q : Str) (cl : List (Str × Addr)) (pm cv ctv u : Value), bindArgs (PySem.W.kla_fn "<lambda>" q params (.Subscript (.Name x p1) (.Constant (.int 0) k p2) p3) scope cl pm cv ctv) ⟨[u], []⟩ = pure [(x, u)]) : KeyLam prog w K mg base params (.Subscript (.Name x p1) (.Constant (.int 0) k p2) p3) scope x Item0 where
  raw := fun h u d => ∃ (t : Addr) (its : Array Value) (n : Int) (tk : Tok), u = .ref t ∧ IsTup h t its ∧ its[0]? = some (.int n tk) ∧ d = .int n
  mono := fun k ⟨t, its, n, tk, e, h, r⟩ => ⟨t, its, n, tk, e, h.keeps k, r⟩
  ext := fun ⟨t, n, r, e1, e2, e3⟩ g => ⟨t, n, r, e1, g _ _ e2 (fun _ z => nomatch z), e3⟩
  of := fun {H h v u d} ok r ⟨t, n, rs, e1, e2, e3⟩ => by
    subst e1
    cases r
    obtain ⟨_, its, rv, tp⟩ := (show ObjOk prog w H h t (.tup (.int n :: rs)) from ok t _ e2)
    obtain ⟨z, hz, tk, rfl⟩ := rv.get (i := 0) rfl
    exact ⟨t, its.toArray, n, tk, rfl, tp, by simpa using hz, e3⟩
  nofree := S.nofree
  nocell := S.nocell
  loc := S.loc
  kind := S.kind
  co := S.co
  gen := S.gen
  hdef := S.hdef
  bind := hb
  run := fun A s q L f cv cl u d E M hh hbs hn hr => by
    obtain ⟨t, its, n, tk, rfl, tp, hz, rfl⟩ := hr
    exact raw_ix (i := 0) (z := .int n tk) S.kind S.loc hn (look1 x _) tp hz (by decide) ⟨s.heap, s.toks + 1, rfl, fun _ _ e => e, .int n tk⟩ S.hd fun u => by with_unfolding_all rfl
theorem str_key {prog : Program} {w : World} {A : Around} {E : Value → Shared → Prop} {s : Shared} {z : Value} {y : Str} {Q : Value → Shared → Prop} (h : (∃ (n : Int) (tk : Tok), z = .int n tk ∧ n.natAbs.log2 < 1920 ∧ y = toString n) ∨ ∃ tk, z = .str y tk) (q : ∀ tk' tk2, Q (.str y tk') { s with toks := tk2 }) : wpAny (model prog w) A (call (.type "str") [z]) Q E s := by
  rcases h with ⟨n, tk, rfl, hn, rfl⟩ | ⟨tk, rfl⟩
  · exact PySem.P.str_of_int hn (q _ _)
  · exact PySem.P.str_of_str (q tk s.toks)
def keyLam2 {k0 k1 k2 kt : Nat} {a0 b0 c0 a1 b1 c1 a2 b2 c2 ps pc pt : Pos} (hm : mg "str" = none) (hgl : scope.names.lookup ("str" : Str) = some NameKind.globalImplicit) (S : LamSc params scope x)
    (hb : ∀ (q : Str) (cl : List (Str × Addr)) (pm cv ctv u : Value), bindArgs (PySem.W.kla_fn "<lambda>" q params (.Tuple [.Subscript (.Name x a0) (.Constant (.int 0) k0 b0) c0, .Subscript (.Name x a1) (.Constant (.int 1) k1 b1) c1, .Call (.Name "str" ps) [.Subscript (.Name x a2) (.Constant (.int 2) k2 b2) c2] [] pc] kt pt) scope cl pm cv ctv) ⟨[u], []⟩ = pure [(x, u)]) :
    KeyLam prog w K mg base params (.Tuple [.Subscript (.Name x a0) (.Constant (.int 0) k0 b0) c0, .Subscript (.Name x a1) (.Constant (.int 1) k1 b1) c1, .Call (.Name "str" ps) [.Subscript (.Name x a2) (.Constant (.int 2) k2 b2) c2] [] pc] kt pt) scope x Item2 where
  raw := fun h u d => ∃ (t : Addr) (its : Array Value) (i j : Int) (ti tj : Tok) (z : Value) (y : Str), u = .ref t ∧ IsTup h t its ∧ its[0]? = some (.int i ti) ∧ its[1]? = some (.int j tj) ∧ its[2]? = some z ∧ ((∃ (n : Int) (tk : Tok), z = .int n tk ∧ n.natAbs.log2 < 1920 ∧ y = toString n) ∨ ∃ tk, z = .str y tk) ∧ d = .tuple [.int i, .int j, .str y]
  mono := fun k ⟨t, its, i, j, ti, tj, z, y, e, h, r⟩ => ⟨t, its, i, j, ti, tj, z, y, e, h.keeps k, r⟩
  ext := fun ⟨t, i, j, z, e1, e2, e3⟩ g => ⟨t, i, j, z, e1, g _ _ e2 (fun _ z => nomatch z), e3⟩
  of := fun {H h v u d} ok r ⟨t, i, j, z, e1, e2, e3⟩ => by
    subst e1
    cases r
    obtain ⟨_, its, rv, tp⟩ := (show ObjOk prog w H h t (.tup [.int i, .int j, z]) from ok t _ e2)
    obtain ⟨z0, h0, t0, rfl⟩ := rv.get (i := 0) rfl
    obtain ⟨z1, h1, t1, rfl⟩ := rv.get (i := 1) rfl
    obtain ⟨z2, h2, r2⟩ := rv.get (i := 2) rfl
    rcases e3 with ⟨n, rfl, hn, rfl⟩ | ⟨y, rfl, rfl⟩
    · obtain ⟨t2, rfl⟩ := r2
      exact ⟨t, its.toArray, i, j, t0, t1, _, _, rfl, tp, by simpa using h0, by simpa using h1, by simpa using h2, .inl ⟨n, t2, rfl, hn, rfl⟩, rfl⟩
    · obtain ⟨t2, rfl⟩ := r2
      exact ⟨t, its.toArray, i, j, t0, t1, _, _, rfl, tp, by simpa using h0, by simpa using h1, by simpa using h2, .inr ⟨t2, rfl⟩, rfl⟩
  nofree := S.nofree
  nocell := S.nocell
  loc := S.loc
  kind := S.kind
  co := S.co
  gen := S.gen
  hdef := S.hdef
  bind := hb
  run := fun A s q L f cv cl u d E M hh hbs hn hr => by
    obtain ⟨t, its, i, j, ti, tj, z, y, rfl, tp, h0, h1, h2, hz, rfl⟩ := hr
    obtain ⟨mb, m1, m2⟩ := M.blt
    refine wpAny_Tuple_spliced (args_cons ?_)
    refine raw_ix (i := 0) (z := .int i ti) S.kind S.loc hn (look1 x _) tp h0 (by decide) ?_ S.hd fun u => by with_unfolding_all rfl
    refine args_cons ?_
    refine raw_ix (i := 1) (z := .int j tj) (s := { s with toks := s.toks + 1 }) S.kind S.loc hn (look1 x _) tp h1 (by decide) ?_ S.hd fun u => by with_unfolding_all rfl
    refine args_cons (Call_ (Calls.Name_function_global S.kind hgl (Calls.loadGlobal_builtin (M.glob.keeps hbs) hm (m1.keeps hbs) ((m2 _ (by decide)).trans PyProof.Rows.boot_str) (PyProof.Rows.callWith_type1 (args_cons ?_)))))
    refine raw_ix (i := 2) (z := z) (s := { s with toks := s.toks + 1 + 1 }) S.kind S.loc hn (look1 x _) tp h2 (by decide) ?_ S.hd fun u => by with_unfolding_all rfl
    refine args_nil (str_key hz fun tk' tk2 => args_nil ?_)
    refine ⟨by show 3 ≤ sizeLine; decide, s.heap.push { cls := .type "tuple", data := .seq #[.int i ti, .int j tj, .str y tk'] }, tk2, rfl, fun b o e => Heap.get?_push_of_some _ e, ?_⟩
    exact .tuple (Heap.get?_push_size _ rfl) rfl rfl (.cons (.int _ _) (.cons (.int _ _) (.cons (.str _ _) .nil)))
end
end Sw
end
section
set_option maxRecDepth 100000
namespace Sw
open PySem L2
variable [TL]
def LockEnd (d : Addr) (od : Obj) (u : HO) (Q : VK) : VK := fun v H' => H' d = some (.frz od u) ∧ Q v (upd H' d u)
def LkM (M : Addr → Prop) (H0 : Hp) (d : Addr) : Addr → Prop := fun b => b = d ∨ M b ∨ H0 b = none
section
variable {M : Addr → Prop} {D : Option Dr} {G0 H0 G H G' H' Gd H1 : Hp} {L L' : List (Addr × HO)} {d : Addr} {od : Obj} {u : HO} {Q : VK} {σ : L2.St} {te : TE} {i : Nat}
theorem frz_pln (od : Obj) (u : HO) : Pln (.frz od u) := ⟨fun _ z => (nomatch z), fun _ z => (nomatch z)⟩
/-- one's own -/
theorem xs_lockO (S : Sta M D G0 H0 G H L) (i : Nat) (hi : L[i]? = some (d, u)) (hm : Mut (some u)) (h : ∀ od H', Sta M D G0 H0 G H' (L.set i (d, .frz od u)) → te σ H' (LockEnd d od u Q)) : tLockE te σ H Q :=
  ⟨d, u, S.at hi, hm, fun od => h od _ (S.set hi (frz_pln od u))⟩
theorem lock_endO {v : V} (S : Sta M D G0 H0 G H L) (i : Nat) (hi : L[i]? = some (d, .frz od u)) (hp : Pln u) (q : ∀ H', Sta M D G0 H0 G H' (L.set i (d, u)) → Q v H') : LockEnd d od u Q v H := ⟨S.at hi, q _ (S.set hi hp)⟩
/-- what stays -/
theorem lock_in (S : Sta M D G0 H0 G H L) (hg : G d = some u) (hp : Pln u) (od : Obj) : Sta (LkM M H0 d) D (fun b => if b = d then none else G b) (upd H d (.frz od u)) (fun b => if b = d then none else G b) (upd H d (.frz od u)) ((d, .frz od u) :: L) := by
  have hH := S.isin hg
  have nd : ∀ x ∈ L, x.1 ≠ d := fun x hx z => by
    have := (S.own x hx).2.1
    rw [z, hg] at this
    cases this
  refine ⟨.refl fun b o e => ?_, fun x hx => ?_, ?_, fun D' e => ?_⟩
  · by_cases h : b = d
    · rw [if_pos h] at e; cases e
    · rw [if_neg h] at e
      rw [upd_ne h]
      exact S.inn b o e
  · rcases List.mem_cons.mp hx with rfl | hx
    · exact ⟨upd_same, if_pos rfl, .inl (.inl rfl), frz_pln od u⟩
    · obtain ⟨a, b, c, e⟩ := S.own x hx
      exact ⟨by rw [upd_ne (nd x hx)]; exact a, by rw [if_neg (nd x hx)]; exact b, .inl (.inr c), e⟩
  · rw [List.map_cons, List.nodup_cons]
    refine ⟨fun z => ?_, S.nd⟩
    obtain ⟨x, hx, e⟩ := List.mem_map.mp z
    exact nd x hx e
  · obtain ⟨a, b, c, f⟩ := S.dr D' e
    have hd : ¬ D'.has d := fun z => by have := b d z; rw [hg] at this; cases this
    refine ⟨a.upd hd, fun p hp => ?_, fun p hp => .inr (.inl (c p hp)), fun x hx => ?_⟩
    · show (if p = d then none else G p) = none
      split
      · rfl
      · exact b p hp
    · rcases List.mem_cons.mp hx with rfl | hx
      · exact hd
      · exact f x hx
theorem lock_out (S : Sta M D G0 H0 G H L) (hg : G d = some u) (hp : Pln u) (S' : Sta (LkM M H0 d) D (fun b => if b = d then none else G b) (upd H d (.frz od u)) G' H' L') (hi : L'[i]? = some (d, .frz od u)) : Sta M D G0 H0 (upd G' d u) (upd H' d u) (L'.eraseIdx i) := by
  have hH := S.isin hg
  obtain ⟨w1, w2, _, _⟩ := S'.own _ (List.mem_of_getElem? hi)
  have sG : Sub G (upd G' d u) := fun b o e => by
    by_cases h : b = d
    · subst h
      rw [upd_same]
      rw [hg] at e
      exact e
    · rw [upd_ne h]
      exact S'.go.sub b o (by rw [if_neg h]; exact e)
  have hne : ∀ x ∈ L'.eraseIdx i, x.1 ≠ d := fun x hx z => by
    obtain ⟨j, hj⟩ := List.getElem?_of_mem hx
    rw [List.getElem?_eraseIdx] at hj
    by_cases q : j < i
    · rw [if_pos q] at hj
      have := nd_get S'.nd hi (j := j) (u := x.2) (by rw [hj, ← z])
      omega
    · rw [if_neg q] at hj
      have := nd_get S'.nd hi (j := j + 1) (u := x.2) (by rw [hj, ← z])
      omega
  have old : ∀ b, upd H d (.frz od u) b = none → H0 b = none := fun b e => by
    have hb : b ≠ d := fun z => by rw [z, upd_same] at e; cases e
    rw [upd_ne hb] at e
    cases h : H0 b with
    | none => rfl
    | some o => exact absurd e (S.go.dm b (by rw [h]; exact fun z => (nomatch z)))
  refine ⟨⟨S.go.sub.tr sG, fun b o e => ?_, fun b o e n t => ?_, fun b e g => ?_, fun b e => ?_, fun t => ?_, fun b ps e => ?_⟩, fun x hx => ?_, (S'.drop i).nd, fun D' e => ?_⟩
  · by_cases h : b = d
    · subst h
      rw [upd_same] at e ⊢
      exact e
    · rw [upd_ne h] at e ⊢
      exact S'.inn b o e
  · have e1 := S.go.fr b o e n t
    by_cases h : b = d
    · subst h
      rw [upd_same]
      rw [hH] at e1
      exact e1
    · rw [upd_ne h]
      refine S'.go.fr b o (by rw [upd_ne h]; exact e1) ?_ t
      rintro (z | z | z)
      · exact h z
      · exact n z
      · rw [z] at e; cases e
  · have g1 := S.go.nw b e g
    have h : b ≠ d := fun z => by rw [z, hg] at g1; cases g1
    rw [upd_ne h]
    refine S'.go.nw b ?_ (by rw [if_neg h]; exact g1)
    rw [upd_ne h]
    exact S.go.dm b e
  · by_cases h : b = d
    · subst h
      rw [upd_same]
      exact fun z => (nomatch z)
    · rw [upd_ne h]
      refine S'.go.dm b ?_
      rw [upd_ne h]
      exact S.go.dm b e
  · exact tabs_mut w1 (frz_pln od u).1 (frz_pln od u).2 (S'.go.tb (tabs_mut hH hp.1 hp.2 (S.go.tb t)))
  · refine S.go.nt b ps ?_
    by_cases h : b = d
    · subst h
      rw [upd_same] at e
      exact absurd (Option.some.inj e) (hp.1 ps)
    · rw [upd_ne h] at e
      have e := S'.go.nt b ps e
      rw [if_neg h] at e
      exact e
  · have hx' := (List.eraseIdx_sublist L' i).subset hx
    obtain ⟨a, b, c, e⟩ := S'.own x hx'
    have n := hne x hx
    refine ⟨by rw [upd_ne n]; exact a, by rw [upd_ne n]; exact b, ?_, e⟩
    rcases c with (z | z | z) | z
    · exact absurd z n
    · exact .inl z
    · exact .inr z
    · exact .inr (old _ z)
  · obtain ⟨a, b, c, f⟩ := S'.dr D' e
    obtain ⟨_, _, c', _⟩ := S.dr D' e
    have hd : ¬ D'.has d := fun z => by have := (S.dr D' e).2.1 d z; rw [hg] at this; cases this
    exact ⟨a.upd hd, fun p hp => by rw [upd_ne fun z => hd (by rw [← z]; exact hp)]; exact b p hp, c', fun x hx => f x ((List.eraseIdx_sublist L' i).subset hx)⟩
theorem xs_lockG (S : Sta M D G0 H0 G H L) (hg : G d = some u) (hm : Mut (some u)) (hp : Pln u) (h : ∀ od Gd H1, Sta (LkM M H0 d) D Gd H1 Gd H1 ((d, .frz od u) :: L) → (∀ b o, b ≠ d → G b = some o → Gd b = some o) →
    (∀ v G' H' L' i, Sta (LkM M H0 d) D Gd H1 G' H' L' → L'[i]? = some (d, .frz od u) → (∀ G'' H'', Sub G' G'' → Sub G G'' → Sta M D G0 H0 G'' H'' (L'.eraseIdx i) → Q v H'') → LockEnd d od u Q v H') → te σ H1 (LockEnd d od u Q)) : tLockE te σ H Q := by
  refine ⟨d, u, S.isin hg, hm, fun od => h od _ _ (lock_in S hg hp od) (fun b o n e => by show (if b = d then none else G b) = _; rw [if_neg n]; exact e) fun v G' H' L' i S' hi q => ?_⟩
  have o := lock_out S hg hp S' hi
  refine ⟨S'.at hi, q _ _ (Sub.new (S'.off hi)) (fun b x e => ?_) o⟩
  by_cases h : b = d
  · subst h
    rw [upd_same]
    rw [hg] at e
    exact e
  · rw [upd_ne h]
    exact S'.go.sub b x (by rw [if_neg h]; exact e)
end
end Sw
end
section
set_option maxRecDepth 100000
namespace Sw
open PySem PySem.Spec PyProof.Rows L2
variable [TL]
def rSrtTS (K : PySem.W.Frag) : List V → Hp → VK → Prop := fun vs H Q => ∃ (b : Addr) (zs : List Str), vs = [.ref b] ∧ SqT K H b (zs.map V.str) ∧ zs.length < 64 ∧ ∀ ys : List Str, ys.Perm zs → New Q (.lst (ys.map V.str)) H
section
variable {X : Cx}
theorem k_srtST : CallR X (.builtin "sorted") (rSrtTS X.K) := by
  intro pins s σ H vs us Q I rel h
  obtain ⟨b, zs, rfl, ht, small, q⟩ := h
  obtain ⟨its, rv, ⟨o, ho, hc, n, hd⟩, hz⟩ := I.tuple ht
  rw [Vals.ref1 rel]
  have hS : StrsAre its zs := rv.strs
  have hn : its.length = zs.length := by rw [← rv.length, List.length_map]
  have fits : its.length ≤ sizeLine := by rw [hn]; exact small64 small
  refine Calls.call_function_entry kind_sorted plain_sorted entry_sorted (args_sorted1 _) ?_
  unfold Builtin.«sorted»
  refine wpAny_bind (m := checkCount "sorted" 1 1 _) (wpAny_pure ?_)
  refine wpAny_bind (wpAny_collect_seq b (.inr rfl) ho hc hd (fun g hg => ?_) (by rw [List.size_toArray]; exact fits))
  rw [show its.toArray.toList = its by simp]
  have J : Inv X pins σ H { s with heap := g } := I.kept (t' := s.toks) hg
  refine wpAny_bind (wpAny_newList ?_ fits)
  have at_ : (g.push (seqObj "list" its.toArray 0)).get? g.objs.size = some (seqObj "list" its.toArray 0) := Heap.get?_push_size _ rfl
  show wpAny _ _ _ _ _ { s with heap := g.push (seqObj "list" its.toArray 0) }
  refine wpAny_bind (wpAny_holding (wpAny_call_entry slot_list_sort ⟨_, at_, rfl⟩ entry_list_sort
    (list_sort_treeK strKind_oneLt (s := { s with heap := g.push (seqObj "list" its.toArray 0) }) at_ hS.keysOf (fun v₁ v₂ rest e => keyKind_strs (by rw [← e]; exact hS)) (by rw [hn]; exact small) fun fin hp hs => ⟨_, rfl, ?_⟩)
    (args_list_sort _)))
  obtain ⟨ys, y1, y2, _⟩ := sorted_out_str hS hp hs
  obtain ⟨e', he'⟩ := sortedHeap_at (vs := its) (out := (arrOf fin).map (·.2)) at_
  have fits' : (ys.map V.str).length ≤ sizeLine := by rw [List.length_map, y2.length_eq]; exact small64 small
  refine wpAny_pure ⟨_, rfl, .ref g.objs.size, upd H g.objs.size (.lst (ys.map V.str)), J.laid (t' := s.toks) (fun c u e => ?_) (Nat.le_refl _)
    (show ObjOk X.prog X.w _ _ _ (.lst (ys.map V.str)) from ⟨fits', ((arrOf fin).map (·.2)).toList, e', vals_of_strs y1, by rw [Array.toArray_toList]; exact he'⟩), rfl, q ys y2 _ (J.hok.fresh (Nat.le_refl _))⟩
  have hlt : c < g.objs.size := Heap.lt_size e
  rw [sortedHeap_old (Nat.ne_of_lt hlt) (by rw [size_push']; exact Nat.lt_succ_of_lt hlt)]
  exact Heap.get?_push_of_some _ e
theorem y_srtST {K : PySem.W.Frag} (hK : X.K = K) : CallR X (.builtin "sorted") (rSrtTS K) := by subst hK; exact k_srtST
end
theorem ls_sortedST {K : PySem.W.Frag} {b : Addr} {zs : List Str} {H : Hp} {Q : VK} (h : H b = some (.tup (zs.map V.str))) (small : zs.length < 64) (q : ∀ ys : List Str, ys.Perm zs → New Q (.lst (ys.map V.str)) H) : rSrtTS K [.ref b] H Q := ⟨b, zs, rfl, SqT.of h, small, q⟩
end Sw
end
section
set_option autoImplicit false
namespace Sh
section
variable {α : Type} [DecidableEq α] {E : List (Con α)} {x : α} {p : α → Int} {N : List α}
theorem fold_sound : ∀ (l : List (Con α)) (s : FSt α), (∀ e ∈ l, e ∈ E) → SoundFrom E x s.1 → SoundFrom E x (l.foldl fstep s).1
  | [], _, _, h => h
  | e :: l, s, hl, h => fold_sound l (fstep s e) (fun a ha => hl a (List.mem_cons_of_mem _ ha)) (fstep_sound (hl e List.mem_cons_self) h)
theorem fold_idle {f : α → Option Int} : ∀ (l pre : List (Con α)) (s : FSt α), FIdle f pre s → FIdle f (pre ++ l) (l.foldl fstep s)
  | [], pre, s, h => by rw [List.append_nil]; exact h
  | e :: l, pre, s, h => by
    have := fold_idle l (pre ++ [e]) (fstep s e) (h.step e)
    rw [List.append_assoc] at this
    exact this
theorem fold_down (hp : Runs E p) (hN : ∀ e ∈ E, e.1.2 ∈ N) {f : α → Option Int} : ∀ (l : List (Con α)) (s : FSt α), (∀ e ∈ l, e ∈ E) → SoundFrom E x s.1 → FDown (fun n => p n - p x) N f s → FDown (fun n => p n - p x) N f (l.foldl fstep s)
  | [], _, _, _, h => h
  | e :: l, s, hl, hs, h => fold_down hp hN l (fstep s e) (fun a ha => hl a (List.mem_cons_of_mem _ ha)) (fstep_sound (hl e List.mem_cons_self) hs) (fdown_step hp hN (hl e List.mem_cons_self) hs h)
theorem fpass_sound {f : α → Option Int} (h : SoundFrom E x f) : SoundFrom E x (fpass E f).1 := fold_sound E (f, true) (fun _ h => h) h
theorem fpass_idle (E : List (Con α)) (f : α → Option Int) : FIdle f E (fpass E f) := by
  have := fold_idle E [] (f, true) (FIdle.start f)
  rw [List.nil_append] at this
  exact this
theorem fpass_down (hp : Runs E p) (hN : ∀ e ∈ E, e.1.2 ∈ N) {f : α → Option Int} (h : SoundFrom E x f) : FDown (fun n => p n - p x) N f (fpass E f) :=
  fold_down hp hN E (f, true) (fun _ h => h) h ⟨FLe.refl f, fun h => (nomatch h), fun _ => rfl⟩
theorem fseq_sound {f : α → Option Int} (h : SoundFrom E x f) : ∀ k, SoundFrom E x (fseq E f k)
  | 0 => h
  | k + 1 => fpass_sound (fseq_sound h k)
theorem fseq_shift (E : List (Con α)) (f : α → Option Int) : ∀ k, fseq E (fpass E f).1 k = fseq E f (k + 1)
  | 0 => rfl
  | k + 1 => by
    show (fpass E (fseq E (fpass E f).1 k)).1 = (fpass E (fseq E f (k + 1))).1
    rw [fseq_shift E f k]
theorem far_ends (hp : Runs E p) (hN : ∀ e ∈ E, e.1.2 ∈ N) : ∀ (a b : Nat) (f : α → Option Int), SoundFrom E x f → fmiss f N ≤ a → fover (fun n => p n - p x) f N ≤ b → ∃ k, (fpass E (fseq E f k)).2 = true := by
  intro a
  induction a with
  | zero =>
    intro b
    induction b with
    | zero =>
      intro f hs h1 h2
      cases e : (fpass E f).2 with
      | true => exact ⟨0, e⟩
      | false =>
        have := (fpass_down hp hN hs).2.1 e
        omega
    | succ b ih =>
      intro f hs h1 h2
      cases e : (fpass E f).2 with
      | true => exact ⟨0, e⟩
      | false =>
        have := (fpass_down hp hN hs).2.1 e
        obtain ⟨k, hk⟩ := ih (fpass E f).1 (fpass_sound hs) (by omega) (by omega)
        rw [fseq_shift] at hk
        exact ⟨k + 1, hk⟩
  | succ a iha =>
    intro b
    induction b with
    | zero =>
      intro f hs h1 h2
      cases e : (fpass E f).2 with
      | true => exact ⟨0, e⟩
      | false =>
        have := (fpass_down hp hN hs).2.1 e
        obtain ⟨k, hk⟩ := iha (fover (fun n => p n - p x) (fpass E f).1 N) (fpass E f).1 (fpass_sound hs) (by omega) (Nat.le_refl _)
        rw [fseq_shift] at hk
        exact ⟨k + 1, hk⟩
    | succ b ih =>
      intro f hs h1 h2
      cases e : (fpass E f).2 with
      | true => exact ⟨0, e⟩
      | false =>
        have hd := (fpass_down hp hN hs).2.1 e
        rcases hd with hd | hd
        · obtain ⟨k, hk⟩ := iha (fover (fun n => p n - p x) (fpass E f).1 N) (fpass E f).1 (fpass_sound hs) (by omega) (Nat.le_refl _)
          rw [fseq_shift] at hk
          exact ⟨k + 1, hk⟩
        · obtain ⟨k, hk⟩ := ih (fpass E f).1 (fpass_sound hs) (by omega) (by omega)
          rw [fseq_shift] at hk
          exact ⟨k + 1, hk⟩
theorem fstart_sound (x : α) : SoundFrom E x (fstart x) := fun t _ n d h => by
  unfold fstart at h
  by_cases e : n = x
  · rw [if_pos e] at h
    cases h
    rw [e]
    omega
  · rw [if_neg e] at h
    cases h
/-- what stands when a pass has changed nothing -/
structure Far (E : List (Con α)) (x : α) (f : α → Option Int) : Prop where
  zero : f x = some 0
  closed : ClosedFrom E f
  sound : SoundFrom E x f
theorem fle_zero (hp : Runs E p) {f : α → Option Int} (h : SoundFrom E x f) (hl : FLe (fstart x) f) : f x = some 0 := by
  obtain ⟨d, e, hd⟩ := hl x 0 (if_pos rfl)
  have := h p hp x d e
  rw [e]
  congr 1
  omega
theorem fseq_le (E : List (Con α)) (hp : Runs E p) (f : α → Option Int) (h : SoundFrom E x f) : ∀ k, FLe f (fseq E f k)
  | 0 => FLe.refl f
  | k + 1 => (fseq_le E hp f h k).trans (fpass_down (N := E.map fun e => e.1.2) hp (fun e he => List.mem_map.mpr ⟨e, he, rfl⟩) (fseq_sound h k)).1
theorem far_done (hp : Runs E p) {k : Nat} (h : (fpass E (fseq E (fstart x) k)).2 = true) : Far E x (fseq E (fstart x) (k + 1)) := by
  have id := fpass_idle E (fseq E (fstart x) k)
  have hs : (fseq E (fstart x) (k + 1)) = fseq E (fstart x) k := id.same h
  refine ⟨fle_zero hp (fseq_sound (fstart_sound x) _) (fseq_le E hp _ (fstart_sound x) _), fun e he d hd => ?_, fseq_sound (fstart_sound x) _⟩
  rw [hs] at hd ⊢
  exact id.ok h e he d hd
theorem far_stops (hp : Runs E p) (x : α) : ∃ k, (fpass E (fseq E (fstart x) k)).2 = true :=
  far_ends (N := E.map fun e => e.1.2) hp (fun e he => List.mem_map.mpr ⟨e, he, rfl⟩) _ _ (fstart x) (fstart_sound x) (Nat.le_refl _) (Nat.le_refl _)
end
end Sh
end
section
set_option maxRecDepth 100000
set_option maxHeartbeats 1000000
namespace Sw
open PySem L2
local macro_rules | `(tactic| fail "gp") => `(tactic| (refine Sub.to (by with_reducible assumption) ?_; fail "gp"))
local macro_rules | `(tactic| fail "gp") => `(tactic| with_reducible assumption)
local macro_rules | `(tactic| fail "hp") => `(tactic| (refine Sta.at (i := 4) (by with_reducible assumption) ?_; with_unfolding_all exact rfl))
local macro_rules | `(tactic| fail "hp") => `(tactic| (refine Sta.at (i := 3) (by with_reducible assumption) ?_; with_unfolding_all exact rfl))
local macro_rules | `(tactic| fail "hp") => `(tactic| (refine Sta.at (i := 2) (by with_reducible assumption) ?_; with_unfolding_all exact rfl))
local macro_rules | `(tactic| fail "hp") => `(tactic| (refine Sta.at (i := 1) (by with_reducible assumption) ?_; with_unfolding_all exact rfl))
local macro_rules | `(tactic| fail "hp") => `(tactic| (refine Sta.at (i := 0) (by with_reducible assumption) ?_; with_unfolding_all exact rfl))
local macro_rules | `(tactic| fail "hp") => `(tactic| (refine Sta.isin (by with_reducible assumption) ?_; fail "gp"))
local macro_rules | `(tactic| fail "hp") => `(tactic| with_reducible assumption)
local macro_rules | `(tactic| fail "sb") => `(tactic| (refine Sub.tr ?_ (by with_reducible assumption); fail "sb"))
local macro_rules | `(tactic| fail "sb") => `(tactic| with_reducible assumption)
local macro_rules | `(tactic| fail "sb") => `(tactic| exact Sub.rfl' _)
local macro_rules | `(tactic| fail "rp") => `(tactic| (refine RepL.mono ?_ _ (by with_reducible assumption); fail "sb"))
local macro_rules | `(tactic| fail "rp") => `(tactic| (refine Rep.mono ?_ _ (by with_reducible assumption); fail "sb"))
local macro_rules | `(tactic| fail "rp") => `(tactic| with_reducible assumption)
local macro_rules | `(tactic| fail "cd") => `(tactic| (show (0 : Int) < _; omega))
local macro_rules | `(tactic| fail "cd") => `(tactic| exact (by decide : (0 : Int) < _))
local macro_rules | `(tactic| fail "cd") => `(tactic| exact ⟨by decide, by decide, by decide⟩)
local macro_rules | `(tactic| fail "cd") => `(tactic| exact Or.inl ⟨by decide, by decide⟩)
local macro_rules | `(tactic| fail "cd") => `(tactic| exact Or.inr ⟨by decide, by decide⟩)
local macro_rules | `(tactic| fail "st") => `(tactic| ((with_reducible apply l_zip); fail "hp"; fail "hp"))
local macro_rules | `(tactic| fail "st") => `(tactic| ((with_reducible apply l_isDT); fail "hp"))
local macro_rules | `(tactic| fail "st") => `(tactic| ((with_reducible apply l_isDK); fail "hp"))
local macro_rules | `(tactic| fail "st") => `(tactic| ((with_reducible apply l_enum); fail "hp"))
local macro_rules | `(tactic| fail "st") => `(tactic| ((with_reducible apply l_sqT); fail "hp"))
local macro_rules | `(tactic| fail "st") => `(tactic| ((with_reducible apply l_sqL); fail "hp"))
local macro_rules | `(tactic| fail "st") => `(tactic| ((with_reducible apply l_tyL); fail "hp"))
local macro_rules | `(tactic| fail "st") => `(tactic| ((with_reducible apply ls_slL); fail "hp"))
local macro_rules | `(tactic| fail "st") => `(tactic| ((with_reducible apply ls_dictD); fail "hp"))
local macro_rules | `(tactic| fail "st") => `(tactic| ((with_reducible apply ls_tupT); fail "hp"))
local macro_rules | `(tactic| fail "st") => `(tactic| ((with_reducible apply ls_tupL); fail "hp"))
local macro_rules | `(tactic| fail "st") => `(tactic| ((with_reducible apply ls_listD); fail "hp"))
local macro_rules | `(tactic| fail "st") => `(tactic| ((with_reducible apply ls_listT); fail "hp"))
local macro_rules | `(tactic| fail "st") => `(tactic| ((with_reducible apply ls_listL); fail "hp"))
local macro_rules | `(tactic| fail "st") => `(tactic| ((with_reducible apply l_lenD); fail "hp"))
local macro_rules | `(tactic| fail "st") => `(tactic| ((with_reducible apply l_lenT); fail "hp"))
local macro_rules | `(tactic| fail "st") => `(tactic| ((with_reducible apply l_lenL); fail "hp"))
local macro_rules | `(tactic| fail "st") => `(tactic| ((with_reducible apply l_ixT); fail "hp"; with_unfolding_all exact rfl))
local macro_rules | `(tactic| fail "st") => `(tactic| ((with_reducible apply l_ixL); fail "hp"; with_unfolding_all exact rfl))
local macro_rules | `(tactic| fail "st") => `(tactic| with_reducible apply xs_listItems)
local macro_rules | `(tactic| fail "st") => `(tactic| with_reducible apply xs_listRg)
local macro_rules | `(tactic| fail "st") => `(tactic| with_reducible apply xs_revL)
local macro_rules | `(tactic| fail "st") => `(tactic| with_reducible apply l_notN)
local macro_rules | `(tactic| fail "st") => `(tactic| with_reducible apply l_isN)
local macro_rules | `(tactic| fail "st") => `(tactic| with_reducible apply l_min2)
local macro_rules | `(tactic| fail "st") => `(tactic| with_reducible apply l_max2)
local macro_rules | `(tactic| fail "st") => `(tactic| with_reducible apply l_abs)
local macro_rules | `(tactic| fail "st") => `(tactic| with_reducible apply l_int2)
local macro_rules | `(tactic| fail "st") => `(tactic| with_reducible apply l_int1)
local macro_rules | `(tactic| fail "st") => `(tactic| with_reducible apply l_U)
local macro_rules | `(tactic| fail "st") => `(tactic| with_reducible apply l_strp)
local macro_rules | `(tactic| fail "st") => `(tactic| with_reducible apply l_refp)
local macro_rules | `(tactic| fail "st") => `(tactic| with_reducible apply l_intp)
local macro_rules | `(tactic| fail "st") => `(tactic| with_reducible apply l_blp)
local macro_rules | `(tactic| fail "st") => `(tactic| with_reducible apply x_p3)
local macro_rules | `(tactic| fail "st") => `(tactic| with_reducible apply x_par3)
local macro_rules | `(tactic| fail "st") => `(tactic| with_reducible apply x_par2)
local macro_rules | `(tactic| fail "st") => `(tactic| with_reducible apply x_par)
local macro_rules | `(tactic| fail "st") => `(tactic| with_reducible apply x_cont)
local macro_rules | `(tactic| fail "st") => `(tactic| with_reducible apply x_brk)
local macro_rules | `(tactic| fail "st") => `(tactic| with_reducible apply x_next)
local macro_rules | `(tactic| fail "st") => `(tactic| with_reducible apply x_iItems)
local macro_rules | `(tactic| fail "st") => `(tactic| with_reducible apply x_iKeys)
local macro_rules | `(tactic| fail "st") => `(tactic| with_reducible apply x_iStr)
local macro_rules | `(tactic| fail "st") => `(tactic| with_reducible apply x_iZip)
local macro_rules | `(tactic| fail "st") => `(tactic| with_reducible apply x_iEnum)
local macro_rules | `(tactic| fail "st") => `(tactic| with_reducible apply x_iRngN)
local macro_rules | `(tactic| fail "st") => `(tactic| with_reducible apply x_iTup)
local macro_rules | `(tactic| fail "st") => `(tactic| with_reducible apply x_iList)
local macro_rules | `(tactic| fail "st") => `(tactic| with_reducible apply x_gSub)
local macro_rules | `(tactic| fail "st") => `(tactic| ((with_reducible apply x_gUnl); fail "hp"; with_unfolding_all exact rfl))
local macro_rules | `(tactic| fail "st") => `(tactic| ((with_reducible apply x_gTup); fail "hp"; with_unfolding_all exact rfl))
local macro_rules | `(tactic| fail "st") => `(tactic| with_reducible apply x_gNil)
local macro_rules | `(tactic| fail "st") => `(tactic| with_reducible apply x_gCons)
local macro_rules | `(tactic| fail "st") => `(tactic| with_reducible apply xs_dc)
local macro_rules | `(tactic| fail "st") => `(tactic| with_reducible apply xs_lc)
local macro_rules | `(tactic| fail "st") => `(tactic| with_reducible apply xs_for)
local macro_rules | `(tactic| fail "st") => `(tactic| with_reducible apply x_part)
local macro_rules | `(tactic| fail "st") => `(tactic| with_reducible apply x_nopart)
local macro_rules | `(tactic| fail "st") => `(tactic| with_reducible apply x_sl)
local macro_rules | `(tactic| fail "st") => `(tactic| with_reducible apply xs_dnewT)
local macro_rules | `(tactic| fail "st") => `(tactic| with_reducible apply xs_dnewK)
local macro_rules | `(tactic| fail "st") => `(tactic| with_reducible apply x_dnotin)
local macro_rules | `(tactic| fail "st") => `(tactic| with_reducible apply x_din)
local macro_rules | `(tactic| fail "st") => `(tactic| with_reducible apply x_dget2)
local macro_rules | `(tactic| fail "st") => `(tactic| with_reducible apply x_dget1)
local macro_rules | `(tactic| fail "st") => `(tactic| with_reducible apply x_prop)
local macro_rules | `(tactic| fail "st") => `(tactic| with_reducible apply x_fld)
local macro_rules | `(tactic| fail "st") => `(tactic| with_reducible apply xs_lst)
local macro_rules | `(tactic| fail "st") => `(tactic| with_reducible apply xs_tup)
local macro_rules | `(tactic| fail "st") => `(tactic| with_reducible apply x_chain)
local macro_rules | `(tactic| fail "st") => `(tactic| with_reducible apply x_notV)
local macro_rules | `(tactic| fail "st") => `(tactic| with_reducible apply xs_yes)
local macro_rules | `(tactic| fail "st") => `(tactic| with_reducible apply x_not)
local macro_rules | `(tactic| fail "st") => `(tactic| with_reducible apply x_or)
local macro_rules | `(tactic| fail "st") => `(tactic| with_reducible apply x_and)
local macro_rules | `(tactic| fail "st") => `(tactic| with_reducible apply x_bm)
local macro_rules | `(tactic| fail "st") => `(tactic| with_reducible apply x_B)
local macro_rules | `(tactic| fail "st") => `(tactic| with_reducible apply x_un)
local macro_rules | `(tactic| fail "st") => `(tactic| ((with_reducible apply l_wipe); with_unfolding_all exact rfl))
local macro_rules | `(tactic| fail "st") => `(tactic| ((with_reducible apply l_ne); with_unfolding_all exact rfl))
local macro_rules | `(tactic| fail "st") => `(tactic| ((with_reducible apply l_eq); with_unfolding_all exact rfl))
local macro_rules | `(tactic| fail "st") => `(tactic| ((with_reducible apply l_I); fail "cd"))
local macro_rules | `(tactic| fail "st") => `(tactic| ((with_reducible apply l_new); exact Nat.le_of_ble_eq_true rfl))
local macro_rules | `(tactic| fail "st") => `(tactic| with_reducible apply x_drop)
local macro_rules | `(tactic| fail "st") => `(tactic| with_reducible apply x_dput)
local macro_rules | `(tactic| fail "st") => `(tactic| with_reducible apply x_call)
local macro_rules | `(tactic| fail "st") => `(tactic| with_reducible apply x_gName)
local macro_rules | `(tactic| fail "st") => `(tactic| with_reducible apply x_ret)
local macro_rules | `(tactic| fail "st") => `(tactic| with_reducible apply l_iNF)
local macro_rules | `(tactic| fail "st") => `(tactic| with_reducible apply l_iNT)
local macro_rules | `(tactic| fail "st") => `(tactic| with_reducible apply l_iF)
local macro_rules | `(tactic| fail "st") => `(tactic| with_reducible apply l_iT)
local macro_rules | `(tactic| fail "st") => `(tactic| with_reducible apply l_bl)
local macro_rules | `(tactic| fail "st") => `(tactic| with_reducible apply l_I0)
local macro_rules | `(tactic| fail "st") => `(tactic| with_reducible apply x_ifS)
local macro_rules | `(tactic| fail "st") => `(tactic| with_reducible apply x_cb)
local macro_rules | `(tactic| fail "st") => `(tactic| with_reducible apply x_test)
local macro_rules | `(tactic| fail "st") => `(tactic| with_reducible apply x_dget)
local macro_rules | `(tactic| fail "st") => `(tactic| with_reducible apply x_op)
local macro_rules | `(tactic| fail "st") => `(tactic| with_reducible apply x_nil)
local macro_rules | `(tactic| fail "st") => `(tactic| with_reducible apply x_c)
local macro_rules | `(tactic| fail "st") => `(tactic| with_reducible apply wh_go)
local macro_rules | `(tactic| fail "st") => `(tactic| ((with_reducible apply x_var); with_unfolding_all exact rfl))
local macro_rules | `(tactic| fail "st") => `(tactic| with_reducible apply x_sqW)
local macro_rules | `(tactic| fail "st") => `(tactic| with_reducible apply x_sqU)
local macro_rules | `(tactic| fail "st") => `(tactic| with_reducible apply x_sqP3)
local macro_rules | `(tactic| fail "st") => `(tactic| with_reducible apply x_sqP)
local macro_rules | `(tactic| fail "st") => `(tactic| with_reducible apply x_sqF)
local macro_rules | `(tactic| fail "st") => `(tactic| with_reducible apply x_sqD)
local macro_rules | `(tactic| fail "st") => `(tactic| with_reducible apply x_cons)
local macro_rules | `(tactic| fail "st") => `(tactic| with_reducible apply x_asg)
local macro_rules | `(tactic| fail "st") => `(tactic| with_reducible apply x_sqA)
local macro_rules | `(tactic| fail "go") => `(tactic| ((repeat (fail "st")); try (with_reducible apply x_show)))
variable [TL]
def spTake : Sp := Drw (fun _ vs (n : Int) => vs = [.int n] ∧ 1 ≤ n ∧ n < 1073741824) fun _ _ n v => ∃ i : Int, v = .int i ∧ 0 ≤ i ∧ i < n
section
variable {P : Program} {w : World} {K : PySem.W.Frag} {mg : Str → Option Value} {base : Heap}
theorem ok_law_take (T : Txt K mg) : FnOk P w K mg base CX0 1 T.law_take.a T.law_take.fd ["_law_draw", "_law_size"] spTake := by
  refine T.law_take.F.ok sc_law_take (fun vs H Q E h => ?_) (fun cdv A outer s H vs Q E hr h => ?_)
  · obtain ⟨n, G, D, ws, rfl, _, ⟨rfl, _⟩, _⟩ := h
    rfl
  · obtain ⟨n, G, D, ws, rfl, k, ⟨rfl, h1, h2⟩, q⟩ := h
    have hu := hu_of hr
    obtain ⟨r, t, m, ns, cs, S, a1, a2, a3, a4, a5⟩ := Sta.startA k
    refine ⟨_, (pss_cons (ps_if (PW.pt (pw_and (pt_cmpR op_eq (pe_dget hu (pv 0) pe_str (fun _ _ => rfl)) pe_int (nomark _)) (pw_and1 (pt_cmpR (y_neD (K := K) rfl hr.units) (pe_dget hu (pv 0) pe_str (fun _ _ => rfl)) (pe_lst pa_nil) (nomark _)))))
  (pss_one (ps_dput hu (pv 0) pe_str (y_pop (K := K) rfl (pe_dget hu (pv 0) pe_str (fun _ _ => rfl)) (pa_cons pe_int pa_nil)) rfl))
  (pss_one (ps_if (pt_cmpR op_eq (pe_dget hu (pv 0) pe_str (fun _ _ => rfl)) pe_int (nomark _))
  (pss_cons (ps_dput hu (pv 0) pe_str (pe_op op_add (pe_dget hu (pv 0) pe_str (fun _ _ => rfl)) pe_int) rfl)
  (pss_cons (ps_for PassesOwn.never rfl (y_iL (K := K) rfl (pe_op op_cat (pe_lst (pa_cons (pe_dget hu (pv 0) pe_str (fun _ _ => rfl)) pa_nil)) (pe_dget hu (pv 0) pe_str (fun _ _ => rfl)))) (pg_name (i := 2) sc_law_take.nd rfl (Or.inl rfl))
  (pss_one (ps_dput hu (pv 0) pe_str (pe_op op_mod (pe_callTy k_int1 rfl T.z_int (by decide +kernel) (pa_cons (pe_op op_add (pe_op op_add (pe_op op_mul (pe_dget hu (pv 0) pe_str (fun _ _ => rfl)) pe_int) (pe_op op_mul (pv 2) pe_int)) pe_int) pa_nil)) pe_int) rfl)))
  (pss_one (ps_dput hu (pv 0) pe_str (pe_op op_mod (pe_callTy k_int1 rfl T.z_int (by decide +kernel) (pa_cons (pe_op op_pow (pe_dget hu (pv 0) pe_str (fun _ _ => rfl)) pe_int) pa_nil)) pe_int) rfl))))
  pss_nil)))
  (pss_cons (ps_asg (pe_callB k_divmod rfl T.z_divmod (by decide +kernel) (pa_cons (pe_dget hu (pv 0) pe_str (fun _ _ => rfl)) (pa_cons (pv 1) pa_nil))) (y_gTup (K := K) (n := 2) rfl rfl (pgs_cons (pg_sub (pv 0) pe_str (set_dict hu)) (pgs_cons (pg_name (i := 3) sc_law_take.nd rfl (Or.inl rfl)) pgs_nil))))
  (pss_one (ps_ret (pv 3))))), ?_⟩
    refine x_seqC (fun σ H1 => ∃ (G1 : Hp) (r t m : Int) (ns cs : List Int) (x y : Option V), σ = [some (.ref D.d), some (.int n), x, y] ∧ Sta D.has none G H G1 H1 [(D.d, .dK (drawK D.l D.c r t m)), (D.l, .lst (ns.map V.int)), (D.c, .lst (cs.map V.int))] ∧ 0 ≤ r ∧ 0 ≤ m ∧ m < 2147483629 ∧ (∀ n ∈ ns, 0 ≤ n) ∧ cs.length ≤ 63) (fun σ H1 h => ?_) (fun nx => ?_)
    · obtain ⟨G1, r, t, m, ns, cs, x, y, rfl, S, a1, a2, a3, a4, a5⟩ := h
      fail "go"
      refine l_dgS (by fail "hp") (draw_rest _ _ _ _ _) ?_
      fail "go"
      refine ls_divmod ⟨by omega, h2⟩ (n_fix S fun p G2 H2 s2 S2 e2 => ?_)
      fail "go"
      refine l_setU S2 0 rfl (Nat.le_of_ble_eq_true rfl) fun H3 S3 => ?_
      fail "go"
      rw [draw_put_rest] at S3
      exact q _ _ _ S3.go (Sta.endA rfl S3 (Int.ediv_nonneg a1 (by omega)) a2 a3 a4 a5) ⟨_, rfl, Int.emod_nonneg _ (by omega), Int.emod_lt_of_pos _ (by omega)⟩
    fail "go"
    refine l_dgS (by fail "hp") (draw_rest _ _ _ _ _) ?_
    fail "go"
    refine l_ifd (fun hr0 => ?_) (fun hr0 => ?_)
    · fail "go"
      refine l_dgS (by fail "hp") (draw_large _ _ _ _ _) ?_
      fail "go"
      refine n_fix S fun p G2 H2 s2 S2 e2 => ?_
      refine ls_neNil S2 (by fail "hp") (RepL.ints.mpr rfl) (clL_ints ns) (by rw [depL_ints]; decide) (by fail "hp") ?_
      fail "go"
      refine l_ifn (fun hz => ?_) (fun hz => ?_)
      · fail "go"
        refine l_dgS (by fail "hp") (draw_large _ _ _ _ _) ?_
        fail "go"
        cases ns with
        | nil => exact absurd rfl hz
        | cons n0 ns =>
          refine ls_popAt (i := 0) S2 1 rfl rfl (by decide) fun H3 S3 => ?_
          fail "go"
          refine ls_putS S3 0 rfl (Nat.le_of_ble_eq_true rfl) fun H4 S4 => ?_
          rw [draw_put_rest] at S4
          exact nx _ _ ⟨_, _, _, _, ns, cs, none, none, rfl, S4, a4 n0 List.mem_cons_self, a2, a3, fun n hn => a4 n (List.mem_cons_of_mem _ hn), a5⟩
      · fail "go"
        refine l_dgS (by fail "hp") (draw_rest _ _ _ _ _) ?_
        fail "go"
        refine l_ifd (fun _ => ?_) (fun z => absurd hr0 z)
        fail "go"
        refine l_dgS (by fail "hp") (draw_turn _ _ _ _ _) ?_
        fail "go"
        refine ls_putS S2 0 rfl (Nat.le_of_ble_eq_true rfl) fun H3 S3 => ?_
        rw [draw_put_turn] at S3
        fail "go"
        refine l_dgS (by fail "hp") (draw_turn _ _ _ _ _) ?_
        fail "go"
        refine n_fix S3 fun p4 G4 H4 s4 S4 e4 => ?_
        fail "go"
        refine l_dgS (by fail "hp") (draw_cells _ _ _ _ _) ?_
        fail "go"
        refine ls_cat (by fail "hp") (by fail "hp") (by rw [List.length_map]; show 1 + cs.length ≤ 1000; omega) (n_fix S4 fun p5 G5 H5 s5 S5 e5 => ?_)
        fail "go"
        refine for_l (xs := ((t + 1) :: cs).map V.int) (fun i σ H1 => ∃ (m : Int) (x : Option V), σ = [some (.ref D.d), some (.int n), x, none] ∧ Sta D.has none G H G5 H1 [(D.d, .dK (drawK D.l D.c r (t + 1) m)), (D.l, .lst (ns.map V.int)), (D.c, .lst (cs.map V.int))] ∧ 0 ≤ m ∧ m < 2147483629) ⟨m, none, rfl, S5, a2, a3⟩ (fun i σ H1 h => ?_) (fun σ H1 h => ?_) fun i v σ H1 hv h => ?_
        · obtain ⟨m, x, rfl, S6, _⟩ := h
          exact S6.isin e5
        · obtain ⟨m, x, rfl, S6, b2, b3⟩ := h
          fail "go"
          refine l_dgS (by fail "hp") (draw_mix _ _ _ _ _) ?_
          fail "go"
          refine l_I ⟨by decide, by decide, ?_⟩ ?_
          · omega
          fail "go"
          refine ls_putS S6 0 rfl (Nat.le_of_ble_eq_true rfl) fun H7 S7 => ?_
          rw [draw_put_rest] at S7
          exact nx _ _ ⟨_, _, _, _, ns, cs, _, none, rfl, S7, Int.emod_nonneg _ (by decide), b2, b3, a4, a5⟩
        · obtain ⟨m, x, rfl, S6, b2, b3⟩ := h
          rw [List.getElem?_map] at hv
          obtain ⟨c, hc, rfl⟩ := Option.map_eq_some_iff.mp hv
          fail "go"
          refine l_dgS (by fail "hp") (draw_mix _ _ _ _ _) ?_
          fail "go"
          refine ls_putS S6 0 rfl (Nat.le_of_ble_eq_true rfl) fun H7 S7 => ?_
          rw [draw_put_mix] at S7
          exact ⟨_, _, rfl, S7, Int.emod_nonneg _ (by decide), Int.emod_lt_of_pos _ (by decide)⟩
    · fail "go"
      refine l_dgS (by fail "hp") (draw_rest _ _ _ _ _) ?_
      fail "go"
      refine l_ifd (fun z => absurd z hr0) (fun _ => ?_)
      fail "go"
      exact nx _ _ ⟨_, _, _, _, ns, cs, none, none, rfl, S, a1, a2, a3, a4, a5⟩
end
variable [TL]
def spPick : Sp := Drw (fun G vs (xs : List V) => ∃ a, vs = [.ref a] ∧ G a = some (.lst xs) ∧ 1 ≤ xs.length ∧ xs.length ≤ 1000) fun _ _ xs v => v ∈ xs
section
variable {P : Program} {w : World} {K : PySem.W.Frag} {mg : Str → Option Value} {base : Heap}
theorem ok_law_pick (T : Txt K mg) : FnOk P w K mg base CX0 2 T.law_pick.a T.law_pick.fd ["_law_draw", "_law_some"] spPick := by
  refine T.law_pick.F.ok sc_law_pick (fun vs H Q E h => ?_) (fun cdv A outer s H vs Q E hr h => ?_)
  · obtain ⟨n, G, D, ws, rfl, _, ⟨_, rfl, _⟩, _⟩ := h
    rfl
  · obtain ⟨xs, G, D, ws, rfl, k, ⟨a, rfl, ha, h1, h2⟩, q⟩ := h
    have hu := hu_of hr
    have S := Sta.startD k
    refine ⟨_, (pss_one (ps_ret (pe_ix (y_ixL (K := K) rfl) (pv 1) (pe_call (ok_law_take T) (hr.mono (by decide)) rfl T.law_take.g T.law_take.F.kp T.law_take.b .nil pass0 (pa_cons (pv 0) (pa_cons (pe_callB (y_len (K := K) rfl) rfl T.z_len (by decide +kernel) (pa_cons (pv 1) pa_nil)) pa_nil))) (fun _ _ => rfl)))), ?_⟩
    fail "go"
    refine c_drw S xs.length ⟨rfl, by omega, by omega⟩ fun G2 H2 v s2 S2 o => ?_
    obtain ⟨i, rfl, i0, i1⟩ := o
    have hl : i.toNat < xs.length := by omega
    refine l_ixL (by fail "hp") (v := xs[i.toNat]) ?_ ?_
    · have e := atI_nat (List.getElem?_eq_getElem hl)
      rw [Int.toNat_of_nonneg i0] at e
      exact e
    · fail "go"
      exact q _ _ _ S2.go S2.ok (List.getElem_mem hl)
section
variable {M : Addr → Prop} {d : Dr} {G0 H0 G H : Hp} {L : List (Addr × HO)} {Q : VK} {E : XK} {a : Addr}
theorem c_take (S : Sta M (some d) G0 H0 G H L) (n : Int) (h1 : 1 ≤ n) (h2 : n ≤ 100000) (q : ∀ G' H' i, Sub G G' → Sta M (some d) G0 H0 G' H' L → 0 ≤ i → i < n → Q (.int i) H') : spTake [.ref d.d, .int n] H Q E :=
  c_drw S n ⟨rfl, h1, by omega⟩ fun G' H' v s' S' ⟨i, e, h3, h4⟩ => by rw [e]; exact q G' H' i s' S' h3 h4
theorem c_pickI (S : Sta M (some d) G0 H0 G H L) (ns : List Int) (h : G a = some (.lst (ns.map V.int))) (h1 : 1 ≤ ns.length) (h2 : ns.length ≤ 1000) (q : ∀ G' H' i, Sub G G' → Sta M (some d) G0 H0 G' H' L → i ∈ ns → Q (.int i) H') : spPick [.ref d.d, .ref a] H Q E :=
  c_drw S (ns.map V.int) ⟨a, rfl, h, by rw [List.length_map]; exact h1, by rw [List.length_map]; exact h2⟩ fun G' H' v s' S' o => by
    obtain ⟨i, hi, rfl⟩ := List.mem_map.mp o
    exact q G' H' i s' S' hi
theorem c_pickS (S : Sta M (some d) G0 H0 G H L) (ns : List Str) (h : G a = some (.lst (ns.map V.str))) (h1 : 1 ≤ ns.length) (h2 : ns.length ≤ 1000) (q : ∀ G' H' i, Sub G G' → Sta M (some d) G0 H0 G' H' L → i ∈ ns → Q (.str i) H') : spPick [.ref d.d, .ref a] H Q E :=
  c_drw S (ns.map V.str) ⟨a, rfl, h, by rw [List.length_map]; exact h1, by rw [List.length_map]; exact h2⟩ fun G' H' v s' S' o => by
    obtain ⟨i, hi, rfl⟩ := List.mem_map.mp o
    exact q G' H' i s' S' hi
theorem c_pickV (S : Sta M (some d) G0 H0 G H L) (xs : List V) (h : G a = some (.lst xs)) (h1 : 1 ≤ xs.length) (h2 : xs.length ≤ 1000) (q : ∀ G' H' v, Sub G G' → Sta M (some d) G0 H0 G' H' L → v ∈ xs → Q v H') : spPick [.ref d.d, .ref a] H Q E :=
  c_drw S xs ⟨a, rfl, h, h1, h2⟩ fun G' H' v s' S' o => q G' H' v s' S' o
end
end
section
variable {P : Program} {w : World} {K : PySem.W.Frag} {mg : Str → Option Value} {base : Heap} [TL]
theorem ls_listQ {H : Hp} {a : Addr} {xs : List V} {Q : VK} (h : SqL K H a xs) (q : New Q (.lst xs) H) : rLstQ K [.ref a] H Q := ⟨a, xs, rfl, .inl h, q⟩
theorem ls_lenQ {H : Hp} {a : Addr} {xs : List V} {Q : VK} (h : SqL K H a xs) (q : Q (.int xs.length) H) : rLenQ K [.ref a] H Q := ⟨a, xs, rfl, .inl h, q⟩
theorem sql_mono {G H : Hp} {a : Addr} {xs : List V} (s : Sub G H) (h : SqL K G a xs) : SqL K H a xs := by
  rcases h with (h | ⟨o, h⟩) | h
  · exact .inl (.inl (s.to h))
  · exact .inl (.inr ⟨o, s.to h⟩)
  · exact .inr h
theorem lc_q {M : Addr → Prop} {D : Option Dr} {G0 H0 G H : Hp} {L : List (Addr × HO)} {a : Addr} {σ : L2.St} {Q : VK} {g : TG} {tt : TT} {te : TE} {vs : List Nat} {xs : List V} (S : Sta M D G0 H0 G H L) (inv : Nat → Hp → List V → Prop) (h0 : inv 0 G [])
    (rd : SqL K G a xs)
    (stop : ∀ l G1 H1 acc, Sub G G1 → Sta M D G0 H0 G1 H1 ((l, .lst acc) :: L) → acc.length ≤ xs.length → inv xs.length G1 acc → Q (.ref l) H1)
    (step : ∀ i v l G1 H1 acc, xs[i]? = some v → Sub G G1 → Sta M D G0 H0 G1 H1 ((l, .lst acc) :: L) → acc.length ≤ i → inv i G1 acc →
      g v (wipe σ vs) H1 fun σ2 H2 => wipe σ2 vs = wipe σ vs ∧ tt σ2 H2 fun b H3 => if b = true then te σ2 H3 (LcN M D G0 H0 G L l (i + 1) (inv (i + 1))) else LcP M D G0 H0 G L l (i + 1) (inv (i + 1)) H3) : LcB (Itl K a) g tt te vs σ Q H :=
  lc_n S xs.length inv h0 (fun l G1 H1 acc s1 S1 ha hv => ⟨⟨xs, sql_mono S1.inn (sql_mono s1 rd), Nat.le_refl _⟩, stop l G1 H1 acc s1 S1 ha hv⟩) fun i l G1 H1 acc hi s1 S1 ha hv =>
    ⟨⟨xs, xs[i], sql_mono S1.inn (sql_mono s1 rd), List.getElem?_eq_getElem hi⟩, fun x H2 y => by
      obtain ⟨rfl, q⟩ := y
      exact step i x l G1 _ acc (q xs (sql_mono S1.inn (sql_mono s1 rd))) s1 S1 ha hv⟩
def spBegin (K : PySem.W.Frag) : Sp := Pur (fun G vs (ns : List Int) => (∃ a, vs = [.ref a] ∧ SqL K G a (ns.map V.int)) ∧ ns.length ≤ 63) fun G H _ v => ∃ D : Dr, v = .ref D.d ∧ Ok D G H
theorem ok_law_begin (T : Txt K mg) : FnOk P w K mg base CX0 1 T.law_begin.a T.law_begin.fd ["_law_script"] (spBegin K) := by
  refine T.law_begin.F.ok sc_law_begin (fun vs H Q E h => ?_) (fun cdv A outer s H vs Q E hr h => ?_)
  · obtain ⟨n, G, _, ⟨⟨_, rfl, _⟩, _⟩, _⟩ := h
    rfl
  · obtain ⟨ns, G, hs, ⟨⟨a, rfl, ha⟩, h3⟩, q⟩ := h
    have hu := hu_of hr
    have S := Sta.start hs
    refine ⟨_, (pss_cons (ps_setLc (i := 1) (own := [("_law_cell", 2)]) rfl sc_law_begin.nd rfl rfl (sw_true rfl rfl rfl (by decide +kernel)) (y_iL (K := K) rfl (pv 0)) (blkOk_by (own := [("_law_cell", 2)]) (N := n_law_begin) (sc := defScope s_law_begin) (by decide +kernel)) (fun _ _ _ _ _ => (pg_name (i := 2) sc_law_begin.nd rfl (Or.inl rfl))) (fun _ _ _ _ _ => (pts_one (pt_cmpR op_ge (pe_callB k_abs rfl T.z_abs (by decide +kernel) (pa_cons (pv 2) pa_nil)) (pe_op op_pow pe_int pe_int) (nomark _)))) (fun _ _ _ _ _ => (pe_callB k_abs rfl T.z_abs (by decide +kernel) (pa_cons (pv 2) pa_nil))))
  (pss_one (ps_ret (pe_disp (pps_cons pe_str (pv 1) (pps_cons pe_str (pe_callTy (y_lst (K := K) rfl) rfl T.z_list (by decide +kernel) (pa_cons (pv 0) pa_nil)) (pps_cons pe_str pe_int (pps_cons pe_str pe_int (pps_cons pe_str pe_int pps_nil))))) (by rfl) (by rfl) (fun z => by cases z) (by decide))))), ?_⟩
    fail "go"
    refine ⟨⟨_, sql_mono S.inn ha⟩, ?_⟩
    refine lc_q (xs := ns.map V.int) S (fun i _ acc => ∃ ms : List Int, acc = ms.map V.int ∧ ∀ m ∈ ms, 0 ≤ m) ⟨[], rfl, fun _ z => (nomatch z)⟩ ha (fun l G1 H1 acc s1 S1 hl hv => ?_) (fun i v l G1 H1 acc hi s1 S1 hl hv => ?_)
    · obtain ⟨ms, rfl, hms⟩ := hv
      fail "go"
      refine xs_disp S1 fun p H2 S2 => ?_
      refine x_pair ?_
      fail "go"
      refine x_pair ?_
      fail "go"
      refine ls_listQ (sql_mono S2.inn (sql_mono s1 ha)) ?_
      refine n_own S2 fun p3 H3 S3 => ?_
      refine x_pair ?_
      fail "go"
      refine x_pair ?_
      fail "go"
      refine x_pair ?_
      fail "go"
      refine x_pair0 ?_
      refine ls_disp (drawK l p3 0 0 7) S3 1 rfl rfl (Nat.le_of_ble_eq_true rfl) fun H4 S4 => ?_
      rw [mergeK_nil (drawK_nd _ _ _ _ _)] at S4
      refine q _ _ _ S4.go ⟨⟨p, l, p3⟩, rfl, S4.inn, ⟨⟨_, _, _, S4.at (i := 1) rfl, by decide, by decide, by decide⟩, ⟨ms, S4.at (i := 2) rfl, hms⟩, ⟨ns, S4.at (i := 0) rfl, h3⟩, S4.ne (i := 2) (j := 0) rfl rfl (by decide)⟩, ?_⟩
      rintro b (rfl | rfl | rfl)
      · exact S4.off (i := 1) rfl
      · exact S4.off (i := 2) rfl
      · exact S4.off (i := 0) rfl
    · obtain ⟨ms, rfl, hms⟩ := hv
      rw [List.getElem?_map] at hi
      obtain ⟨c, hc, rfl⟩ := Option.map_eq_some_iff.mp hi
      have hin := (List.getElem?_eq_some_iff.mp hc).1
      fail "go"
      refine l_ifd (fun hb => ?_) (fun hb => ?_)
      · fail "go"
        refine lc_in (acc := ms.map V.int) s1 S1 (by omega) (by omega) ⟨ms ++ [if c < 0 then -c else c], by rw [List.map_append]; rfl, fun m hm => ?_⟩
        rcases List.mem_append.mp hm with hm | hm
        · exact hms m hm
        · rw [List.mem_singleton.mp hm]
          split <;> omega
      · exact lc_out s1 S1 (by omega) ⟨ms, rfl, hms⟩
end
section
variable {P : Program} {w : World} {K : PySem.W.Frag} {mg : Str → Option Value} {base : Heap} [TL]
def menu : List Str := ["a", "b", "pole", "mast", "gps", "from", "says", "origin", "moment", "event", "zzzzzz"]
theorem menu_wd : ∀ x ∈ menu, Wd x := by
  have h : (menu.all fun x => decide (1 ≤ x.length) && decide (x.length ≤ 6) && x.cps.toList.all fun c => decide (97 ≤ c) && decide (c ≤ 122)) = true := by decide +kernel
  intro x hx
  have := List.all_eq_true.mp h x hx
  rw [Bool.and_eq_true, Bool.and_eq_true, decide_eq_true_iff, decide_eq_true_iff] at this
  exact ⟨this.1.1, this.1.2, fun c hc => by
    have := List.all_eq_true.mp this.2 c hc
    rw [Bool.and_eq_true, decide_eq_true_iff, decide_eq_true_iff] at this
    exact this⟩
def spWords : Sp := Drw (fun _ vs (n : Nat) => vs = [.int n] ∧ n ≤ 6) fun G _ n v => ∃ ws : List Str, Rep G (dStrs ws) v ∧ ws.length = n ∧ ws.Nodup ∧ Wds ws
theorem ok_law_words (T : Txt K mg) : FnOk P w K mg base CX0 3 T.law_words.a T.law_words.fd ["_law_draw", "_law_many"] spWords := by
  refine T.law_words.F.ok sc_law_words (fun vs H Q E h => ?_) (fun cdv A outer s H vs Q E hr h => ?_)
  · obtain ⟨n, G, D, ws, rfl, _, ⟨rfl, _⟩, _⟩ := h
    rfl
  · obtain ⟨n, G, D, ws, rfl, k, ⟨rfl, hn⟩, q⟩ := h
    have hu := hu_of hr
    have S := Sta.startD k
    refine ⟨_, (pss_cons (ps_asg (pe_tup (pa_cons (pe_lst (pa_cons pe_str (pa_cons pe_str (pa_cons pe_str (pa_cons pe_str (pa_cons pe_str (pa_cons pe_str (pa_cons pe_str (pa_cons pe_str (pa_cons pe_str (pa_cons pe_str (pa_cons pe_str pa_nil)))))))))))) (pa_cons (pe_lst pa_nil) pa_nil))) (y_gTup (K := K) (n := 2) rfl rfl (pgs_cons (pg_name (i := 2) sc_law_words.nd rfl (Or.inl rfl)) (pgs_cons (pg_name (i := 3) sc_law_words.nd rfl (Or.inr rfl)) pgs_nil))))
  (pss_cons (ps_for PassesOwn.never rfl (pi_range1 rfl T.z_range (pa_cons (pv 1) pa_nil)) (pg_name (i := 4) sc_law_words.nd rfl (Or.inl rfl))
  (pss_cons (ps_set (i := 5) sc_law_words.nd rfl (Or.inr rfl) (pe_call (ok_law_pick T) (hr.mono (by decide)) rfl T.law_pick.g T.law_pick.F.kp T.law_pick.b .nil pass0 (pa_cons (pv 0) (pa_cons (pv 2) pa_nil))))
  (pss_cons (ps_set (i := 6) sc_law_words.nd rfl (Or.inl rfl) (pe_op op_cat (pe_lst (pa_cons (pv 5) pa_nil)) (pe_lc (own := [("_law_sign", 7)]) rfl sc_law_words.nd (pi_str pe_str) (blkOk_by (own := [("_law_sign", 7)]) (N := n_law_words) (sc := defScope s_law_words) (by decide +kernel)) (fun _ _ _ _ _ => (pg_name (i := 7) sc_law_words.nd rfl (Or.inl rfl))) (fun _ _ _ _ _ => pts_nil) (fun _ _ _ _ _ => (pe_op k_addS (pe_slice sl_str (pv 5) po_none (po_some pe_int)) (pv 7))))))
  (pss_one (ps_expr (y_app (K := K) rfl (pv 3) (pa_cons (pe_ix (y_ixL (K := K) rfl) (pe_lc (own := [("_law_here", 8)]) rfl sc_law_words.nd (y_iL (K := K) rfl (pv 6)) (blkOk_by (own := [("_law_here", 8)]) (N := n_law_words) (sc := defScope s_law_words) (by decide +kernel)) (fun _ _ _ _ _ => (pg_name (i := 8) sc_law_words.nd rfl (Or.inl rfl))) (fun _ _ _ _ _ => (pts_one (pt_cmpR (y_notIn (K := K) rfl) (pv 8) (pv 3) rfl))) (fun _ _ _ _ _ => (pv 8))) pe_int (fun _ _ => rfl)) pa_nil)))))))
  (pss_one (ps_ret (pv 3))))), ?_⟩
    fail "go"
    refine n_fix S fun p1 G1 H1 s1 S1 e1 => ?_
    fail "go"
    refine n_own S1 fun p2 H2 S2 => ?_
    fail "go"
    refine n_fix S2 fun p3 G3 H3 s3 S3 e3 => ?_
    fail "go"
    refine l_rng n (by omega) ?_
    refine for_r (fun i σ H1 => ∃ (G4 : Hp) (ws : List Str) (x4 x5 x6 : Option V), Sub G3 G4 ∧ σ = [some (.ref D.d), some (.int n), some (.ref p1), some (.ref p2), x4, x5, x6, none, none] ∧ Sta D.has (some D) G H G4 H1 [(p2, .lst (ws.map V.str))] ∧ ws.length = i ∧ ws.Nodup ∧ Wds ws) ⟨G3, [], none, none, none, Sub.rfl' _, rfl, S3, rfl, .nil, fun _ z => (nomatch z)⟩ (fun σ H1 h => ?_) (fun i σ H1 hi h => ?_)
    · obtain ⟨G4, ws, x4, x5, x6, s4, rfl, S4, h1, h2, h3⟩ := h
      fail "go"
      obtain ⟨G5, s5, S5, e5⟩ := S4.fixD 0 rfl
      exact q _ _ _ S5.go S5.ok ⟨ws, rep_strs.mpr ⟨p2, rfl, e5⟩, h1, h2, h3⟩
    · obtain ⟨G4, ws, x4, x5, x6, s4, rfl, S4, h1, h2, h3⟩ := h
      fail "go"
      refine c_drw S4 (menu.map V.str) ⟨p1, rfl, s4.to (s3.to e1), Nat.le_of_ble_eq_true rfl, Nat.le_of_ble_eq_true rfl⟩ fun G5 H5 v s5 S5 o => ?_
      obtain ⟨w, hw, rfl⟩ := List.mem_map.mp o
      fail "go"
      have hwd : Wd w := menu_wd w hw
      refine n_fix S5 fun p6 G6 H6 s6 S6 e6 => ?_
      fail "go"
      refine lc_s (x := lets) S6 (fun i _ acc => acc = ((lets.cps.toList.take i).map (vary w)).map V.str) rfl (fun l G7 H7 acc s7 S7 hl hv => ?_) (fun j c l G7 H7 acc hc s7 S7 hl hv => ?_)
      · have hv : acc = (lets.cps.toList.map (vary w)).map V.str := by rw [hv, List.take_of_length_le (by rw [Array.length_toList]; exact Nat.le_refl _)]
        subst hv
        fail "go"
        refine ls_cat (by fail "hp") (by fail "hp") (by show 1 + _ ≤ _; rw [List.length_map, List.length_map, Array.length_toList, lets_ok.2.2]; decide) (n_fix S7 fun p8 G8 H8 s8 S8 e8 => ?_)
        have e8 : G8 p8 = some (.lst ((cands w).map V.str)) := e8
        fail "go"
        refine lc_l (xs := (cands w).map V.str) S8 (fun i _ acc => acc = (((cands w).take i).filter fun x => !decide (x ∈ ws)).map V.str) rfl (fun G1 H1 x s1 S1 => S1.isin (s1.to e8)) (fun l9 G9 H9 acc s9 S9 hl9 hv9 => ?_) (fun j v l9 G9 H9 acc hc s9 S9 hl9 hv9 => ?_)
        · rw [List.length_map, List.take_of_length_le (Nat.le_refl _)] at hv9
          subst hv9
          cases hcd : (cands w).filter (fun x => !decide (x ∈ ws)) with
          | nil => exact absurd hcd (cands_out (by omega))
          | cons y r =>
            have hy : y ∈ cands w ∧ (!decide (y ∈ ws)) = true := List.mem_filter.mp (by rw [hcd]; exact List.mem_cons_self)
            rw [hcd] at S9
            fail "go"
            refine l_ixL (by fail "hp") (atI_nat (j := 0) rfl) ?_
            fail "go"
            refine ls_app (xs := ws.map V.str) S9 2 rfl (by rw [List.length_map]; omega) fun H10 S10 => ?_
            refine ⟨_, ws ++ [y], _, _, _, ((((s4.tr s5).tr s6).tr s7).tr s8).tr s9, rfl, by have := (S10.drop 0).drop 0; rw [List.map_append]; exact this, by rw [List.length_append, h1]; rfl, ?_, fun z hz => ?_⟩
            · refine List.nodup_append.mpr ⟨h2, by simp, fun a ha b hb => ?_⟩
              rw [List.mem_singleton.mp hb]
              exact fun e => (of_decide_eq_false (Bool.not_eq_true' _ ▸ hy.2)) (by rw [← e]; exact ha)
            · rcases List.mem_append.mp hz with hz | hz
              · exact h3 z hz
              · rw [List.mem_singleton.mp hz]
                exact cands_wd hwd y hy.1
        · rw [List.getElem?_map] at hc
          obtain ⟨x, hx, rfl⟩ := Option.map_eq_some_iff.mp hc
          subst hv9
          fail "go"
          refine l_notin (.inl (by fail "hp")) rfl (flat_strs ws) ?_
          rw [inV_strs]
          fail "go"
          have tk : (cands w).take (j + 1) = (cands w).take j ++ [x] := by rw [List.take_add_one, hx]; rfl
          refine l_ifn (fun hn => ?_) (fun hn => ?_)
          · fail "go"
            refine lc_in s9 S9 (by omega) (by have := (List.getElem?_eq_some_iff.mp hx).1; have := cands_len w; omega) ?_
            rw [tk, List.filter_append, List.map_append, List.filter_cons_of_pos (by rw [decide_eq_false hn]; rfl)]
            rfl
          · refine lc_out s9 S9 (by omega) ?_
            rw [tk, List.filter_append, List.map_append, List.filter_cons_of_neg (by rw [decide_eq_true hn]; exact fun z => (nomatch z))]
            rw [List.filter_nil, List.map_nil, List.append_nil]
      · subst hv
        fail "go"
        refine l_slS (by have := hwd.2.1; omega) ?_
        fail "go"
        obtain ⟨z, hz, hz5, _⟩ := cut5 w
        refine l_addS (by rw [hz]; show z.toArray.size + 1 ≤ 1000; rw [List.size_toArray]; omega) ?_
        have hlt := (Array.getElem?_eq_some_iff.mp hc).1
        refine lc_in s7 S7 (by omega) (by have := lets_ok.2.2; omega) ?_
        have tk : lets.cps.toList.take (j + 1) = lets.cps.toList.take j ++ [c] := by rw [List.take_add_one, Array.getElem?_toList, hc]; rfl
        rw [tk, List.map_append, List.map_append]
        rfl
end
section
variable {P : Program} {w : World} {K : PySem.W.Frag} {mg : Str → Option Value} {base : Heap} [TL]
def spSaying : Sp := Drw (fun G vs (x : List Str × Int) => (∃ v ls lean, ∃ liars : List Str, vs = [v, .ref ls, .int x.2] ∧ Rep G (dNet lean x.1) v ∧ G ls = some (.lst (liars.map V.str))) ∧ x.1 ≠ [] ∧ x.1.length ≤ 6 ∧ -900000 ≤ x.2 ∧ x.2 ≤ 900000) fun G _ x v => ∃ n, Rep G (dNote n) v ∧ ∀ i, NoteIn x.1 i n
theorem ok_law_saying (T : Txt K mg) : FnOk P w K mg base CX0 3 T.law_saying.a T.law_saying.fd ["_law_draw", "_law_net", "_law_liars", "_law_hour"] spSaying := by
  refine T.law_saying.F.ok sc_law_saying (fun vs H Q E h => ?_) (fun cdv A outer s H vs Q E hr h => ?_)
  · obtain ⟨n, G, D, ws, rfl, _, ⟨⟨_, _, _, _, rfl, _⟩, _⟩, _⟩ := h
    rfl
  · obtain ⟨⟨vo, hour⟩, G, D, ws, rfl, k, ⟨⟨v, ls, lean, liars, rfl, hnet, hli⟩, hne, h6, hb1, hb2⟩, q⟩ := h
    have hne : vo ≠ [] := hne
    have h6 : vo.length ≤ 6 := h6
    have hb1 : -900000 ≤ hour := hb1
    have hb2 : hour ≤ 900000 := hb2
    obtain ⟨a, b, c, rfl, ha, hb, hc⟩ := rep_net.mp hnet
    have hu := hu_of hr
    have S := Sta.startD k
    refine ⟨_, (pss_cons (ps_set (i := 4) sc_law_saying.nd rfl (Or.inl rfl) (pe_call (ok_law_pick T) (hr.mono (by decide)) rfl T.law_pick.g T.law_pick.F.kp T.law_pick.b .nil pass0 (pa_cons (pv 0) (pa_cons (pe_ix (y_ixT (K := K) rfl) (pv 1) pe_int (fun _ _ => rfl)) pa_nil))))
  (pss_cons (ps_set (i := 5) sc_law_saying.nd rfl (Or.inl rfl) (pe_ifExp (pt_cmpR (y_in (K := K) rfl) (pv 4) (pv 2) rfl) (pe_call (ok_law_pick T) (hr.mono (by decide)) rfl T.law_pick.g T.law_pick.F.kp T.law_pick.b .nil pass0 (pa_cons (pv 0) (pa_cons (pe_lst (pa_cons (pe_un un_neg pe_int) (pa_cons pe_int (pa_cons pe_int pa_nil)))) pa_nil))) pe_int))
  (pss_cons (ps_par (i := 6) (j := 7) rfl sc_law_saying.nd rfl rfl (by decide) rfl rfl (pa_cons (pe_call (ok_law_pick T) (hr.mono (by decide)) rfl T.law_pick.g T.law_pick.F.kp T.law_pick.b .nil pass0 (pa_cons (pv 0) (pa_cons (pe_lst (pa_cons pe_int (pa_cons pe_int (pa_cons pe_int (pa_cons pe_int (pa_cons pe_int pa_nil)))))) pa_nil))) (pa_cons (pe_call (ok_law_pick T) (hr.mono (by decide)) rfl T.law_pick.g T.law_pick.F.kp T.law_pick.b .nil pass0 (pa_cons (pv 0) (pa_cons (pe_lst (pa_cons pe_int (pa_cons pe_int (pa_cons pe_int (pa_cons pe_int pa_nil))))) pa_nil))) pa_nil)) (by rfl))
  (pss_one (ps_ret (pe_tup (pa_cons pe_str (pa_cons (pv 4) (pa_cons (pe_op op_sub (pe_op op_add (pv 3) (pv 5)) (pv 6)) (pa_cons (pe_op op_add (pe_op op_add (pv 3) (pv 5)) (pv 7)) pa_nil)))))))))), ?_⟩
    fail "go"
    refine c_pickS S vo hc (List.length_pos_iff.mpr hne) (by omega) fun G1 H1 vv s1 S1 hv => ?_
    fail "go"
    refine x_join (fun v H' => ∃ (G' : Hp) (i : Int), v = .int i ∧ Sub G1 G' ∧ Sta D.has (some D) G H G' H' [] ∧ -9000 ≤ i ∧ i ≤ 7000) (fun v H2 h => ?_) (fun nx => x_if ?_)
    · obtain ⟨G2, sh, rfl, s2, S2, b1, b2⟩ := h
      fail "go"
      refine n_fix S2 fun p3 G3 H3 s3 S3 e3 => ?_
      refine c_pickI S3 [0, 0, 3, 100, 1000] e3 (by decide) (by decide) fun G4 H4 lo s4 S4 hlo => ?_
      fail "go"
      refine n_fix S4 fun p5 G5 H5 s5 S5 e5 => ?_
      refine c_pickI S5 [0, 2, 50, 900] e5 (by decide) (by decide) fun G6 H6 hi s6 S6 hhi => ?_
      fail "go"
      refine n_fix S6 fun p7 G7 H7 s7 S7 e7 => ?_
      have c1 : 0 ≤ lo ∧ lo ≤ 1000 := by simp at hlo; omega
      have c2 : 0 ≤ hi ∧ hi ≤ 900 := by simp at hhi; omega
      exact q _ _ _ S7.go S7.ok ⟨.says vv _ _, rep_says.mpr ⟨p7, rfl, e7⟩, fun i => ⟨hv, by omega, by omega, by omega⟩⟩
    · fail "go"
      refine l_in (.inl (by fail "hp")) rfl (flat_strs liars) ?_
      rw [inV_strs]
      fail "go"
      refine l_ifd (fun _ => ?_) (fun _ => ?_)
      · fail "go"
        refine n_fix S1 fun p2 G2 H2 s2 S2 e2 => ?_
        refine c_pickI S2 [-9000, 7000, 2000] e2 (by decide) (by decide) fun G3 H3 i s3 S3 hi => ?_
        have c1 : -9000 ≤ i ∧ i ≤ 7000 := by simp at hi; omega
        exact nx _ _ ⟨G3, i, rfl, s2.tr s3, S3, c1.1, c1.2⟩
      · fail "go"
        exact nx _ _ ⟨G1, 0, rfl, Sub.rfl' _, S1, by decide, by decide⟩
end
section
variable {P : Program} {w : World} {K : PySem.W.Frag} {mg : Str → Option Value} {base : Heap} [TL]
structure MsgIn where
  hours : List Int
  hour : Int
def spMessage : Sp := DrwH (fun D _ H vs (x : MsgIn) => (∃ ls, vs = [.ref ls, .int x.hour] ∧ H ls = some (.lst (x.hours.map V.int)) ∧ ¬ D.has ls) ∧ x.hours.length ≤ 10 ∧ (∀ h ∈ x.hours, -100000 ≤ h ∧ h ≤ 100000) ∧ -100000 ≤ x.hour ∧ x.hour ≤ 100000) fun G _ x v => v = .non ∨ ∃ n, Rep G (dNote n) v ∧ NoteIn [] x.hours.length n
theorem ok_law_message (T : Txt K mg) : FnOk P w K mg base CX0 3 T.law_message.a T.law_message.fd ["_law_draw", "_law_hours", "_law_hour"] spMessage := by
  refine T.law_message.F.ok sc_law_message (fun vs H Q E h => ?_) (fun cdv A outer s H vs Q E hr h => ?_)
  · obtain ⟨n, G, D, ws, rfl, _, ⟨⟨_, rfl, _⟩, _⟩, _⟩ := h
    rfl
  · obtain ⟨⟨hours, hour⟩, G, D, ws, rfl, k, ⟨⟨ls, rfl, hls, hnd⟩, h10, hbs, hb1, hb2⟩, q⟩ := h
    have hls : H ls = some (.lst (hours.map V.int)) := hls
    have h10 : hours.length ≤ 10 := h10
    have hbs : ∀ h ∈ hours, -100000 ≤ h ∧ h ≤ 100000 := hbs
    have hb1 : -100000 ≤ hour := hb1
    have hb2 : hour ≤ 100000 := hb2
    have hu := hu_of hr
    have S := Sta.startD k
    have keep : ∀ {G1 H1 L}, Sta D.has (some D) G H G1 H1 L → H1 ls = some (.lst (hours.map V.int)) := fun S => S.go.fr _ _ hls hnd (fun _ z => (nomatch z))
    refine ⟨_, (pss_cons (ps_setLc (i := 4) (own := [("_law_at", 3), ("_law_here", 6)]) rfl sc_law_message.nd rfl rfl (sw_true rfl rfl rfl (by decide +kernel)) (y_iE (K := K) rfl rfl T.z_enumerate (pa_cons (pv 1) pa_nil)) (blkOk_by (own := [("_law_at", 3), ("_law_here", 6)]) (N := n_law_message) (sc := defScope s_law_message) (by decide +kernel)) (fun _ _ _ _ _ => (y_gTup (K := K) (n := 2) rfl rfl (pgs_cons (pg_name (i := 3) sc_law_message.nd rfl (Or.inl rfl)) (pgs_cons (pg_name (i := 6) sc_law_message.nd rfl (Or.inl rfl)) pgs_nil)))) (fun _ _ _ _ _ => (pts_one (pt_cmpR op_le (pv 6) (pv 2) (nomark _)))) (fun _ _ _ _ _ => (pv 3)))
  (pss_cons (ps_if (pt_cmpR (y_eqD (K := K) rfl hr.units) (pv 4) (pe_lst pa_nil) (nomark _))
  (pss_one (ps_ret pe_non))
  pss_nil)
  (pss_cons (ps_set (i := 3) sc_law_message.nd rfl (Or.inl rfl) (pe_call (ok_law_pick T) (hr.mono (by decide)) rfl T.law_pick.g T.law_pick.F.kp T.law_pick.b .nil pass0 (pa_cons (pv 0) (pa_cons (pv 4) pa_nil))))
  (pss_cons (ps_set (i := 5) sc_law_message.nd rfl (Or.inl rfl) (pe_op op_add (pe_op op_sub (pv 2) (pe_ix (y_ixL (K := K) rfl) (pv 1) (pv 3) (fun _ _ => rfl))) (pe_op op_mul pe_int (pe_callTy k_int1 rfl T.z_int (by decide +kernel) (pa_cons (pe_cmpR op_eq (pe_call (ok_law_take T) (hr.mono (by decide)) rfl T.law_take.g T.law_take.F.kp T.law_take.b .nil pass0 (pa_cons (pv 0) (pa_cons pe_int pa_nil))) pe_int (nomark _)) pa_nil)))))
  (pss_one (ps_ret (pe_tup (pa_cons pe_str (pa_cons (pv 3) (pa_cons (pe_callB (k_max2 rfl) rfl T.z_max (by decide +kernel) (pa_cons pe_int (pa_cons (pe_op op_sub (pv 5) (pe_call (ok_law_pick T) (hr.mono (by decide)) rfl T.law_pick.g T.law_pick.F.kp T.law_pick.b .nil pass0 (pa_cons (pv 0) (pa_cons (pe_lst (pa_cons pe_int (pa_cons pe_int (pa_cons pe_int (pa_cons pe_int pa_nil))))) pa_nil)))) pa_nil))) (pa_cons (pe_op op_add (pv 5) (pe_call (ok_law_pick T) (hr.mono (by decide)) rfl T.law_pick.g T.law_pick.F.kp T.law_pick.b .nil pass0 (pa_cons (pv 0) (pa_cons (pe_lst (pa_cons pe_int (pa_cons pe_int (pa_cons pe_int (pa_cons pe_int pa_nil))))) pa_nil)))) pa_nil))))))))))), ?_⟩
    fail "go"
    refine lc_e (xs := hours.map V.int) S (fun i _ acc => ∃ ns : List Nat, acc = (ns.map Int.ofNat).map V.int ∧ ∀ n ∈ ns, ∃ h, hours[n]? = some h ∧ h ≤ hour) ⟨[], rfl, fun _ z => (nomatch z)⟩ (fun G1 H1 x s1 S1 => keep S1) (fun l G1 H1 acc s1 S1 hl hv => ?_) (fun i v T l G1 H1 H2 acc hi s1 S1 hl hv hT e => ?_)
    · obtain ⟨ns, rfl, hns⟩ := hv
      have hl : ns.length ≤ hours.length := by simpa using hl
      obtain ⟨G2, s2, S2, e2⟩ := S1.fixD 0 rfl
      fail "go"
      refine x_seq ?_
      fail "go"
      refine n_fix S2 fun p3 G3 H3 s3 S3 e3 => ?_
      refine ls_eqNil S3 (by fail "hp") (RepL.ints.mpr rfl) (clL_ints _) (by rw [depL_ints]; decide) (by fail "hp") ?_
      fail "go"
      refine l_ifd (fun hz => ?_) (fun hz => ?_)
      · fail "go"
        exact q _ _ _ S3.go S3.ok (.inl rfl)
      · fail "go"
        have hz' : ns.map Int.ofNat ≠ [] := fun z => hz (by rw [z]; rfl)
        refine c_pickI S3 (ns.map Int.ofNat) (by fail "gp") (List.length_pos_iff.mpr hz') (by rw [List.length_map]; omega) fun G4 H4 at_ s4 S4 hat => ?_
        obtain ⟨n, hn, rfl⟩ := List.mem_map.mp hat
        obtain ⟨h, hh, hle⟩ := hns n hn
        have hlt := (List.getElem?_eq_some_iff.mp hh).1
        have hb := hbs h (List.mem_of_getElem? hh)
        fail "go"
        refine l_ixL (keep S4) (v := .int h) (atI_nat (j := n) (by rw [List.getElem?_map, hh]; rfl)) ?_
        fail "go"
        refine c_take S4 40 (by decide) (by decide) fun G5 H5 k5 s5 S5 k0 k1 => ?_
        fail "go"
        have hway : ∃ way : Int, hour - h + 7000 * (if decide (V.int k5 = V.int 0) = true then 1 else 0) = way ∧ 0 ≤ way ∧ way ≤ 300000 := ⟨_, rfl, by split <;> omega, by split <;> omega⟩
        obtain ⟨way, ew, w0, w1⟩ := hway
        rw [ew]
        refine n_fix S5 fun p6 G6 H6 s6 S6 e6 => ?_
        refine c_pickI S6 [0, 1, 40, 1000] e6 (by decide) (by decide) fun G7 H7 a s7 S7 ha => ?_
        fail "go"
        refine n_fix S7 fun p8 G8 H8 s8 S8 e8 => ?_
        refine c_pickI S8 [0, 2, 60, 1500] e8 (by decide) (by decide) fun G9 H9 b s9 S9 hb' => ?_
        fail "go"
        refine n_fix S9 fun p10 G10 H10 s10 S10 e10 => ?_
        have c1 : 0 ≤ a ∧ a ≤ 1000 := by simp at ha; omega
        have c2 : 0 ≤ b ∧ b ≤ 1500 := by simp at hb'; omega
        refine q _ _ _ S10.go S10.ok (.inr ⟨.frm n _ _, rep_frm.mpr ⟨p10, rfl, e10⟩, hlt, ?_, ?_, ?_⟩)
        · split <;> omega
        · split <;> omega
        · omega
    · obtain ⟨ns, rfl, hns⟩ := hv
      rw [List.getElem?_map] at hi
      obtain ⟨h, hh, rfl⟩ := Option.map_eq_some_iff.mp hi
      have hlt := (List.getElem?_eq_some_iff.mp hh).1
      obtain ⟨G2, s2, S2, e2⟩ := S1.newE hT e
      fail "go"
      refine l_ifd (fun hle => ?_) (fun hle => ?_)
      · fail "go"
        refine lc_in (s1.tr s2) S2 (by omega) (by omega) ⟨ns ++ [i], by rw [List.map_append, List.map_append]; rfl, fun m hm => ?_⟩
        rcases List.mem_append.mp hm with hm | hm
        · exact hns m hm
        · rw [List.mem_singleton.mp hm]
          exact ⟨h, hh, hle⟩
      · exact lc_out (s1.tr s2) S2 (by omega) ⟨ns, rfl, hns⟩
end
section
variable {P : Program} {w : World} {K : PySem.W.Frag} {mg : Str → Option Value} {base : Heap} [TL]
/-- what the drawing of deeds keeps -/
structure LastOk (G : Hp) (i : Nat) (last : List (Key × V)) (ds : List (Sh.Deed Str)) : Prop where
  non : ∀ s, valV last (.inr s) = none → ∀ d ∈ ds, d.st ≠ s
  som : ∀ s v, valV last (.inr s) = some v → ∃ t tick hour, v = .ref t ∧ G t = some (.tup [.int tick, .int hour]) ∧ (∀ d ∈ ds, d.st = s → d.tick ≤ tick) ∧ 0 ≤ tick ∧ tick ≤ 20 + 10 * i ∧ -2000 - 15000 * i ≤ hour ∧ hour ≤ 2000 + 15000 * i
def spDeeds : Sp := Drw (fun G vs (x : List (Str × Int) × List Str × Nat) => (∃ v, vs = [v, .int x.2.2] ∧ Rep G (dNet x.1 x.2.1) v) ∧ LeanOk x.1 ∧ x.2.1.length ≤ 6 ∧ Wds x.2.1 ∧ x.2.2 ≤ 5)
  fun G _ x v => ∃ a u z ds hours, v = .ref a ∧ G a = some (.tup [u, z]) ∧ Rep G (dDeeds ds) u ∧ Rep G (dInts hours) z ∧ ds.length = x.2.2 ∧ hours.length = x.2.2 ∧ DeedsOk x.1 x.2.1 ds ∧ ∀ h ∈ hours, -100000 ≤ h ∧ h ≤ 100000
theorem ok_law_deeds (T : Txt K mg) : FnOk P w K mg base CX0 4 T.law_deeds.a T.law_deeds.fd ["_law_draw", "_law_net", "_law_many"] spDeeds := by
  refine T.law_deeds.F.ok sc_law_deeds (fun vs H Q E h => ?_) (fun cdv A outer s H vs Q E hr h => ?_)
  · obtain ⟨n, G, D, ws, rfl, _, ⟨⟨_, rfl, _⟩, _⟩, _⟩ := h
    rfl
  · obtain ⟨⟨lean, vo, many⟩, G, D, ws, rfl, k, ⟨⟨v, rfl, hnet⟩, hlo, h6, hwd, h5⟩, q⟩ := h
    dsimp only at hlo h6 hwd h5 q ⊢
    obtain ⟨a, b, c, rfl, ha, hb, hc⟩ := rep_net.mp hnet
    have hu := hu_of hr
    have S := Sta.startD k
    refine ⟨_, (pss_cons (ps_set (i := 3) sc_law_deeds.nd rfl (Or.inl rfl) (pe_callTy (k_lstD rfl) rfl T.z_list (by decide +kernel) (pa_cons (pe_ix (y_ixT (K := K) rfl) (pv 1) pe_int (fun _ _ => rfl)) pa_nil)))
  (pss_cons (ps_setLc (i := 4) (own := [("_law_voice", 17)]) rfl sc_law_deeds.nd rfl rfl (sw_true rfl rfl rfl (by decide +kernel)) (y_iL (K := K) rfl (pe_ix (y_ixT (K := K) rfl) (pv 1) pe_int (fun _ _ => rfl))) (blkOk_by (own := [("_law_voice", 17)]) (N := n_law_deeds) (sc := defScope s_law_deeds) (by decide +kernel)) (fun _ _ _ _ _ => (pg_name (i := 17) sc_law_deeds.nd rfl (Or.inl rfl))) (fun _ _ _ _ _ => (pts_one (pt_cmpR op_eq (pe_call (ok_law_take T) (hr.mono (by decide)) rfl T.law_take.g T.law_take.F.kp T.law_take.b .nil pass0 (pa_cons (pv 0) (pa_cons pe_int pa_nil))) pe_int (nomark _)))) (fun _ _ _ _ _ => (pv 17)))
  (pss_cons (ps_set (i := 4) sc_law_deeds.nd rfl (Or.inl rfl) (pe_slice (y_slL (K := K) rfl) (pv 4) po_none (po_some (pe_op op_add (pe_ix (y_ixT (K := K) rfl) (pv 1) pe_int (fun _ _ => rfl)) (pe_callTy k_int1 rfl T.z_int (by decide +kernel) (pa_cons (pe_cmpR op_eq (pe_call (ok_law_take T) (hr.mono (by decide)) rfl T.law_take.g T.law_take.F.kp T.law_take.b .nil pass0 (pa_cons (pv 0) (pa_cons pe_int pa_nil))) pe_int (nomark _)) pa_nil))))))
  (pss_cons (ps_par3 (i := 5) (j := 6) (l := 7) rfl sc_law_deeds.nd rfl rfl rfl (by decide) (by decide) (by decide) rfl rfl rfl (pa_cons (pe_lst pa_nil) (pa_cons (pe_lst pa_nil) (pa_cons pe_dnewK pa_nil))) (by rfl))
  (pss_cons (ps_for PassesOwn.never rfl (pi_range1 rfl T.z_range (pa_cons (pv 2) pa_nil)) (pg_name (i := 8) sc_law_deeds.nd rfl (Or.inl rfl))
  (pss_cons (ps_set (i := 9) sc_law_deeds.nd rfl (Or.inl rfl) (pe_call (ok_law_pick T) (hr.mono (by decide)) rfl T.law_pick.g T.law_pick.F.kp T.law_pick.b .nil pass0 (pa_cons (pv 0) (pa_cons (pv 3) pa_nil))))
  (pss_cons (ps_asg (pe_dget2 hu (pv 7) (pv 9) (pe_tup (pa_cons (pe_call (ok_law_take T) (hr.mono (by decide)) rfl T.law_take.g T.law_take.F.kp T.law_take.b .nil pass0 (pa_cons (pv 0) (pa_cons pe_int pa_nil))) (pa_cons (pe_op op_sub (pe_call (ok_law_take T) (hr.mono (by decide)) rfl T.law_take.g T.law_take.F.kp T.law_take.b .nil pass0 (pa_cons (pv 0) (pa_cons pe_int pa_nil))) pe_int) pa_nil))) ⟨rfl, rfl, rfl, rfl⟩) (y_gTup (K := K) (n := 2) rfl rfl (pgs_cons (pg_name (i := 10) sc_law_deeds.nd rfl (Or.inl rfl)) (pgs_cons (pg_name (i := 11) sc_law_deeds.nd rfl (Or.inl rfl)) pgs_nil))))
  (pss_cons (ps_if (pt_cmp (pc_din hu (pv 9) (pv 7)))
  (pss_cons (ps_set (i := 12) sc_law_deeds.nd rfl (Or.inl rfl) (pe_call (ok_law_pick T) (hr.mono (by decide)) rfl T.law_pick.g T.law_pick.F.kp T.law_pick.b .nil pass0 (pa_cons (pv 0) (pa_cons (pe_lst (pa_cons pe_int (pa_cons pe_int (pa_cons pe_int (pa_cons pe_int (pa_cons pe_int pa_nil)))))) pa_nil))))
  (pss_one (ps_par (i := 10) (j := 11) rfl sc_law_deeds.nd rfl rfl (by decide) rfl rfl (pa_cons (pe_op op_add (pv 10) (pv 12)) (pa_cons (pe_op op_add (pv 11) (pe_op op_mul (pv 12) (pe_op op_add pe_int (pe_op op_mul (pe_call (ok_law_pick T) (hr.mono (by decide)) rfl T.law_pick.g T.law_pick.F.kp T.law_pick.b .nil pass0 (pa_cons (pv 0) (pa_cons (pe_lst (pa_cons (pe_un un_neg pe_int) (pa_cons pe_int (pa_cons pe_int pa_nil)))) pa_nil))) (pe_dget hu (pe_ix (y_ixT (K := K) rfl) (pv 1) pe_int (fun _ _ => rfl)) (pv 9) (fun _ _ => rfl)))))) pa_nil)) (by rfl))))
  pss_nil)
  (pss_cons (ps_set (i := 13) sc_law_deeds.nd rfl (Or.inl rfl) (pe_lst pa_nil))
  (pss_cons (ps_for PassesOwn.never rfl (pi_range1 rfl T.z_range (pa_cons (pe_call (ok_law_pick T) (hr.mono (by decide)) rfl T.law_pick.g T.law_pick.F.kp T.law_pick.b .nil pass0 (pa_cons (pv 0) (pa_cons (pe_lst (pa_cons pe_int (pa_cons pe_int (pa_cons pe_int (pa_cons pe_int (pa_cons pe_int pa_nil)))))) pa_nil))) pa_nil)) (pg_name (i := 14) sc_law_deeds.nd rfl (Or.inl rfl))
  (pss_cons (ps_set (i := 15) sc_law_deeds.nd rfl (Or.inl rfl) (pe_and (pe_cmpR (y_neD (K := K) rfl hr.units) (pe_ix (y_ixT (K := K) rfl) (pv 1) pe_int (fun _ _ => rfl)) (pe_lst pa_nil) (nomark _)) (pe_one (pe_cmpR op_eq (pe_call (ok_law_take T) (hr.mono (by decide)) rfl T.law_take.g T.law_take.F.kp T.law_take.b .nil pass0 (pa_cons (pv 0) (pa_cons pe_int pa_nil))) pe_int (nomark _)))))
  (pss_cons (ps_set (i := 16) sc_law_deeds.nd rfl (Or.inl rfl) (pe_ifExp (pt_val (pv 15)) (pe_call (ok_law_saying T) (hr.mono (by decide)) rfl T.law_saying.g T.law_saying.F.kp T.law_saying.b .nil pass0 (pa_cons (pv 0) (pa_cons (pv 1) (pa_cons (pv 4) (pa_cons (pv 11) pa_nil))))) (pe_call (ok_law_message T) (hr.mono (by decide)) rfl T.law_message.g T.law_message.F.kp T.law_message.b .nil pass0 (pa_cons (pv 0) (pa_cons (pv 6) (pa_cons (pv 11) pa_nil))))))
  (pss_one (ps_set (i := 13) sc_law_deeds.nd rfl (Or.inl rfl) (pe_op op_cat (pv 13) (pe_op op_rep (pe_lst (pa_cons (pv 16) pa_nil)) (pe_callTy k_int1 rfl T.z_int (by decide +kernel) (pa_cons (pe_cmpR k_notN (pv 16) pe_non (nomark _)) pa_nil)))))))))
  (pss_cons (ps_expr (y_app (K := K) rfl (pv 5) (pa_cons (pe_tup (pa_cons (pv 9) (pa_cons (pv 10) (pa_cons (pe_callTy (y_tup (K := K) rfl) rfl T.z_tuple (by decide +kernel) (pa_cons (pv 13) pa_nil)) pa_nil)))) pa_nil)))
  (pss_cons (ps_expr (y_app (K := K) rfl (pv 6) (pa_cons (pv 11) pa_nil)))
  (pss_one (ps_dput hu (pv 7) (pv 9) (pe_tup (pa_cons (pv 10) (pa_cons (pv 11) pa_nil))) rfl))))))))))
  (pss_one (ps_ret (pe_tup (pa_cons (pv 5) (pa_cons (pv 6) pa_nil)))))))))), ?_⟩
    fail "go"
    rw [lkv_names]
    refine n_fix S fun p1 G1 H1 s1 S1 e1 => ?_
    fail "go"
    refine lc_l (xs := vo.map V.str) S1 (fun i _ acc => ∃ ls : List Str, acc = ls.map V.str) ⟨[], rfl⟩ (fun G1 H1 x s1 S1 => S1.isin (s1.to (by fail "gp"))) (fun l G2 H2 acc s2 S2 hl hv => ?_) (fun i v l G2 H2 acc hi s2 S2 hl hv => ?_)
    · obtain ⟨ls, rfl⟩ := hv
      obtain ⟨G3, s3, S3, e3⟩ := S2.fixD 0 rfl
      fail "go"
      refine c_take S3 5 (by decide) (by decide) fun G4 H4 k4 s4 S4 _ _ => ?_
      fail "go"
      refine n_fix S4 fun p5 G5 H5 s5 S5 e5 => ?_
      obtain ⟨ms, hms⟩ : ∃ ms : List Str, cutV (ls.map V.str) none (some (0 + if decide (V.int k4 = V.int 0) = true then 1 else 0)) = ms.map V.str := by
        unfold cutV
        rw [← List.map_drop, ← List.map_take]
        exact ⟨_, rfl⟩
      rw [hms] at e5
      fail "go"
      refine n_own S5 fun pf H6 S6 => ?_
      fail "go"
      refine n_own S6 fun ph H7 S7 => ?_
      fail "go"
      refine n_own S7 fun pl H8 S8 => ?_
      fail "go"
      refine l_rng many (by omega) ?_
      refine for_r (fun i σ H1 => ∃ (G9 : Hp) (ds : List (Sh.Deed Str)) (hours : List Int) (last : List (Key × V)) (fv : List V) (x8 x9 x10 x11 x12 x13 x14 x15 x16 : Option V), Sub G5 G9 ∧ σ = [some (.ref D.d), some (.ref a), some (.int many), some (.ref p1), some (.ref p5), some (.ref pf), some (.ref ph), some (.ref pl), x8, x9, x10, x11, x12, x13, x14, x15, x16, none] ∧
        Sta D.has (some D) G H G9 H1 [(pl, .dK last), (ph, .lst (hours.map V.int)), (pf, .lst fv)] ∧ RepL G9 (ds.map dDeed) fv ∧ ds.length = i ∧ hours.length = i ∧ DeedsOk lean vo ds ∧ (∀ h ∈ hours, -100000 ≤ h ∧ h ≤ 100000) ∧ LastOk G9 i last ds ∧ last.length ≤ i)
        ⟨G5, [], [], [], [], none, none, none, none, none, none, none, none, none, Sub.rfl' _, rfl, S8, rfl, rfl, rfl, ⟨Nat.zero_le _, fun _ z => (nomatch z), fun _ z => (nomatch z), .nil, fun i d z => by simp at z⟩, fun _ z => (nomatch z), ⟨fun _ _ _ z => (nomatch z), fun _ _ z => (nomatch z)⟩, Nat.le_refl _⟩ (fun σ H1 h => ?_) (fun i σ H1 hi h => ?_)
      · obtain ⟨G9, ds, hours, last, fv, x8, x9, x10, x11, x12, x13, x14, x15, x16, s9, rfl, S9, r9, hl1, hl2, ok, hbs, _, _⟩ := h
        fail "go"
        obtain ⟨G10, s10, S10, e10⟩ := S9.fixD 1 rfl
        obtain ⟨G11, s11, S11, e11⟩ := S10.fixD 1 rfl
        refine n_fix S11 fun p12 G12 H12 s12 S12 e12 => ?_
        exact q _ _ _ S12.go S12.ok ⟨p12, _, _, ds, hours, rfl, e12, rep_deeds.mpr ⟨pf, fv, rfl, s12.to e11, r9.mono (by fail "sb")⟩, rep_ints.mpr ⟨ph, rfl, by fail "gp"⟩, hl1, hl2, ok, hbs⟩
      · obtain ⟨G9, ds, hours, last, fv, x8, x9, x10, x11, x12, x13, x14, x15, x16, s9, rfl, S9, r9, hl1, hl2, ok, hbs, lo, hl3⟩ := h
        fail "go"
        refine c_pickS S9 (lean.map Prod.fst) (by fail "gp") (by rw [List.length_map]; exact List.length_pos_iff.mpr hlo.ne) (by rw [List.length_map]; have := hlo.len; omega) fun G10 H10 pl_ s10 S10 hpl => ?_
        obtain ⟨⟨place, dd⟩, hmem, rfl⟩ := List.mem_map.mp hpl
        dsimp only
        have hdd := hlo.b _ hmem
        have hval := lkv_val hlo.nd hmem
        fail "go"
        refine c_take S10 20 (by decide) (by decide) fun G11 H11 t0 s11 S11 t0a t0b => ?_
        fail "go"
        refine c_take S11 4000 (by decide) (by decide) fun G12 H12 u0 s12 S12 u0a u0b => ?_
        fail "go"
        refine n_fix S12 fun p13 G13 H13 s13 S13 e13 => ?_
        refine l_doS (by fail "hp") ?_
        -- what stands behind the choice of a tick
        have sub9 : Sub G9 G13 := ((s10.tr s11).tr s12).tr s13
        obtain ⟨pt, tick, hour, epv, ept, b0, b1, b2, b3, b4, b5⟩ : ∃ pt tick hour, (valV last (Sum.inr place)).getD (.ref p13) = .ref pt ∧ G13 pt = some (.tup [.int tick, .int hour]) ∧ (valV last (Sum.inr place) = none → ∀ d ∈ ds, d.st ≠ place) ∧ (∀ v, valV last (Sum.inr place) = some v → ∀ d ∈ ds, d.st = place → d.tick ≤ tick) ∧ 0 ≤ tick ∧ tick ≤ 20 + 10 * i ∧ -2000 - 15000 * i ≤ hour ∧ hour ≤ 2000 + 15000 * i := by
          cases hv : valV last (Sum.inr place) with
          | none => exact ⟨p13, _, _, rfl, e13, fun _ => lo.non _ hv, fun _ z => (nomatch z), t0a, by omega, by omega, by omega⟩
          | some v =>
            obtain ⟨pt, tick, hour, rfl, ept, b1, b2, b3, b4, b5⟩ := lo.som _ _ hv
            exact ⟨pt, tick, hour, rfl, sub9.to ept, fun z => (nomatch z), fun _ _ => b1, b2, b3, b4, b5⟩
        rw [epv]
        fail "go"
        refine x_seqC (fun σ H' => ∃ (G14 : Hp) (tick hour : Int) (x12 : Option V), σ = [some (.ref D.d), some (.ref a), some (.int many), some (.ref p1), some (.ref p5), some (.ref pf), some (.ref ph), some (.ref pl), some (.int (0 + (i : Int))), some (.str place), some (.int tick), some (.int hour), x12, x13, x14, x15, x16, none] ∧
          Sub G13 G14 ∧ Sta D.has (some D) G H G14 H' [(pl, .dK last), (ph, .lst (hours.map V.int)), (pf, .lst fv)] ∧ (∀ d ∈ ds, d.st = place → d.tick < tick) ∧ 0 ≤ tick ∧ tick ≤ 20 + 10 * (i + 1 : Nat) ∧ -2000 - 15000 * (i + 1 : Nat) ≤ hour ∧ hour ≤ 2000 + 15000 * (i + 1 : Nat)) (fun σ H14 h => ?_) (fun nx => ?_)
        · obtain ⟨G14, tick, hour, x12, rfl, s14, S14, c1, c2, c3, c4, c5⟩ := h
          fail "go"
          refine n_fix S14 fun p15 G15 H15 s15 S15 e15 => ?_
          fail "go"
          refine n_fix S15 fun p16 G16 H16 s16 S16 e16 => ?_
          refine c_pickI S16 [0, 1, 1, 2, 3] e16 (by decide) (by decide) fun G17 H17 nn s17 S17 hnn => ?_
          obtain ⟨nm, rfl, hnm⟩ : ∃ nm : Nat, nn = nm ∧ nm ≤ 3 := by
            simp at hnn
            rcases hnn with rfl | rfl | rfl | rfl
            · exact ⟨0, rfl, by decide⟩
            · exact ⟨1, rfl, by decide⟩
            · exact ⟨2, rfl, by decide⟩
            · exact ⟨3, rfl, by decide⟩
          fail "go"
          refine l_rng nm (by omega) ?_
          refine for_r (fun j σ H1 => ∃ (G18 : Hp) (notes : List (Sh.Note Str)) (pn : Addr) (nv : List V) (x14 x15 x16 : Option V), Sub G17 G18 ∧ σ = [some (.ref D.d), some (.ref a), some (.int many), some (.ref p1), some (.ref p5), some (.ref pf), some (.ref ph), some (.ref pl), some (.int (0 + (i : Int))), some (.str place), some (.int tick), some (.int hour), x12, some (.ref pn), x14, x15, x16, none] ∧
            Sta D.has (some D) G H G18 H1 [(pl, .dK last), (ph, .lst (hours.map V.int)), (pf, .lst fv)] ∧ G18 pn = some (.lst nv) ∧ RepL G18 (notes.map dNote) nv ∧ notes.length ≤ j ∧ ∀ n ∈ notes, NoteIn vo i n)
            ⟨G17, [], p15, [], x14, x15, x16, Sub.rfl' _, rfl, S17, by fail "gp", rfl, Nat.le_refl _, fun _ z => (nomatch z)⟩ (fun σ H1 h => ?_) (fun j σ H1 hj h => ?_)
          · obtain ⟨G18, notes, pn, nv, x14, x15, x16, s18, rfl, S18, en, rn, hnl, hno⟩ := h
            fail "go"
            refine n_fix S18 fun p19 G19 H19 s19 S19 e19 => ?_
            fail "go"
            refine n_fix S19 fun p20 G20 H20 s20 S20 e20 => ?_
            fail "go"
            have hfv : fv.length = ds.length := by rw [r9.len, List.length_map]
            refine ls_app (xs := fv) S20 2 rfl (by omega) fun H21 S21 => ?_
            fail "go"
            refine ls_app (xs := hours.map V.int) S21 1 rfl (by rw [List.length_map]; omega) fun H22 S22 => ?_
            fail "go"
            refine n_fix S22 fun p23 G23 H23 s23 S23 e23 => ?_
            fail "go"
            refine ls_putS (xs := last) S23 0 rfl (by omega) fun H24 S24 => ?_
            have st : Sub G9 G23 := sub9.tr (s14.tr (s15.tr (s16.tr (s17.tr (s18.tr (s19.tr (s20.tr s23)))))))
            refine ⟨G23, ds ++ [⟨place, tick, notes⟩], hours ++ [hour], putK last (.inr place) (.ref p23), fv ++ [.ref p20], _, _, _, _, _, _, _, _, _, s9.tr st, rfl, by rw [List.map_append]; exact S24, ?_, by rw [List.length_append, hl1]; rfl, by rw [List.length_append, hl2]; rfl, ?_, ?_, ?_, Nat.le_trans (putK_len _ _ _) (by omega)⟩
            · rw [List.map_append]
              refine (r9.mono st).snoc (rep_deed.mpr ⟨p20, _, rfl, s23.to e20, rep_notes.mpr ⟨p19, nv, rfl, s23.to (s20.to e19), rn.mono (s19.tr (s20.tr s23))⟩⟩)
            · refine ⟨by rw [List.length_append, hl1]; exact Nat.le_trans hi h5, fun d hd => ?_, fun d hd => ?_, ?_, fun k d hk => ?_⟩
              · rcases List.mem_append.mp hd with hd | hd
                · exact ok.st d hd
                · rw [List.mem_singleton.mp hd]
                  exact List.mem_map.mpr ⟨_, hmem, rfl⟩
              · rcases List.mem_append.mp hd with hd | hd
                · exact ok.tick d hd
                · rw [List.mem_singleton.mp hd]
                  exact ⟨c2, by show tick ≤ 1000; omega⟩
              · refine List.pairwise_append.mpr ⟨ok.mono, List.pairwise_singleton _ _, fun x hx y hy e => ?_⟩
                rw [List.mem_singleton.mp hy] at e ⊢
                exact c1 x hx e
              · by_cases hk2 : k < ds.length
                · rw [List.getElem?_append_left hk2] at hk
                  exact ok.notes k d hk
                · have hk3 := (List.getElem?_eq_some_iff.mp hk).1
                  rw [List.length_append] at hk3
                  have : k = ds.length := by simp at hk3; omega
                  subst this
                  rw [List.getElem?_concat_length] at hk
                  cases hk
                  exact ⟨by show notes.length ≤ 3; omega, by rw [hl1]; exact hno⟩
            · intro h hh
              rcases List.mem_append.mp hh with hh | hh
              · exact hbs h hh
              · rw [List.mem_singleton.mp hh]
                omega
            · constructor
              · intro s hs d hd
                by_cases e : s = place
                · subst e
                  rw [valV_putK, if_pos rfl] at hs
                  cases hs
                · rw [valV_putK, if_neg (fun z => e (by cases z; rfl))] at hs
                  rcases List.mem_append.mp hd with hd | hd
                  · exact lo.non s hs d hd
                  · rw [List.mem_singleton.mp hd]
                    exact fun z => e z.symm
              · intro s v hs
                by_cases e : s = place
                · subst e
                  rw [valV_putK, if_pos rfl] at hs
                  cases hs
                  refine ⟨p23, tick, hour, rfl, e23, fun d hd z => ?_, c2, c3, c4, c5⟩
                  rcases List.mem_append.mp hd with hd | hd
                  · exact Int.le_of_lt (c1 d hd z)
                  · rw [List.mem_singleton.mp hd]
                    exact Int.le_refl _
                · rw [valV_putK, if_neg (fun z => e (by cases z; rfl))] at hs
                  obtain ⟨t1, t2, t3, y1, y2, y3, y4, y5, y6, y7⟩ := lo.som s v hs
                  refine ⟨t1, t2, t3, y1, st.to y2, fun d hd z => ?_, y4, by omega, by omega, by omega⟩
                  rcases List.mem_append.mp hd with hd | hd
                  · exact y3 d hd z
                  · rw [List.mem_singleton.mp hd] at z
                    exact absurd z.symm e
          · obtain ⟨G18, notes, pn, nv, x14, x15, x16, s18, rfl, S18, en, rn, hnl, hno⟩ := h
            fail "go"
            refine x_join (fun v H' => ∃ (G' : Hp) (b : Bool), v = .bl b ∧ Sub G18 G' ∧ Sta D.has (some D) G H G' H' [(pl, .dK last), (ph, .lst (hours.map V.int)), (pf, .lst fv)] ∧ (b = true → vo ≠ [])) (fun v H19 h => ?_) (fun nx => x_andV ?_)
            · obtain ⟨G19, said, rfl, s19, S19, hsaid⟩ := h
              fail "go"
              refine x_join (fun v H' => ∃ (G' : Hp), Sub G19 G' ∧ Sta D.has (some D) G H G' H' [(pl, .dK last), (ph, .lst (hours.map V.int)), (pf, .lst fv)] ∧ (v = .non ∨ ∃ n, Rep G' (dNote n) v ∧ NoteIn vo i n)) (fun v H20 h => ?_) (fun nx => x_if ?_)
              · obtain ⟨G20, s20, S20, hv⟩ := h
                fail "go"
                refine n_fix S20 fun p21 G21 H21 s21 S21 e21 => ?_
                fail "go"
                have hnv : nv.length = notes.length := by rw [rn.len, List.length_map]
                rcases hv with rfl | ⟨n, rn2, hn⟩
                · refine ls_rep (by fail "hp") (by decide) (by decide) (Nat.le_of_ble_eq_true rfl) (n_fix S21 fun p22 G22 H22 s22 S22 e22 => ?_)
                  refine ls_cat (by fail "hp") (by fail "hp") (by show nv.length + 0 ≤ _; omega) (n_fix S22 fun p23 G23 H23 s23 S23 e23 => ?_)
                  fail "go"
                  refine ⟨G23, notes, p23, nv, _, _, _, by fail "sb", rfl, S23, by rw [e23]; show some (HO.lst (nv ++ [])) = _; rw [List.append_nil], rn.mono (by fail "sb"), by omega, hno⟩
                · have hvn : v ≠ .non := by
                    cases n with
                    | frm a b c => obtain ⟨_, rfl, _⟩ := rep_frm.mp rn2; exact fun z => (nomatch z)
                    | says a b c => obtain ⟨_, rfl, _⟩ := rep_says.mp rn2; exact fun z => (nomatch z)
                  rw [decide_eq_false hvn]
                  refine ls_rep (by fail "hp") (by decide) (by decide) (Nat.le_of_ble_eq_true rfl) (n_fix S21 fun p22 G22 H22 s22 S22 e22 => ?_)
                  refine ls_cat (by fail "hp") (by fail "hp") (by show nv.length + 1 ≤ _; omega) (n_fix S22 fun p23 G23 H23 s23 S23 e23 => ?_)
                  fail "go"
                  refine ⟨G23, notes ++ [n], p23, nv ++ [v], _, _, _, by fail "sb", rfl, S23, e23, ?_, by rw [List.length_append]; show notes.length + 1 ≤ j + 1; omega, fun m hm => ?_⟩
                  · rw [List.map_append]
                    exact (rn.mono (by fail "sb")).snoc (rn2.mono (by fail "sb"))
                  · rcases List.mem_append.mp hm with hm | hm
                    · exact hno m hm
                    · rw [List.mem_singleton.mp hm]
                      exact hn
              · fail "go"
                refine l_if (fun hb => ?_) (fun hb => ?_)
                · fail "go"
                  refine c_drw S19 (vo, hour) ⟨⟨.ref a, p5, lean, ms, rfl, rep_net.mpr ⟨a, b, c, rfl, by fail "gp", by fail "gp", by fail "gp"⟩, by fail "gp"⟩, hsaid hb, h6, by show -900000 ≤ hour; omega, by show hour ≤ 900000; omega⟩ fun G20 H20 v s20 S20 o => ?_
                  obtain ⟨n, r, hn⟩ := o
                  exact nx _ _ ⟨G20, s20, S20, .inr ⟨n, r, hn i⟩⟩
                · fail "go"
                  refine c_drwH S19 ⟨hours, hour⟩ ⟨⟨ph, rfl, S19.at (i := 1) rfl, S19.notD (i := 1) rfl⟩, by show hours.length ≤ 10; omega, hbs, by show -100000 ≤ hour; omega, by show hour ≤ 100000; omega⟩ fun G20 H20 v s20 S20 o => ?_
                  refine nx _ _ ⟨G20, s20, S20, o.imp id fun ⟨n, r, hn⟩ => ⟨n, r, ?_⟩⟩
                  have hn : NoteIn [] hours.length n := hn
                  rw [hl2] at hn
                  exact hn.more
            · fail "go"
              refine n_fix S18 fun p19 G19 H19 s19 S19 e19 => ?_
              refine ls_neNil S19 (by fail "hp") (RepL.strs.mpr rfl) (clL_strs hwd.ok) (by rw [depL_strs]; decide) (by fail "hp") ?_
              fail "go"
              refine l_ifn (fun hne => ?_) (fun he => ?_)
              · fail "go"
                refine c_take S19 2 (by decide) (by decide) fun G20 H20 k20 s20 S20 _ _ => ?_
                fail "go"
                exact nx _ _ ⟨G20, _, rfl, s19.tr s20, S20, fun _ z => hne (by rw [z]; rfl)⟩
              · exact nx _ _ ⟨G19, false, rfl, s19, S19, fun z => (nomatch z)⟩
        · fail "go"
          refine l_doSr (by fail "hp") ?_
          fail "go"
          refine l_if (fun hs => ?_) (fun hs => ?_)
          · obtain ⟨v, hv⟩ := Option.isSome_iff_exists.mp hs
            fail "go"
            refine n_fix S13 fun p14 G14 H14 s14 S14 e14 => ?_
            refine c_pickI S14 [1, 1, 2, 3, 10] e14 (by decide) (by decide) fun G15 H15 mo s15 S15 hmo => ?_
            have hmo' : 1 ≤ mo ∧ mo ≤ 10 := by simp at hmo; omega
            fail "go"
            refine n_fix S15 fun p16 G16 H16 s16 S16 e16 => ?_
            refine c_pickI S16 [-1, 0, 1] e16 (by decide) (by decide) fun G17 H17 sg s17 S17 hsg => ?_
            have hsg' : -1 ≤ sg ∧ sg ≤ 1 := by simp at hsg; omega
            fail "go"
            refine l_dgS (by fail "hp") hval ?_
            refine l_I (.inl ⟨by omega, by omega⟩) ?_
            fail "go"
            refine l_I (.inl ⟨by omega, by omega⟩) ?_
            fail "go"
            have hm1 : -500 ≤ sg * dd ∧ sg * dd ≤ 500 := by
              have : sg = -1 ∨ sg = 0 ∨ sg = 1 := by omega
              rcases this with rfl | rfl | rfl <;> omega
            obtain ⟨w1, hw1, hw2⟩ : ∃ w1 : Int, mo * (1000 + sg * dd) = w1 ∧ 0 ≤ w1 ∧ w1 ≤ 15000 := by
              refine ⟨_, rfl, Int.mul_nonneg (by omega) (by omega), ?_⟩
              have a1 : mo * (1000 + sg * dd) ≤ 10 * (1000 + sg * dd) := Int.mul_le_mul_of_nonneg_right hmo'.2 (by omega)
              omega
            rw [hw1]
            refine nx _ _ ⟨G17, tick + mo, hour + w1, _, rfl, s14.tr (s15.tr (s16.tr s17)), S17, fun d hd e => ?_, by omega, by omega, by omega, by omega⟩
            have := b1 v hv d hd e
            omega
          · have hv : valV last (Sum.inr place) = none := by
              cases e : valV last (Sum.inr place) with
              | none => rfl
              | some v => rw [e] at hs; exact nomatch hs
            fail "go"
            exact nx _ _ ⟨G13, tick, hour, _, rfl, Sub.rfl' _, S13, fun d hd e => absurd e (b0 hv d hd), b2, by omega, by omega, by omega⟩
    · obtain ⟨ls, rfl⟩ := hv
      rw [List.getElem?_map] at hi
      obtain ⟨x, hx, rfl⟩ := Option.map_eq_some_iff.mp hi
      have hxl := (List.getElem?_eq_some_iff.mp hx).1
      fail "go"
      refine c_take S2 3 (by decide) (by decide) fun G3 H3 k3 s3 S3 _ _ => ?_
      fail "go"
      refine l_ifd (fun hb => ?_) (fun hb => ?_)
      · fail "go"
        exact lc_in (s2.tr s3) S3 (by omega) (by omega) ⟨ls ++ [x], by rw [List.map_append]; rfl⟩
      · exact lc_out (s2.tr s3) S3 (by omega) ⟨ls, rfl⟩
end
section
variable {P : Program} {w : World} {K : PySem.W.Frag} {mg : Str → Option Value} {base : Heap} [TL]
def spShuffled : Sp := Drw (fun G vs (x : List Str) => (∃ a, vs = [.ref a] ∧ G a = some (.lst (x.map V.str))) ∧ x.length ≤ 20 ∧ Wds x) fun G _ x v => ∃ ys : List Str, Rep G (dStrs ys) v ∧ ys.Perm x
theorem ok_law_shuffled (T : Txt K mg) : FnOk P w K mg base CX0 2 T.law_shuffled.a T.law_shuffled.fd ["_law_draw", "_law_some"] spShuffled := by
  refine T.law_shuffled.F.ok sc_law_shuffled (fun vs H Q E h => ?_) (fun cdv A outer s H vs Q E hr h => ?_)
  · obtain ⟨n, G, D, ws, rfl, _, ⟨⟨_, rfl, _⟩, _⟩, _⟩ := h
    rfl
  · obtain ⟨xs, G, D, ws, rfl, k, ⟨⟨a, rfl, ha⟩, h20, hwd⟩, q⟩ := h
    have hu := hu_of hr
    have S := Sta.startD k
    refine ⟨_, (pss_cons (ps_par (i := 2) (j := 3) rfl sc_law_shuffled.nd rfl rfl (by decide) rfl rfl (pa_cons (pe_callTy (y_lst (K := K) rfl) rfl T.z_list (by decide +kernel) (pa_cons (pv 1) pa_nil)) (pa_cons (pe_lst pa_nil) pa_nil)) (by rfl))
  (pss_cons (ps_while PassesOwn.never (pt_cmpR (y_neD (K := K) rfl hr.units) (pv 2) (pe_lst pa_nil) (nomark _))
  (pss_one (ps_expr (y_app (K := K) rfl (pv 3) (pa_cons (y_pop (K := K) rfl (pv 2) (pa_cons (pe_call (ok_law_take T) (hr.mono (by decide)) rfl T.law_take.g T.law_take.F.kp T.law_take.b .nil pass0 (pa_cons (pv 0) (pa_cons (pe_callB (y_len (K := K) rfl) rfl T.z_len (by decide +kernel) (pa_cons (pv 2) pa_nil)) pa_nil))) pa_nil)) pa_nil)))))
  (pss_one (ps_ret (pv 3))))), ?_⟩
    fail "go"
    refine n_own S fun p1 H1 S1 => ?_
    fail "go"
    refine n_own S1 fun p2 H2 S2 => ?_
    fail "go"
    refine while_n (fun m σ H1 => ∃ (G3 : Hp) (ls fs : List Str), σ = [some (.ref D.d), some (.ref a), some (.ref p1), some (.ref p2)] ∧ Sta D.has (some D) G H G3 H1 [(p2, .lst (fs.map V.str)), (p1, .lst (ls.map V.str))] ∧ m = ls.length ∧ (fs ++ ls).Perm xs) xs.length ⟨G, xs, [], rfl, S2, rfl, List.Perm.refl _⟩ fun m σ H3 h => ?_
    obtain ⟨G3, ls, fs, rfl, S3, rfl, hp⟩ := h
    have hlen := hp.length_eq
    rw [List.length_append] at hlen
    fail "go"
    refine n_fix S3 fun p4 G4 H4 s4 S4 e4 => ?_
    refine ls_neNil S4 (by fail "hp") (RepL.strs.mpr rfl) (clL_strs fun w hw => (hwd w (hp.subset (List.mem_append_right _ hw))).ok) (by rw [depL_strs]; decide) (by fail "hp") ?_
    fail "go"
    refine l_ifn (fun hz => ?_) (fun hz => ?_)
    · have hz' : ls ≠ [] := fun z => hz (by rw [z]; rfl)
      have hpos := List.length_pos_iff.mpr hz'
      fail "go"
      rw [List.length_map]
      refine c_take S4 ls.length (by omega) (by omega) fun G5 H5 i s5 S5 i0 i1 => ?_
      obtain ⟨n, rfl⟩ : ∃ n : Nat, i = n := ⟨i.toNat, by omega⟩
      have hn : n < ls.length := by omega
      fail "go"
      refine ls_popAt (xs := ls.map V.str) (v := .str ls[n]) S5 1 rfl (by rw [List.getElem?_map, List.getElem?_eq_getElem hn]; rfl) (by omega) fun H6 S6 => ?_
      fail "go"
      refine ls_app (xs := fs.map V.str) S6 0 rfl (by rw [List.length_map]; omega) fun H7 S7 => ?_
      fail "go"
      refine ⟨(ls.eraseIdx n).length, by rw [List.length_eraseIdx, if_pos hn]; omega, G5, ls.eraseIdx n, fs ++ [ls[n]], rfl, ?_, rfl, ?_⟩
      · rw [List.map_append, ← map_erase]
        exact S7
      · refine List.Perm.trans ?_ hp
        rw [List.append_assoc]
        refine List.Perm.append_left fs ?_
        exact (perm_erase ls n hn)
    · fail "go"
      have hz' : ls = [] := by simpa using hz
      subst hz'
      obtain ⟨G5, s5, S5, e5⟩ := S4.fixD 0 rfl
      exact q _ _ _ S5.go S5.ok ⟨fs, rep_strs.mpr ⟨p2, rfl, e5⟩, by rw [List.append_nil] at hp; exact hp⟩
end
section
variable {P : Program} {w : World} {K : PySem.W.Frag} {mg : Str → Option Value} {base : Heap} [TL]
structure GrpsOk (g0 g1 : Grp) (shuf : List Str) : Prop where
  k0 : GrpOk g0
  k1 : GrpOk g1
  nd : ((g0.lean ++ g1.lean).map Prod.fst).Nodup
  len : (g0.lean ++ g1.lean).length ≤ 4
  perm : shuf.Perm (g0.vs ++ g1.vs)
  vnd : shuf.Nodup
  vlen : shuf.length ≤ 6
  vwd : Wds shuf
def spGroups : Sp := Drw (fun _ vs (_ : Unit) => vs = [.int 0]) fun G _ _ v => ∃ a gs n g0 g1 shuf, v = .ref a ∧ G a = some (.tup [gs, n]) ∧ Rep G (.lst [dGroup g0, dGroup g1]) gs ∧ Rep G (dNet (g0.lean ++ g1.lean) shuf) n ∧ GrpsOk g0 g1 shuf
theorem ok_law_groups (T : Txt K mg) : FnOk P w K mg base CX0 5 T.law_groups.a T.law_groups.fd ["_law_draw", "_law_doubt"] spGroups := by
  refine T.law_groups.F.ok sc_law_groups (fun vs H Q E h => ?_) (fun cdv A outer s H vs Q E hr h => ?_)
  · obtain ⟨n, G, D, ws, rfl, _, rfl, _⟩ := h
    rfl
  · obtain ⟨_, G, D, ws, rfl, k, rfl, q⟩ := h
    have hu := hu_of hr
    have S := Sta.startD k
    refine ⟨_, (pss_cons (ps_par (i := 2) (j := 3) rfl sc_law_groups.nd rfl rfl (by decide) rfl rfl (pa_cons (pe_call (ok_law_words T) (hr.mono (by decide)) rfl T.law_words.g T.law_words.F.kp T.law_words.b .nil pass0 (pa_cons (pv 0) (pa_cons (pe_op op_add pe_int (pe_call (ok_law_take T) (hr.mono (by decide)) rfl T.law_take.g T.law_take.F.kp T.law_take.b .nil pass0 (pa_cons (pv 0) (pa_cons pe_int pa_nil)))) pa_nil))) (pa_cons (pe_call (ok_law_words T) (hr.mono (by decide)) rfl T.law_words.g T.law_words.F.kp T.law_words.b .nil pass0 (pa_cons (pv 0) (pa_cons (pe_call (ok_law_take T) (hr.mono (by decide)) rfl T.law_take.g T.law_take.F.kp T.law_take.b .nil pass0 (pa_cons (pv 0) (pa_cons pe_int pa_nil))) pa_nil))) pa_nil)) (by rfl))
  (pss_cons (ps_par (i := 4) (j := 5) rfl sc_law_groups.nd rfl rfl (by decide) rfl rfl (pa_cons (pe_op op_add pe_int (pe_call (ok_law_take T) (hr.mono (by decide)) rfl T.law_take.g T.law_take.F.kp T.law_take.b .nil pass0 (pa_cons (pv 0) (pa_cons (pe_op op_sub (pe_callB (y_len (K := K) rfl) rfl T.z_len (by decide +kernel) (pa_cons (pv 2) pa_nil)) pe_int) pa_nil)))) (pa_cons (pe_call (ok_law_take T) (hr.mono (by decide)) rfl T.law_take.g T.law_take.F.kp T.law_take.b .nil pass0 (pa_cons (pv 0) (pa_cons (pe_op op_add (pe_callB (y_len (K := K) rfl) rfl T.z_len (by decide +kernel) (pa_cons (pv 3) pa_nil)) pe_int) pa_nil))) pa_nil)) (by rfl))
  (pss_cons (ps_set (i := 6) sc_law_groups.nd rfl (Or.inl rfl) (pe_callB (k_min2 rfl) rfl T.z_min (by decide +kernel) (pa_cons (pv 1) (pa_cons (pe_callB (k_max2 rfl) rfl T.z_max (by decide +kernel) (pa_cons pe_int (pa_cons (pe_op op_sub (pe_callB (y_len (K := K) rfl) rfl T.z_len (by decide +kernel) (pa_cons (pv 3) pa_nil)) pe_int) pa_nil))) pa_nil))))
  (pss_cons (ps_set (i := 7) sc_law_groups.nd rfl (Or.inl rfl) (pe_lst pa_nil))
  (pss_cons (ps_for PassesOwn.never rfl (y_iL (K := K) rfl (pe_lst (pa_cons (pe_tup (pa_cons (pe_slice (y_slL (K := K) rfl) (pv 2) po_none (po_some (pv 4))) (pa_cons (pe_slice (y_slL (K := K) rfl) (pv 3) po_none (po_some (pv 5))) pa_nil))) (pa_cons (pe_tup (pa_cons (pe_slice (y_slL (K := K) rfl) (pv 2) (po_some (pv 4)) po_none) (pa_cons (pe_slice (y_slL (K := K) rfl) (pv 3) (po_some (pv 5)) po_none) pa_nil))) pa_nil)))) (y_gTup (K := K) (n := 2) rfl rfl (pgs_cons (pg_name (i := 8) sc_law_groups.nd rfl (Or.inl rfl)) (pgs_cons (pg_name (i := 9) sc_law_groups.nd rfl (Or.inl rfl)) pgs_nil)))
  (pss_cons (ps_set (i := 10) sc_law_groups.nd rfl (Or.inl rfl) (pe_callTy (y_dctP (K := K) rfl rfl) rfl T.z_dict (by decide +kernel) (pa_cons (pe_lc (own := [("_law_word", 14)]) rfl sc_law_groups.nd (y_iL (K := K) rfl (pv 8)) (blkOk_by (own := [("_law_word", 14)]) (N := n_law_groups) (sc := defScope s_law_groups) (by decide +kernel)) (fun _ _ _ _ _ => (pg_name (i := 14) sc_law_groups.nd rfl (Or.inl rfl))) (fun _ _ _ _ _ => pts_nil) (fun _ _ _ _ _ => (pe_tup (pa_cons (pv 14) (pa_cons (pe_call (ok_law_pick T) (hr.mono (by decide)) rfl T.law_pick.g T.law_pick.F.kp T.law_pick.b .nil pass0 (pa_cons (pv 0) (pa_cons (pe_lst (pa_cons pe_int (pa_cons pe_int (pa_cons pe_int (pa_cons pe_int (pa_cons pe_int pa_nil)))))) pa_nil))) pa_nil))))) pa_nil)))
  (pss_cons (ps_set (i := 11) sc_law_groups.nd rfl (Or.inl rfl) (pe_tup (pa_cons (pv 10) (pa_cons (pv 9) (pa_cons (pe_callB (k_min2 rfl) rfl T.z_min (by decide +kernel) (pa_cons (pv 6) (pa_cons (pe_callB (y_len (K := K) rfl) rfl T.z_len (by decide +kernel) (pa_cons (pv 9) pa_nil)) pa_nil))) pa_nil)))))
  (pss_cons (ps_asg (pe_call (ok_law_deeds T) (hr.mono (by decide)) rfl T.law_deeds.g T.law_deeds.F.kp T.law_deeds.b .nil pass0 (pa_cons (pv 0) (pa_cons (pv 11) (pa_cons (pe_call (ok_law_take T) (hr.mono (by decide)) rfl T.law_take.g T.law_take.F.kp T.law_take.b .nil pass0 (pa_cons (pv 0) (pa_cons pe_int pa_nil))) pa_nil)))) (y_gTup (K := K) (n := 2) rfl rfl (pgs_cons (pg_name (i := 12) sc_law_groups.nd rfl (Or.inl rfl)) (pgs_cons (pg_name (i := 13) sc_law_groups.nd rfl (Or.inl rfl)) pgs_nil))))
  (pss_one (ps_expr (y_app (K := K) rfl (pv 7) (pa_cons (pe_disp (pps_cons pe_str (pv 11) (pps_cons pe_str (pv 12) (pps_cons pe_str (pv 13) pps_nil))) (by rfl) (by rfl) (fun z => by cases z) (by decide)) pa_nil))))))))
  (pss_cons (ps_set (i := 10) sc_law_groups.nd rfl (Or.inl rfl) (pe_callTy (y_dctP (K := K) rfl rfl) rfl T.z_dict (by decide +kernel) (pa_cons (pe_op op_cat (LiI.pe_listItems rfl (pe_ix (y_ixT (K := K) rfl) (pe_dget hu (pe_ix (y_ixL (K := K) rfl) (pv 7) pe_int (fun _ _ => rfl)) pe_str (fun _ _ => rfl)) pe_int (fun _ _ => rfl)) rfl T.z_list (by decide +kernel)) (LiI.pe_listItems rfl (pe_ix (y_ixT (K := K) rfl) (pe_dget hu (pe_ix (y_ixL (K := K) rfl) (pv 7) pe_int (fun _ _ => rfl)) pe_str (fun _ _ => rfl)) pe_int (fun _ _ => rfl)) rfl T.z_list (by decide +kernel))) pa_nil)))
  (pss_one (ps_ret (pe_tup (pa_cons (pv 7) (pa_cons (pe_tup (pa_cons (pv 10) (pa_cons (pe_call (ok_law_shuffled T) (hr.mono (by decide)) rfl T.law_shuffled.g T.law_shuffled.F.kp T.law_shuffled.b .nil pass0 (pa_cons (pv 0) (pa_cons (pv 3) pa_nil))) (pa_cons (pv 6) pa_nil)))) pa_nil))))))))))), ?_⟩
    fail "go"
    refine c_take S 3 (by decide) (by decide) fun G1 H1 k1 s1 S1 k1a k1b => ?_
    obtain ⟨n1, hn1, hn2, hn3⟩ : ∃ n : Nat, 2 + k1 = n ∧ 2 ≤ n ∧ n ≤ 4 := ⟨(2 + k1).toNat, by omega, by omega, by omega⟩
    fail "go"
    rw [hn1]
    refine c_drw S1 n1 ⟨rfl, by omega⟩ fun G2 H2 v2 s2 S2 o2 => ?_
    obtain ⟨wds, r2, wl, wn, ww⟩ := o2
    obtain ⟨aw, rfl, ew⟩ := rep_strs.mp r2
    fail "go"
    refine c_take S2 7 (by decide) (by decide) fun G3 H3 k3 s3 S3 k3a k3b => ?_
    obtain ⟨n3, rfl⟩ : ∃ n : Nat, k3 = n := ⟨k3.toNat, by omega⟩
    fail "go"
    refine c_drw S3 n3 ⟨rfl, by omega⟩ fun G4 H4 v4 s4 S4 o4 => ?_
    obtain ⟨vos, r4, vl, vn, vw⟩ := o4
    obtain ⟨av, rfl, ev⟩ := rep_strs.mp r4
    fail "go"
    refine c_take S4 ((wds.map V.str).length - 1) (by rw [List.length_map]; omega) (by rw [List.length_map]; omega) fun G5 H5 k5 s5 S5 k5a k5b => ?_
    rw [List.length_map] at k5b
    fail "go"
    refine c_take S5 ((vos.map V.str).length + 1) (by rw [List.length_map]; omega) (by rw [List.length_map]; omega) fun G6 H6 k6 s6 S6 k6a k6b => ?_
    rw [List.length_map] at k6b
    obtain ⟨cut, hcut, cut1, cut2⟩ : ∃ n : Nat, 1 + k5 = n ∧ 1 ≤ n ∧ n < wds.length := ⟨(1 + k5).toNat, by omega, by omega, by omega⟩
    obtain ⟨part, rfl, part2⟩ : ∃ n : Nat, k6 = n ∧ n ≤ vos.length := ⟨k6.toNat, by omega, by omega⟩
    fail "go"
    rw [hcut]
    have hw : ∀ x : Int, (if (if x > 0 then x else 0) < 0 then (if x > 0 then x else 0) else 0) = 0 := fun x => by
      by_cases h : x > 0
      · rw [if_pos h, if_neg (by omega)]
      · rw [if_neg h, if_neg (by decide)]
    rw [hw]
    refine n_own S6 fun pg H7 S7 => ?_
    fail "go"
    rw [cut_take, ← List.map_take]
    refine n_fix S7 fun p8 G8 H8 s8 S8 e8 => ?_
    fail "go"
    rw [cut_take, ← List.map_take]
    refine n_fix S8 fun p9 G9 H9 s9 S9 e9 => ?_
    fail "go"
    refine n_fix S9 fun p10 G10 H10 s10 S10 e10 => ?_
    fail "go"
    rw [cut_drop, ← List.map_drop]
    refine n_fix S10 fun p11 G11 H11 s11 S11 e11 => ?_
    fail "go"
    rw [cut_drop, ← List.map_drop]
    refine n_fix S11 fun p12 G12 H12 s12 S12 e12 => ?_
    fail "go"
    refine n_fix S12 fun p13 G13 H13 s13 S13 e13 => ?_
    fail "go"
    refine n_fix S13 fun p14 G14 H14 s14 S14 e14 => ?_
    fail "go"
    let ks : Nat → List Str := fun j => if j = 0 then wds.take cut else wds.drop cut
    let vv : Nat → List Str := fun j => if j = 0 then vos.take part else vos.drop part
    refine for_l (xs := [.ref p10, .ref p13]) (fun i σ H1 => ∃ (G15 : Hp) (gs : List Grp) (gv : List V) (x8 x9 x10 x11 x12 x13 : Option V), Sub G14 G15 ∧ σ = [some (.ref D.d), some (.int 0), some (.ref aw), some (.ref av), some (.int cut), some (.int part), some (.int 0), some (.ref pg), x8, x9, x10, x11, x12, x13, none] ∧ Sta D.has (some D) G H G15 H1 [(pg, .lst gv)] ∧ RepL G15 (gs.map dGroup) gv ∧ gs.length = i ∧ ∀ j g, gs[j]? = some g → GrpOk g ∧ g.lean.map Prod.fst = ks j ∧ g.vs = vv j)
      ⟨G14, [], [], none, none, none, none, none, none, Sub.rfl' _, rfl, S14, rfl, rfl, fun j g z => by simp at z⟩ (fun i σ H1 h => ?_) (fun σ H1 h => ?_) (fun i v σ H1 hi h => ?_)
    · obtain ⟨G15, gs, gv, x8, x9, x10, x11, x12, x13, s15, rfl, S15, _⟩ := h
      fail "hp"
    · obtain ⟨G15, gs, gv, x8, x9, x10, x11, x12, x13, s15, rfl, S15, rg, gl, gok⟩ := h
      have gl : gs.length = 2 := gl
      obtain ⟨g0, g1, rfl⟩ : ∃ g0 g1, gs = [g0, g1] := by
        match gs, gl with
        | [g0, g1], _ => exact ⟨g0, g1, rfl⟩
      obtain ⟨ok0, k0, w0⟩ := gok 0 g0 rfl
      obtain ⟨ok1, k1, w1⟩ := gok 1 g1 rfl
      have k0 : g0.lean.map Prod.fst = wds.take cut := k0
      have k1 : g1.lean.map Prod.fst = wds.drop cut := k1
      have w0 : g0.vs = vos.take part := w0
      have w1 : g1.vs = vos.drop part := w1
      have knd : ((g0.lean ++ g1.lean).map Prod.fst) = wds := by rw [List.map_append, k0, k1, List.take_append_drop]
      obtain ⟨v0, _, rfl, r0, v1, _, rfl, r1, rfl⟩ := rg
      obtain ⟨a0, n0, d0, h0, rfl, ea0, rn0, _, _⟩ := rep_group.mp r0
      obtain ⟨a1, n1', d1, h1, rfl, ea1, rn1, _, _⟩ := rep_group.mp r1
      obtain ⟨b0, c0, f0, rfl, eb0, ec0, _⟩ := rep_net.mp rn0
      obtain ⟨b1, c1, f1, rfl, eb1, ec1, _⟩ := rep_net.mp rn1
      fail "go"
      refine l_dgS (by fail "hp") (group_net _ _ _) ?_
      fail "go"
      refine ls_items (lean := g0.lean) S15 (by fail "hp") fun G16 H16 p16 ts0 s16 S16 e16 r16 => ?_
      fail "go"
      refine l_dgS (by fail "hp") (group_net _ _ _) ?_
      fail "go"
      refine ls_items (lean := g1.lean) S16 (by fail "hp") fun G17 H17 p17 ts1 s17 S17 e17 r17 => ?_
      have l0 := pr_len r16
      have l1 := pr_len r17
      have hle : g0.lean.length + g1.lean.length ≤ 4 := by
        have := congrArg List.length knd
        rw [List.length_map, List.length_append] at this
        omega
      refine ls_cat (by fail "hp") (by fail "hp") (by rw [List.length_map, List.length_map]; omega) (n_fix S17 fun p18 G18 H18 s18 S18 e18 => ?_)
      rw [← List.map_append] at e18
      fail "go"
      refine ls_dictW (lean := g0.lean ++ g1.lean) S18 (by fail "hp") (pr_app (pr_mono (fun t y e => s18.to (s17.to e)) r16) (pr_mono (fun t y e => s18.to e) r17)) (by rw [knd]; exact wn) (n_fix S18 fun p19 G19 H19 s19 S19 e19 => ?_)
      fail "go"
      refine c_drw S19 vos ⟨⟨av, rfl, by fail "gp"⟩, by omega, vw⟩ fun G20 H20 v20 s20 S20 o20 => ?_
      obtain ⟨shuf, r20, hperm⟩ := o20
      obtain ⟨as, rfl, es⟩ := rep_strs.mp r20
      fail "go"
      refine n_fix S20 fun p21 G21 H21 s21 S21 e21 => ?_
      fail "go"
      obtain ⟨G22, s22, S22, e22⟩ := S21.fixD 0 rfl
      refine n_fix S22 fun p23 G23 H23 s23 S23 e23 => ?_
      have st : Sub G15 G23 := s16.tr (s17.tr (s18.tr (s19.tr (s20.tr (s21.tr (s22.tr s23))))))
      refine q _ _ _ S23.go S23.ok ⟨p23, _, _, g0, g1, shuf, rfl, e23, ⟨pg, _, rfl, s23.to e22, _, _, rfl, r0.mono st, _, _, rfl, r1.mono st, rfl⟩, rep_net.mpr ⟨p21, p19, as, rfl, s23.to (s22.to e21), s23.to (s22.to (s21.to (s20.to e19))), s23.to (s22.to (s21.to es))⟩, ?_⟩
      refine ⟨ok0, ok1, by rw [knd]; exact wn, by rw [List.length_append]; exact hle, by rw [w0, w1, List.take_append_drop]; exact hperm, hperm.nodup_iff.mpr vn, by rw [hperm.length_eq]; omega, fun x hx => vw x (hperm.subset hx)⟩
    · obtain ⟨G15, gs, gv, x8, x9, x10, x11, x12, x13, s15, rfl, S15, rg, gl, gok⟩ := h
      have hi2 : i < 2 := (List.getElem?_eq_some_iff.mp hi).1
      obtain ⟨pt, pw, pv, rfl, et, e1, e2⟩ : ∃ pt pw pv, v = .ref pt ∧ G15 pt = some (.tup [.ref pw, .ref pv]) ∧ G15 pw = some (.lst ((ks i).map V.str)) ∧ G15 pv = some (.lst ((vv i).map V.str)) := by
        have : i = 0 ∨ i = 1 := by omega
        rcases this with rfl | rfl
        · cases hi
          exact ⟨p10, p8, p9, rfl, by fail "gp", by show G15 p8 = some (.lst ((wds.take cut).map V.str)); fail "gp", by show G15 p9 = some (.lst ((vos.take part).map V.str)); fail "gp"⟩
        · cases hi
          exact ⟨p13, p11, p12, rfl, by fail "gp", by show G15 p11 = some (.lst ((wds.drop cut).map V.str)); fail "gp", by show G15 p12 = some (.lst ((vos.drop part).map V.str)); fail "gp"⟩
      have kl : 1 ≤ (ks i).length ∧ (ks i).length ≤ 4 := by
        show 1 ≤ (if i = 0 then wds.take cut else wds.drop cut).length ∧ (if i = 0 then wds.take cut else wds.drop cut).length ≤ 4
        split
        · rw [List.length_take]; omega
        · rw [List.length_drop]; omega
      have kw : Wds (ks i) := fun x hx => ww x (by
        have hx : x ∈ (if i = 0 then wds.take cut else wds.drop cut) := hx
        split at hx
        · exact List.mem_of_mem_take hx
        · exact List.mem_of_mem_drop hx)
      have kn : (ks i).Nodup := by
        show (if i = 0 then wds.take cut else wds.drop cut).Nodup
        split
        · exact List.Nodup.sublist (List.take_sublist _ _) wn
        · exact List.Nodup.sublist (List.drop_sublist _ _) wn
      have vl' : (vv i).length ≤ 6 := by
        show (if i = 0 then vos.take part else vos.drop part).length ≤ 6
        split
        · rw [List.length_take]; omega
        · rw [List.length_drop]; omega
      have vw' : Wds (vv i) := fun x hx => vw x (by
        have hx : x ∈ (if i = 0 then vos.take part else vos.drop part) := hx
        split at hx
        · exact List.mem_of_mem_take hx
        · exact List.mem_of_mem_drop hx)
      fail "go"
      refine lc_l (xs := (ks i).map V.str) S15 (fun j G acc => ∃ (ps : List Addr) (ln : List (Str × Int)), acc = ps.map V.ref ∧ ln.map Prod.fst = (ks i).take j ∧ (∀ p ∈ ln, 0 ≤ p.2 ∧ p.2 ≤ 500) ∧ TpW G ps ln) ⟨[], [], rfl, rfl, fun _ z => (nomatch z), .nil⟩ (fun G1 H1 x s1 S1 => S1.isin (s1.to e1)) (fun l G16 H16 acc s16 S16 hl hv => ?_) (fun j v l G16 H16 acc hj s16 S16 hl hv => ?_)
      · obtain ⟨ps, ln, rfl, h1, h2, h3⟩ := hv
        rw [List.length_map, List.take_of_length_le (Nat.le_refl _)] at h1
        obtain ⟨G17, s17, S17, e17⟩ := S16.fixD 0 rfl
        have lnl : ln.length = (ks i).length := by rw [← h1, List.length_map]
        have lok : LeanOk ln := ⟨fun z => by rw [z] at lnl; have : (ks i).length = 0 := lnl.symm; omega, by omega, by rw [h1]; exact kn, fun p hp => kw _ (by rw [← h1]; exact List.mem_map.mpr ⟨p, hp, rfl⟩), h2⟩
        fail "go"
        refine ls_dictW (lean := ln) S17 (by fail "hp") (pr_mono (fun t y e => s17.to e) h3) lok.nd (n_fix S17 fun p18 G18 H18 s18 S18 e18 => ?_)
        fail "go"
        rw [if_neg (by omega)]
        refine n_fix S18 fun p19 G19 H19 s19 S19 e19 => ?_
        fail "go"
        refine c_take S19 6 (by decide) (by decide) fun G20 H20 k20 s20 S20 k20a k20b => ?_
        obtain ⟨n20, rfl⟩ : ∃ n : Nat, k20 = n := ⟨k20.toNat, by omega⟩
        fail "go"
        have rn : Rep G20 (dNet ln (vv i)) (.ref p19) := rep_net.mpr ⟨p19, p18, pv, rfl, by fail "gp", by fail "gp", s20.to (s19.to (s18.to (s17.to (s16.to e2))))⟩
        refine c_drw S20 (ln, vv i, n20) ⟨⟨_, rfl, rn⟩, lok, vl', vw', by show n20 ≤ 5; omega⟩ fun G21 H21 v21 s21 S21 o21 => ?_
        obtain ⟨at_, u, z, ds, hrs, rfl, eat, ru, rz, dl, hl21, dok, hb⟩ := o21
        dsimp only at dl hl21 dok
        fail "go"
        refine xs_disp S21 fun p22 H22 S22 => ?_
        refine x_pair ?_
        fail "go"
        refine x_pair ?_
        fail "go"
        refine x_pair ?_
        fail "go"
        refine x_pair0 ?_
        refine ls_disp (groupK (.ref p19) u z) S22 0 rfl rfl (Nat.le_of_ble_eq_true rfl) fun H23 S23 => ?_
        rw [mergeK_nil (groupK_nd _ _ _)] at S23
        obtain ⟨G24, s24, S24, e24⟩ := S23.fixD 0 rfl
        fail "go"
        have gvl : gv.length = i := by rw [rg.len, List.length_map, gl]
        refine ls_app (xs := gv) S24 0 rfl (by omega) fun H25 S25 => ?_
        have st : Sub G15 G24 := s16.tr (s17.tr (s18.tr (s19.tr (s20.tr (s21.tr s24)))))
        refine ⟨G24, gs ++ [⟨ln, vv i, ds, hrs⟩], gv ++ [V.ref p22], _, _, _, _, _, _, s15.tr st, rfl, S25, ?_, by rw [List.length_append, gl]; rfl, fun j g hj => ?_⟩
        · rw [List.map_append]
          exact (rg.mono st).snoc (rep_group.mpr ⟨p22, _, _, _, rfl, e24, rn.mono (s21.tr s24), ru.mono s24, rz.mono s24⟩)
        · by_cases hj2 : j < gs.length
          · rw [List.getElem?_append_left hj2] at hj
            exact gok j g hj
          · have hj3 := (List.getElem?_eq_some_iff.mp hj).1
            rw [List.length_append] at hj3
            have : j = gs.length := by simp at hj3; omega
            subst this
            rw [List.getElem?_concat_length] at hj
            cases hj
            rw [gl]
            exact ⟨⟨lok, vl', vw', dok, by rw [hl21, dl], hb⟩, h1, rfl⟩
      · obtain ⟨ps, ln, rfl, h1, h2, h3⟩ := hv
        rw [List.getElem?_map] at hj
        obtain ⟨x, hx, rfl⟩ := Option.map_eq_some_iff.mp hj
        have hxl := (List.getElem?_eq_some_iff.mp hx).1
        fail "go"
        refine n_fix S16 fun p17 G17 H17 s17 S17 e17 => ?_
        refine c_pickI S17 [0, 1, 10, 200, 500] e17 (by decide) (by decide) fun G18 H18 d s18 S18 hd => ?_
        fail "go"
        refine n_fix S18 fun p19 G19 H19 s19 S19 e19 => ?_
        have s1719 : Sub G16 G19 := s17.tr (s18.tr s19)
        refine lc_in (s16.tr s1719) S19 (by omega) (by omega) ⟨ps ++ [p19], ln ++ [(x, d)], by rw [List.map_append]; rfl, ?_, fun p hp => ?_, pr_snoc (pr_mono (fun t y e => s1719.to e) h3) e19⟩
        · rw [List.map_append, h1, List.take_add_one, hx]
          rfl
        · rcases List.mem_append.mp hp with hp | hp
          · exact h2 p hp
          · rw [List.mem_singleton.mp hp]
            show 0 ≤ d ∧ d ≤ 500
            simp at hd
            omega
end
section
variable {P : Program} {w : World} {K : PySem.W.Frag} {mg : Str → Option Value} {base : Heap} [TL]
def spBridge : Sp := Drw (fun G vs (x : Grp × Grp) => (∃ v, vs = [v] ∧ Rep G (.lst [dGroup x.1, dGroup x.2]) v) ∧ GrpOk x.1 ∧ GrpOk x.2 ∧ x.1.ds ≠ [] ∧ x.2.ds ≠ []) fun G _ x v => ∃ (a : Addr) (e0 e1 : Nat) (least most : Int), v = .ref a ∧ G a = some (.tup [.int e0, .int e1, .int least, .int most]) ∧ e0 < x.1.ds.length ∧ e1 < x.2.ds.length ∧ 0 ≤ least ∧ least ≤ most ∧ most ≤ 1000000
theorem ok_law_bridge (T : Txt K mg) : FnOk P w K mg base CX0 3 T.law_bridge.a T.law_bridge.fd ["_law_draw", "_law_groups_here"] spBridge := by
  refine T.law_bridge.F.ok sc_law_bridge (fun vs H Q E h => ?_) (fun cdv A outer s H vs Q E hr h => ?_)
  · obtain ⟨n, G, D, ws, rfl, _, ⟨⟨_, rfl, _⟩, _⟩, _⟩ := h
    rfl
  · obtain ⟨⟨g0, g1⟩, G, D, ws, rfl, k, ⟨⟨v, rfl, rg⟩, ok0, ok1, ne0, ne1⟩, q⟩ := h
    dsimp only at rg ok0 ok1 ne0 ne1 q
    obtain ⟨pg, _, rfl, eg, v0, _, rfl, r0, v1, _, rfl, r1, rfl⟩ := rg
    obtain ⟨a0, n0, d0, h0, rfl, ea0, _, rd0, rh0⟩ := rep_group.mp r0
    obtain ⟨a1, n1', d1, h1, rfl, ea1, _, rd1, rh1⟩ := rep_group.mp r1
    obtain ⟨b0, f0, rfl, eb0, rf0⟩ := rep_deeds.mp rd0
    obtain ⟨b1, f1, rfl, eb1, rf1⟩ := rep_deeds.mp rd1
    obtain ⟨c0, rfl, ec0⟩ := rep_ints.mp rh0
    obtain ⟨c1, rfl, ec1⟩ := rep_ints.mp rh1
    have l0 : f0.length = g0.ds.length := by rw [rf0.len, List.length_map]
    have l1 : f1.length = g1.ds.length := by rw [rf1.len, List.length_map]
    have q0 := List.length_pos_iff.mpr ne0
    have q1 := List.length_pos_iff.mpr ne1
    have z0 := ok0.ds.len
    have z1 := ok1.ds.len
    have hu := hu_of hr
    have S := Sta.startD k
    refine ⟨_, (pss_cons (ps_asg (pe_lc (own := [("_law_group", 6)]) rfl sc_law_bridge.nd (y_iL (K := K) rfl (pv 1)) (blkOk_by (own := [("_law_group", 6)]) (N := n_law_bridge) (sc := defScope s_law_bridge) (by decide +kernel)) (fun _ _ _ _ _ => (pg_name (i := 6) sc_law_bridge.nd rfl (Or.inl rfl))) (fun _ _ _ _ _ => pts_nil) (fun _ _ _ _ _ => (pe_call (ok_law_take T) (hr.mono (by decide)) rfl T.law_take.g T.law_take.F.kp T.law_take.b .nil pass0 (pa_cons (pv 0) (pa_cons (pe_callB (y_len (K := K) rfl) rfl T.z_len (by decide +kernel) (pa_cons (pe_dget hu (pv 6) pe_str (fun _ _ => rfl)) pa_nil)) pa_nil))))) (y_gUnl (K := K) (n := 2) rfl rfl (pgs_cons (pg_name (i := 2) sc_law_bridge.nd rfl (Or.inl rfl)) (pgs_cons (pg_name (i := 3) sc_law_bridge.nd rfl (Or.inl rfl)) pgs_nil))))
  (pss_cons (ps_set (i := 4) sc_law_bridge.nd rfl (Or.inl rfl) (pe_op op_add (pe_op op_sub (pe_ix (y_ixL (K := K) rfl) (pe_dget hu (pe_ix (y_ixL (K := K) rfl) (pv 1) pe_int (fun _ _ => rfl)) pe_str (fun _ _ => rfl)) (pv 3) (fun _ _ => rfl)) (pe_ix (y_ixL (K := K) rfl) (pe_dget hu (pe_ix (y_ixL (K := K) rfl) (pv 1) pe_int (fun _ _ => rfl)) pe_str (fun _ _ => rfl)) (pv 2) (fun _ _ => rfl))) (pe_call (ok_law_pick T) (hr.mono (by decide)) rfl T.law_pick.g T.law_pick.F.kp T.law_pick.b .nil pass0 (pa_cons (pv 0) (pa_cons (pe_lst (pa_cons pe_int (pa_cons pe_int (pa_cons pe_int (pa_cons pe_int (pa_cons (pe_un un_neg pe_int) pa_nil)))))) pa_nil)))))
  (pss_cons (ps_set (i := 5) sc_law_bridge.nd rfl (Or.inl rfl) (pe_callB (k_max2 rfl) rfl T.z_max (by decide +kernel) (pa_cons pe_int (pa_cons (pe_op op_sub (pv 4) (pe_call (ok_law_pick T) (hr.mono (by decide)) rfl T.law_pick.g T.law_pick.F.kp T.law_pick.b .nil pass0 (pa_cons (pv 0) (pa_cons (pe_lst (pa_cons pe_int (pa_cons pe_int (pa_cons pe_int (pa_cons pe_int pa_nil))))) pa_nil)))) pa_nil))))
  (pss_one (ps_ret (pe_tup (pa_cons (pv 2) (pa_cons (pv 3) (pa_cons (pv 5) (pa_cons (pe_op op_add (pe_callB (k_max2 rfl) rfl T.z_max (by decide +kernel) (pa_cons (pv 5) (pa_cons (pv 4) pa_nil))) (pe_call (ok_law_pick T) (hr.mono (by decide)) rfl T.law_pick.g T.law_pick.F.kp T.law_pick.b .nil pass0 (pa_cons (pv 0) (pa_cons (pe_lst (pa_cons pe_int (pa_cons pe_int (pa_cons pe_int (pa_cons pe_int pa_nil))))) pa_nil)))) pa_nil)))))))))), ?_⟩
    fail "go"
    refine lc_l (xs := [.ref a0, .ref a1]) S (fun i G acc => ∃ es : List Nat, acc = (es.map Int.ofNat).map V.int ∧ es.length = i ∧ ∀ j e, es[j]? = some e → e < (if j = 0 then g0 else g1).ds.length) ⟨[], rfl, rfl, fun j e z => by simp at z⟩ (fun G1 H1 x s1 S1 => S1.isin (s1.to eg)) (fun l G1 H1 acc s1 S1 hl hv => ?_) (fun i v l G1 H1 acc hi s1 S1 hl hv => ?_)
    · obtain ⟨es, rfl, hes, hb⟩ := hv
      have hes : es.length = 2 := hes
      obtain ⟨e0, e1, rfl⟩ : ∃ e0 e1, es = [e0, e1] := by
        match es, hes with
        | [e0, e1], _ => exact ⟨e0, e1, rfl⟩
      replace S1 : Sta D.has (some D) G H G1 H1 [(l, .lst [V.int (e0 : Int), V.int (e1 : Int)])] := S1
      have b0' : e0 < g0.ds.length := hb 0 e0 rfl
      have b1' : e1 < g1.ds.length := hb 1 e1 rfl
      have hh0 : e0 < g0.hrs.length := by rw [ok0.hlen]; exact b0'
      have hh1 : e1 < g1.hrs.length := by rw [ok1.hlen]; exact b1'
      have bb0 := ok0.hb _ (List.getElem_mem hh0)
      have bb1 := ok1.hb _ (List.getElem_mem hh1)
      fail "go"
      refine l_dgS (by fail "hp") (group_hours _ _ _) ?_
      fail "go"
      refine l_ixL (H := H1) (p := c1) (by fail "hp") (v := .int g1.hrs[e1]) (atI_nat (j := e1) (by rw [List.getElem?_map, List.getElem?_eq_getElem hh1]; rfl)) ?_
      fail "go"
      refine l_dgS (by fail "hp") (group_hours _ _ _) ?_
      fail "go"
      refine l_ixL (H := H1) (p := c0) (by fail "hp") (v := .int g0.hrs[e0]) (atI_nat (j := e0) (by rw [List.getElem?_map, List.getElem?_eq_getElem hh0]; rfl)) ?_
      fail "go"
      refine n_fix S1 fun p2 G2 H2 s2 S2 e2 => ?_
      refine c_pickI S2 [0, 0, 0, 3000, -900] e2 (by decide) (by decide) fun G3 H3 x3 s3 S3 hx3 => ?_
      have hx3' : -900 ≤ x3 ∧ x3 ≤ 3000 := by simp at hx3; omega
      obtain ⟨way, ew, w0, w1⟩ : ∃ way : Int, g1.hrs[e1] - g0.hrs[e0] + x3 = way ∧ -300000 ≤ way ∧ way ≤ 300000 := ⟨_, rfl, by omega, by omega⟩
      fail "go"
      rw [ew]
      refine n_fix S3 fun p4 G4 H4 s4 S4 e4 => ?_
      refine c_pickI S4 [0, 0, 50, 2000] e4 (by decide) (by decide) fun G5 H5 x5 s5 S5 hx5 => ?_
      have hx5' : 0 ≤ x5 ∧ x5 ≤ 2000 := by simp at hx5; omega
      obtain ⟨least, el, m0, m1⟩ : ∃ least : Int, (if way - x5 > 0 then way - x5 else 0) = least ∧ 0 ≤ least ∧ least ≤ 300000 := ⟨_, rfl, by split <;> omega, by split <;> omega⟩
      fail "go"
      rw [el]
      refine n_fix S5 fun p6 G6 H6 s6 S6 e6 => ?_
      refine c_pickI S6 [0, 0, 70, 1500] e6 (by decide) (by decide) fun G7 H7 x7 s7 S7 hx7 => ?_
      have hx7' : 0 ≤ x7 ∧ x7 ≤ 1500 := by simp at hx7; omega
      fail "go"
      refine n_fix S7 fun p8 G8 H8 s8 S8 e8 => ?_
      exact q _ _ _ S8.go S8.ok ⟨p8, e0, e1, least, _, rfl, e8, b0', b1', m0, by split <;> omega, by split <;> omega⟩
    · obtain ⟨es, rfl, hes, hb⟩ := hv
      have hi2 : i < 2 := (List.getElem?_eq_some_iff.mp hi).1
      obtain ⟨a, n, d, h, rfl, ea, fv, ed, fl⟩ : ∃ a n d h, v = .ref a ∧ G1 a = some (.dK (groupK n (.ref d) h)) ∧ ∃ fv : List V, G1 d = some (.lst fv) ∧ fv.length = (if i = 0 then g0 else g1).ds.length := by
        have : i = 0 ∨ i = 1 := by omega
        rcases this with rfl | rfl
        · cases hi
          exact ⟨a0, _, _, _, rfl, s1.to ea0, f0, s1.to eb0, l0⟩
        · cases hi
          exact ⟨a1, _, _, _, rfl, s1.to ea1, f1, s1.to eb1, l1⟩
      have fb : 1 ≤ fv.length ∧ fv.length ≤ 5 := by
        rw [fl]
        split <;> omega
      fail "go"
      refine l_dgS (by fail "hp") (group_deeds _ _ _) ?_
      fail "go"
      refine c_take S1 fv.length (by omega) (by omega) fun G2 H2 k2 s2 S2 k2a k2b => ?_
      obtain ⟨n2, rfl⟩ : ∃ n : Nat, k2 = n := ⟨k2.toNat, by omega⟩
      fail "go"
      refine lc_in (s1.tr s2) S2 (by omega) (by omega) ⟨es ++ [n2], by rw [List.map_append, List.map_append]; rfl, by rw [List.length_append, hes]; rfl, fun j e hj => ?_⟩
      by_cases hj2 : j < es.length
      · rw [List.getElem?_append_left hj2] at hj
        exact hb j e hj
      · have hj3 := (List.getElem?_eq_some_iff.mp hj).1
        rw [List.length_append] at hj3
        have : j = es.length := by simp at hj3; omega
        subst this
        rw [List.getElem?_concat_length] at hj
        cases hj
        rw [hes, ← fl]
        omega
end
section
variable {P : Program} {w : World} {K : PySem.W.Frag} {mg : Str → Option Value} {base : Heap} [TL]
def kI : Bool → Int
  | false => 0
  | true => 1
structure WvIn where
  D : Bool → List (Sh.Deed Str)
structure WvArgs (G : Hp) (gl : Addr) (D : Bool → List (Sh.Deed Str)) : Prop where
  rep : ∃ (a d : Bool → Addr) (kv : Bool → List (Key × V)) (f : Bool → List V), G gl = some (.lst [.ref (a false), .ref (a true)]) ∧ ∀ k, G (a k) = some (.dK (kv k)) ∧ valV (kv k) (kk "deeds") = some (.ref (d k)) ∧ G (d k) = some (.lst (f k)) ∧ RepL G ((D k).map dDeed) (f k)
  len : ∀ k, (D k).length ≤ 5
  bk : ∀ k, Backs (D k)
  few : ∀ k, ∀ d ∈ D k, d.notes.length ≤ 3
def spWoven : Sp := fun vs H Q _ => ∃ (x : WvIn) (G : Hp) (D : Dr) (gl : Addr), vs = [.ref D.d, .ref gl] ∧ Ok D G H ∧ WvArgs G gl x.D ∧
  ∀ (G' H' : Hp) (a pf pls q0 q1 : Addr) (fv : List V) (found : List (Sh.Deed Str)) (pl : Bool → List Nat), Sta D.has (some D) G H G' H' [(q1, .lst (nInts (pl true))), (q0, .lst (nInts (pl false))), (pf, .lst fv)] →
    G' a = some (.tup [.ref pf, .ref pls]) → G' pls = some (.lst [.ref q0, .ref q1]) → RepL G' (found.map dDeed) fv → Wv x.D (fun _ _ => []) found pl → (∀ k, (pl k).length = (x.D k).length) → Q (.ref a) H'
theorem nInts_app (l : List Nat) (n : Nat) : nInts l ++ [V.int (n : Nat)] = nInts (l ++ [n]) := by
  unfold nInts
  rw [List.map_append]
  rfl
theorem ok_law_woven (T : Txt K mg) : FnOk P w K mg base CX0 2 T.law_woven.a T.law_woven.fd ["_law_draw", "_law_groups_here"] spWoven := by
  refine T.law_woven.F.ok sc_law_woven (fun vs H Q E h => ?_) (fun cdv A outer s H vs Q E hr h => ?_)
  · obtain ⟨_, _, _, _, rfl, _⟩ := h
    rfl
  · obtain ⟨⟨DD⟩, G, D, gl, rfl, k, wa, q⟩ := h
    dsimp only at wa q
    obtain ⟨a, d, kv, f, egl, hk⟩ := wa.rep
    have fl' : ∀ k, (f k).length = (DD k).length := fun k => by rw [(hk k).2.2.2.len, List.length_map]
    have hu := hu_of hr
    have S := Sta.startD k
    refine ⟨_, (pss_cons (ps_asg (pe_tup (pa_cons (pe_lst pa_nil) (pa_cons (pe_lst (pa_cons (pe_lst pa_nil) (pa_cons (pe_lst pa_nil) pa_nil))) pa_nil))) (y_gTup (K := K) (n := 2) rfl rfl (pgs_cons (pg_name (i := 2) sc_law_woven.nd rfl (Or.inl rfl)) (pgs_cons (pg_name (i := 3) sc_law_woven.nd rfl (Or.inr rfl)) pgs_nil))))
  (pss_cons (ps_while PassesOwn.never (pt_cmpR op_lt (pe_callB (y_len (K := K) rfl) rfl T.z_len (by decide +kernel) (pa_cons (pv 2) pa_nil)) (pe_op op_add (pe_callB (y_len (K := K) rfl) rfl T.z_len (by decide +kernel) (pa_cons (pe_dget hu (pe_ix (y_ixL (K := K) rfl) (pv 1) pe_int (fun _ _ => rfl)) pe_str (fun _ _ => rfl)) pa_nil)) (pe_callB (y_len (K := K) rfl) rfl T.z_len (by decide +kernel) (pa_cons (pe_dget hu (pe_ix (y_ixL (K := K) rfl) (pv 1) pe_int (fun _ _ => rfl)) pe_str (fun _ _ => rfl)) pa_nil))) (nomark _))
  (pss_cons (ps_set (i := 4) sc_law_woven.nd rfl (Or.inr rfl) (pe_call (ok_law_take T) (hr.mono (by decide)) rfl T.law_take.g T.law_take.F.kp T.law_take.b .nil pass0 (pa_cons (pv 0) (pa_cons pe_int pa_nil))))
  (pss_cons (ps_if (pt_cmpR op_eq (pe_callB (y_len (K := K) rfl) rfl T.z_len (by decide +kernel) (pa_cons (pe_ix (y_ixL (K := K) rfl) (pv 3) (pv 4) (fun _ _ => rfl)) pa_nil)) (pe_callB (y_len (K := K) rfl) rfl T.z_len (by decide +kernel) (pa_cons (pe_dget hu (pe_ix (y_ixL (K := K) rfl) (pv 1) (pv 4) (fun _ _ => rfl)) pe_str (fun _ _ => rfl)) pa_nil)) (nomark _))
  (pss_one (ps_set (i := 4) sc_law_woven.nd rfl (Or.inr rfl) (pe_op op_sub pe_int (pv 4))))
  pss_nil)
  (pss_cons (ps_asg (pe_ix (y_ixL (K := K) rfl) (pe_dget hu (pe_ix (y_ixL (K := K) rfl) (pv 1) (pv 4) (fun _ _ => rfl)) pe_str (fun _ _ => rfl)) (pe_callB (y_len (K := K) rfl) rfl T.z_len (by decide +kernel) (pa_cons (pe_ix (y_ixL (K := K) rfl) (pv 3) (pv 4) (fun _ _ => rfl)) pa_nil)) (fun _ _ => rfl)) (y_gTup (K := K) (n := 3) rfl rfl (pgs_cons (pg_name (i := 5) sc_law_woven.nd rfl (Or.inl rfl)) (pgs_cons (pg_name (i := 6) sc_law_woven.nd rfl (Or.inl rfl)) (pgs_cons (pg_name (i := 7) sc_law_woven.nd rfl (Or.inl rfl)) pgs_nil)))))
  (pss_cons (ps_setLc (i := 8) (own := [("_law_note", 9)]) rfl sc_law_woven.nd rfl rfl (sw_true rfl rfl rfl (by decide +kernel)) (y_iT (K := K) rfl (pv 7)) (blkOk_by (own := [("_law_note", 9)]) (N := n_law_woven) (sc := defScope s_law_woven) (by decide +kernel)) (fun _ _ _ _ _ => (pg_name (i := 9) sc_law_woven.nd rfl (Or.inl rfl))) (fun _ _ _ _ _ => pts_nil) (fun _ _ _ _ _ => (pe_ifExp (pt_cmpR op_eq (pe_ix (y_ixT (K := K) rfl) (pv 9) pe_int (fun _ _ => rfl)) pe_str (nomark _)) (pe_op (y_catA (K := K) rfl) (pe_tup (pa_cons pe_str (pa_cons (pe_ix (y_ixL (K := K) rfl) (pe_ix (y_ixL (K := K) rfl) (pv 3) (pv 4) (fun _ _ => rfl)) (pe_ix (y_ixT (K := K) rfl) (pv 9) pe_int (fun _ _ => rfl)) (fun _ _ => rfl)) pa_nil))) (pe_slice (y_slT (K := K) rfl) (pv 9) (po_some pe_int) po_none)) (pv 9))))
  (pss_cons (ps_expr (y_app (K := K) rfl (pe_ix (y_ixL (K := K) rfl) (pv 3) (pv 4) (fun _ _ => rfl)) (pa_cons (pe_callB (y_len (K := K) rfl) rfl T.z_len (by decide +kernel) (pa_cons (pv 2) pa_nil)) pa_nil)))
  (pss_one (ps_expr (y_app (K := K) rfl (pv 2) (pa_cons (pe_tup (pa_cons (pv 5) (pa_cons (pv 6) (pa_cons (pe_callTy (y_tup (K := K) rfl) rfl T.z_tuple (by decide +kernel) (pa_cons (pv 8) pa_nil)) pa_nil)))) pa_nil))))))))))
  (pss_one (ps_ret (pe_tup (pa_cons (pv 2) (pa_cons (pv 3) pa_nil))))))), ?_⟩
    fail "go"
    refine n_own S fun pf H1 S1 => ?_
    fail "go"
    refine n_own S1 fun q0 H2 S2 => ?_
    fail "go"
    refine n_own S2 fun q1 H3 S3 => ?_
    fail "go"
    refine n_fix S3 fun pls G4 H4 s4 S4 e4 => ?_
    fail "go"
    refine n_fix S4 fun pt G5 H5 s5 S5 e5 => ?_
    fail "go"
    refine while_n (fun m σ H1 => ∃ (G6 : Hp) (fv : List V) (found : List (Sh.Deed Str)) (pl : Bool → List Nat) (x4 x5 x6 x7 x8 : Option V), Sub G5 G6 ∧ σ = [some (.ref D.d), some (.ref gl), some (.ref pf), some (.ref pls), x4, x5, x6, x7, x8, none] ∧
      Sta D.has (some D) G H G6 H1 [(q1, .lst (nInts (pl true))), (q0, .lst (nInts (pl false))), (pf, .lst fv)] ∧ RepL G6 (found.map dDeed) fv ∧ Wv DD (fun _ _ => []) found pl ∧ m + found.length = (DD false).length + (DD true).length)
      ((DD false).length + (DD true).length) ⟨G5, [], [], fun _ => [], none, none, none, none, none, Sub.rfl' _, rfl, S5, rfl, Wv.start _ _, rfl⟩ fun m σ H6 h => ?_
    obtain ⟨G6, fv, found, pl, x4, x5, x6, x7, x8, s6, rfl, S6, rf, wv, hm⟩ := h
    have fvl : fv.length = found.length := by rw [rf.len, List.length_map]
    have b0 := wa.len false
    have b1 := wa.len true
    have sg : Sub G G6 := s4.tr (s5.tr s6)
    have egl6 := sg.to egl
    have e4' : G6 pls = _ := s6.to (s5.to e4)
    fail "go"
    refine l_dgS (kvs := kv false) (by exact S6.isin (sg.to (hk false).1)) (hk false).2.1 ?_
    refine x_nil ?_
    refine l_lenL (S6.isin (sg.to (hk false).2.2.1)) ?_
    fail "go"
    refine l_dgS (kvs := kv true) (by exact S6.isin (sg.to (hk true).1)) (hk true).2.1 ?_
    refine x_nil ?_
    refine l_lenL (S6.isin (sg.to (hk true).2.2.1)) ?_
    fail "go"
    refine l_ifd (fun hlt => ?_) (fun hge => ?_)
    · have hlt' : found.length < (DD false).length + (DD true).length := by have := fl' false; have := fl' true; omega
      let qq : Bool → Addr := fun k => match k with | false => q0 | true => q1
      let iq : Bool → Nat := fun k => match k with | false => 1 | true => 0
      have hiq : ∀ k, ([(q1, HO.lst (nInts (pl true))), (q0, HO.lst (nInts (pl false))), (pf, HO.lst fv)] : List (Addr × HO))[iq k]? = some (qq k, .lst (nInts (pl k))) := fun k => by cases k <;> rfl
      have hpl : ∀ k, atI [V.ref q0, V.ref q1] (kI k) = some (.ref (qq k)) := fun k => by cases k <;> rfl
      have hgr : ∀ k, atI [V.ref (a false), V.ref (a true)] (kI k) = some (.ref (a k)) := fun k => by cases k <;> rfl
      fail "go"
      refine c_take S6 2 (by decide) (by decide) fun G7 H7 kk0 s7 S7 k7a k7b => ?_
      obtain ⟨k0, rfl⟩ : ∃ k0 : Bool, kk0 = kI k0 := by
        have : kk0 = 0 ∨ kk0 = 1 := by omega
        rcases this with rfl | rfl
        · exact ⟨false, rfl⟩
        · exact ⟨true, rfl⟩
      fail "go"
      refine x_seqC (fun σ H' => ∃ k1 : Bool, σ = [some (.ref D.d), some (.ref gl), some (.ref pf), some (.ref pls), some (.int (kI k1)), x5, x6, x7, x8, none] ∧ H' = H7 ∧ (pl k1).length < (DD k1).length) (fun σ H8 h => ?_) (fun nx => ?_)
      · obtain ⟨k1, rfl, rfl, hk1⟩ := h
        have sg7 : Sub G G7 := sg.tr s7
        have e47 : G7 pls = _ := s7.to e4'
        obtain ⟨de, hde⟩ : ∃ de, (DD k1)[(pl k1).length]? = some de := ⟨_, List.getElem?_eq_getElem hk1⟩
        have hf : ∃ v, (f k1)[(pl k1).length]? = some v ∧ Rep G (dDeed de) v := (hk k1).2.2.2.get (by rw [List.getElem?_map, hde]; rfl)
        obtain ⟨v, hfv, rv⟩ := hf
        obtain ⟨t, nt, rfl, et, rnt⟩ := rep_deed.mp rv
        obtain ⟨pn, nv, rfl, epn, rnv⟩ := rep_notes.mp rnt
        fail "go"
        refine l_ixL (S7.isin (s7.to (s6.to (s5.to (s4.to egl))))) (hgr k1) ?_
        fail "go"
        refine l_dgS (kvs := kv k1) (S7.isin (sg7.to (hk k1).1)) (hk k1).2.1 ?_
        fail "go"
        refine l_ixL (S7.isin e47) (hpl k1) ?_
        refine x_nil ?_
        refine l_lenL (S7.at (hiq k1)) ?_
        have nl : (nInts (pl k1)).length = (pl k1).length := by unfold nInts; rw [List.length_map]
        rw [nl]
        refine l_ixL (S7.isin (sg7.to (hk k1).2.2.1)) (atI_nat hfv) ?_
        refine x_gTup (S7.isin (sg7.to et)) rfl ?_
        fail "go"
        refine lc_carry (pl := pl k1) (q := qq k1) (notes := de.notes) S7 (sg7.to epn) (rnv.mono sg7) (by have := wa.few k1 de (List.mem_of_getElem? hde); omega) (fun j l m hj => wa.bk k1 _ de hde j l m hj) (iq k1) (hiq k1) (fun c G1 H1 x R s1 S1 r => ?_) (fun c => rfl) (fun c => rfl) (fun l G8 H8 cv s8 S8 rc => ?_)
        · fail "go"
          refine l_ixL (S1.isin (s1.to e47)) (hpl k1) ?_
          exact r
        · fail "go"
          refine l_ixL (S8.isin (s8.to e47)) (hpl k1) ?_
          have hiq8 : ∀ k, ((l, HO.lst cv) :: [(q1, HO.lst (nInts (pl true))), (q0, HO.lst (nInts (pl false))), (pf, HO.lst fv)] : List (Addr × HO))[iq k + 1]? = some (qq k, .lst (nInts (pl k))) := hiq
          refine ⟨.inl ⟨rfl, _, SqL.of (S8.at (hiq8 k1))⟩, ?_⟩
          fail "go"
          refine ls_app S8 (iq k1 + 1) (hiq8 k1) (by rw [nl]; have := wa.len k1; omega) fun H9 S9 => ?_
          have eL : (((l, HO.lst cv) :: [(q1, HO.lst (nInts (pl true))), (q0, HO.lst (nInts (pl false))), (pf, HO.lst fv)] : List (Addr × HO))).set (iq k1 + 1) (qq k1, .lst (nInts (pl k1) ++ [.int fv.length])) = [(l, HO.lst cv), (q1, HO.lst (nInts ((fun k' => if k' = k1 then pl k1 ++ [found.length] else pl k') true))), (q0, HO.lst (nInts ((fun k' => if k' = k1 then pl k1 ++ [found.length] else pl k') false))), (pf, HO.lst fv)] := by
            rw [fvl]
            cases k1 with
            | false => rw [nInts_app]; rfl
            | true => rw [nInts_app]; rfl
          rw [eL] at S9
          fail "go"
          refine n_fix S9 fun p10 G10 H10 s10 S10 e10 => ?_
          fail "go"
          refine n_fix S10 fun p11 G11 H11 s11 S11 e11 => ?_
          fail "go"
          refine ls_app (xs := fv) S11 3 rfl (by omega) fun H12 S12 => ?_
          have st : Sub G6 G11 := s7.tr (s8.tr (s10.tr s11))
          have wv2 := wv.step wa.bk k1 hde
          have cl := wv2.len
          refine ⟨m - 1, by omega, G11, fv ++ [V.ref p11], found ++ [carry (pl k1) de []], (fun k' => if k' = k1 then pl k1 ++ [found.length] else pl k'), _, _, _, _, _, s6.tr st, rfl, S12.drop 0, ?_, wv2, ?_⟩
          · rw [List.map_append]
            refine (rf.mono st).snoc (rep_deed.mpr ⟨p11, _, rfl, e11, rep_notes.mpr ⟨p10, cv, rfl, s11.to e10, ?_⟩⟩)
            show RepL G11 (List.map dNote (List.map (Sh.Note.ren (fl (pl k1))) de.notes ++ [])) cv
            rw [List.append_nil]
            exact rc.mono (s10.tr s11)
          · rw [List.length_append]
            show m - 1 + (found.length + 1) = _
            omega
      · fail "go"
        refine l_ixL (S7.isin (s7.to e4')) (hpl k0) ?_
        refine x_nil ?_
        refine l_lenL (S7.at (hiq k0)) ?_
        fail "go"
        refine l_ixL (S7.isin (s7.to egl6)) (hgr k0) ?_
        fail "go"
        refine l_dgS (kvs := kv k0) (S7.isin (s7.to (sg.to (hk k0).1))) (hk k0).2.1 ?_
        refine x_nil ?_
        refine l_lenL (S7.isin (s7.to (sg.to (hk k0).2.2.1))) ?_
        have nl : (nInts (pl k0)).length = (pl k0).length := by unfold nInts; rw [List.length_map]
        rw [nl, fl' k0]
        have wl := wv.len
        have wn := wv.n
        have wn0 := wn false
        have wn1 := wn true
        rw [fl' false, fl' true] at hlt
        fail "go"
        refine l_ifd (fun he => ?_) (fun hne => ?_)
        · have he' : (pl k0).length = (DD k0).length := by have := V.int.inj he; omega
          fail "go"
          refine nx _ _ ⟨!k0, ?_, rfl, ?_⟩
          · cases k0 <;> rfl
          · cases k0 with
            | false => show (pl true).length < (DD true).length; omega
            | true => show (pl false).length < (DD false).length; omega
        · fail "go"
          refine nx _ _ ⟨k0, rfl, rfl, ?_⟩
          have : (pl k0).length ≠ (DD k0).length := fun z => hne (by rw [z])
          have := wn k0
          omega
    · have wl := wv.len
      have wn0 := wv.n false
      have wn1 := wv.n true
      rw [fl' false, fl' true] at hge
      fail "go"
      refine n_fix S6 fun p7 G7 H7 s7 S7 e7 => ?_
      exact q _ _ _ _ _ _ _ _ _ _ S7 e7 (s7.to e4') (rf.mono s7) wv fun k => by
        cases k
        · omega
        · omega
end
section
variable {P : Program} {w : World} {K : PySem.W.Frag} {mg : Str → Option Value} {base : Heap} [TL]
def dsOf (g0 g1 : Grp) : Bool → List (Sh.Deed Str)
  | false => g0.ds
  | true => g1.ds
def Xf (e1 a : Nat) (least most : Int) : Bool → Nat → List (Sh.Note Str) := fun k i => if k = true ∧ i = e1 then [.frm a least most] else []
structure JnIn where
  g0 : Grp
  g1 : Grp
  e0 : Nat
  e1 : Nat
  least : Int
  most : Int
def spJoined : Sp := Drw (fun G vs (x : JnIn) => (∃ v b, vs = [v, .ref b] ∧ Rep G (.lst [dGroup x.g0, dGroup x.g1]) v ∧ G b = some (.tup [.int x.e0, .int x.e1, .int x.least, .int x.most])) ∧ GrpOk x.g0 ∧ GrpOk x.g1 ∧ x.e0 < x.g0.ds.length ∧ x.e1 < x.g1.ds.length)
  fun G _ x v => ∃ (found : List (Sh.Deed Str)) (pl : Bool → List Nat), Rep G (dDeeds found) v ∧ Wv (dsOf x.g0 x.g1) (Xf x.e1 (fl (pl false) x.e0) x.least x.most) found pl ∧ (∀ k, (pl k).length = (dsOf x.g0 x.g1 k).length) ∧ fl (pl false) x.e0 < fl (pl true) x.e1
theorem backs_of {lean : List (Str × Int)} {vs : List Str} {ds : List (Sh.Deed Str)} (ok : DeedsOk lean vs ds) : Backs ds := fun i d hd j l m hj => ((ok.notes i d hd).2 _ hj).1
theorem ok_law_joined (T : Txt K mg) : FnOk P w K mg base CX0 3 T.law_joined.a T.law_joined.fd ["_law_draw", "_law_groups_here", "_law_bridge_here"] spJoined := by
  refine T.law_joined.F.ok sc_law_joined (fun vs H Q E h => ?_) (fun cdv A outer s H vs Q E hr h => ?_)
  · obtain ⟨_, _, _, _, rfl, _, ⟨⟨_, _, rfl, _⟩, _⟩, _⟩ := h
    rfl
  · obtain ⟨⟨g0, g1, e0, e1, least, most⟩, G, D, ws, rfl, k, ⟨⟨v, b, rfl, rg, eb⟩, ok0, ok1, he0, he1⟩, q⟩ := h
    dsimp only at rg eb ok0 ok1 he0 he1 q
    obtain ⟨pg, _, rfl, eg, v0, _, rfl, r0, v1, _, rfl, r1, rfl⟩ := rg
    obtain ⟨a0, n0, d0, h0, rfl, ea0, _, rd0, _⟩ := rep_group.mp r0
    obtain ⟨a1, n1', d1, h1, rfl, ea1, _, rd1, _⟩ := rep_group.mp r1
    obtain ⟨b0, f0, rfl, eb0, rf0⟩ := rep_deeds.mp rd0
    obtain ⟨b1, f1, rfl, eb1, rf1⟩ := rep_deeds.mp rd1
    have bk0 := backs_of ok0.ds
    have bk1 := backs_of ok1.ds
    have z0 := ok0.ds.len
    have z1 := ok1.ds.len
    have hu := hu_of hr
    have S := Sta.startD k
    refine ⟨_, (pss_cons (ps_asg (pv 2) (y_gTup (K := K) (n := 4) rfl rfl (pgs_cons (pg_name (i := 3) sc_law_joined.nd rfl (Or.inl rfl)) (pgs_cons (pg_name (i := 4) sc_law_joined.nd rfl (Or.inl rfl)) (pgs_cons (pg_name (i := 5) sc_law_joined.nd rfl (Or.inl rfl)) (pgs_cons (pg_name (i := 6) sc_law_joined.nd rfl (Or.inl rfl)) pgs_nil))))))
  (pss_cons (ps_par (i := 7) (j := 8) rfl sc_law_joined.nd rfl rfl (by decide) rfl rfl (pa_cons (pe_dget hu (pe_ix (y_ixL (K := K) rfl) (pv 1) pe_int (fun _ _ => rfl)) pe_str (fun _ _ => rfl)) (pa_cons (pe_dget hu (pe_ix (y_ixL (K := K) rfl) (pv 1) pe_int (fun _ _ => rfl)) pe_str (fun _ _ => rfl)) pa_nil)) (by rfl))
  (pss_cons (ps_par (i := 9) (j := 10) rfl sc_law_joined.nd rfl rfl (by decide) rfl rfl (pa_cons (pe_disp (pps_cons pe_str (pe_slice (y_slL (K := K) rfl) (pv 7) po_none (po_some (pe_op op_add (pv 3) pe_int))) pps_nil) (by rfl) (by rfl) (fun z => by cases z) (by decide)) (pa_cons (pe_disp (pps_cons pe_str (pe_slice (y_slL (K := K) rfl) (pv 7) (po_some (pe_op op_add (pv 3) pe_int)) po_none) pps_nil) (by rfl) (by rfl) (fun z => by cases z) (by decide)) pa_nil)) (by rfl))
  (pss_cons (ps_asg (pe_call (ok_law_woven T) (hr.mono (by decide)) rfl T.law_woven.g T.law_woven.F.kp T.law_woven.b .nil pass0 (pa_cons (pv 0) (pa_cons (pe_lst (pa_cons (pv 9) (pa_cons (pe_disp (pps_cons pe_str (pe_slice (y_slL (K := K) rfl) (pv 8) po_none (po_some (pv 4))) pps_nil) (by rfl) (by rfl) (fun z => by cases z) (by decide)) pa_nil))) pa_nil))) (y_gTup (K := K) (n := 2) rfl rfl (pgs_cons (pg_name (i := 11) sc_law_joined.nd rfl (Or.inl rfl)) (pgs_cons (pg_name (i := 12) sc_law_joined.nd rfl (Or.inl rfl)) pgs_nil))))
  (pss_cons (ps_asg (pe_ix (y_ixL (K := K) rfl) (pv 8) (pv 4) (fun _ _ => rfl)) (y_gTup (K := K) (n := 3) rfl rfl (pgs_cons (pg_name (i := 13) sc_law_joined.nd rfl (Or.inl rfl)) (pgs_cons (pg_name (i := 14) sc_law_joined.nd rfl (Or.inl rfl)) (pgs_cons (pg_name (i := 15) sc_law_joined.nd rfl (Or.inl rfl)) pgs_nil)))))
  (pss_cons (ps_asg (pe_tup (pa_cons (pe_ix (y_ixL (K := K) rfl) (pv 12) pe_int (fun _ _ => rfl)) (pa_cons (pe_op op_cat (pe_ix (y_ixL (K := K) rfl) (pv 12) pe_int (fun _ _ => rfl)) (pe_lst (pa_cons (pe_callB (y_len (K := K) rfl) rfl T.z_len (by decide +kernel) (pa_cons (pv 11) pa_nil)) pa_nil))) pa_nil))) (y_gTup (K := K) (n := 2) rfl rfl (pgs_cons (pg_name (i := 16) sc_law_joined.nd rfl (Or.inl rfl)) (pgs_cons (pg_name (i := 17) sc_law_joined.nd rfl (Or.inr rfl)) pgs_nil))))
  (pss_cons (ps_setLc (i := 18) (own := [("_law_note", 22)]) rfl sc_law_joined.nd rfl rfl (sw_true rfl rfl rfl (by decide +kernel)) (y_iT (K := K) rfl (pv 15)) (blkOk_by (own := [("_law_note", 22)]) (N := n_law_joined) (sc := defScope s_law_joined) (by decide +kernel)) (fun _ _ _ _ _ => (pg_name (i := 22) sc_law_joined.nd rfl (Or.inl rfl))) (fun _ _ _ _ _ => pts_nil) (fun _ _ _ _ _ => (pe_ifExp (pt_cmpR op_eq (pe_ix (y_ixT (K := K) rfl) (pv 22) pe_int (fun _ _ => rfl)) pe_str (nomark _)) (pe_op (y_catA (K := K) rfl) (pe_tup (pa_cons pe_str (pa_cons (pe_ix (y_ixL (K := K) rfl) (pv 17) (pe_ix (y_ixT (K := K) rfl) (pv 22) pe_int (fun _ _ => rfl)) (fun _ _ => rfl)) pa_nil))) (pe_slice (y_slT (K := K) rfl) (pv 22) (po_some pe_int) po_none)) (pv 22))))
  (pss_cons (ps_expr (y_app (K := K) rfl (pv 11) (pa_cons (pe_tup (pa_cons (pv 13) (pa_cons (pv 14) (pa_cons (pe_op (y_catA (K := K) rfl) (pe_callTy (y_tup (K := K) rfl) rfl T.z_tuple (by decide +kernel) (pa_cons (pv 18) pa_nil)) (pe_tup (pa_cons (pe_tup (pa_cons pe_str (pa_cons (pe_ix (y_ixL (K := K) rfl) (pv 16) (pv 3) (fun _ _ => rfl)) (pa_cons (pv 5) (pa_cons (pv 6) pa_nil))))) pa_nil))) pa_nil)))) pa_nil)))
  (pss_cons (ps_for PassesOwn.never rfl (y_iL (K := K) rfl (pe_lst (pa_cons (pe_tup (pa_cons pe_int (pa_cons (pe_dget hu (pv 10) pe_str (fun _ _ => rfl)) pa_nil))) (pa_cons (pe_tup (pa_cons pe_int (pa_cons (pe_slice (y_slL (K := K) rfl) (pv 8) (po_some (pe_op op_add (pv 4) pe_int)) po_none) pa_nil))) pa_nil)))) (y_gTup (K := K) (n := 2) rfl rfl (pgs_cons (pg_name (i := 19) sc_law_joined.nd rfl (Or.inl rfl)) (pgs_cons (pg_name (i := 20) sc_law_joined.nd rfl (Or.inl rfl)) pgs_nil)))
  (pss_one (ps_for PassesOwn.never rfl (y_iL (K := K) rfl (pv 20)) (y_gTup (K := K) (n := 3) rfl rfl (pgs_cons (pg_name (i := 13) sc_law_joined.nd rfl (Or.inl rfl)) (pgs_cons (pg_name (i := 14) sc_law_joined.nd rfl (Or.inl rfl)) (pgs_cons (pg_name (i := 15) sc_law_joined.nd rfl (Or.inl rfl)) pgs_nil))))
  (pss_cons (ps_set (i := 21) sc_law_joined.nd rfl (Or.inr rfl) (pe_ix (y_ixL (K := K) rfl) (pe_lst (pa_cons (pv 16) (pa_cons (pv 17) pa_nil))) (pv 19) (fun _ _ => rfl)))
  (pss_cons (ps_setLc (i := 18) (own := [("_law_note", 22)]) rfl sc_law_joined.nd rfl rfl (sw_true rfl rfl rfl (by decide +kernel)) (y_iT (K := K) rfl (pv 15)) (blkOk_by (own := [("_law_note", 22)]) (N := n_law_joined) (sc := defScope s_law_joined) (by decide +kernel)) (fun _ _ _ _ _ => (pg_name (i := 22) sc_law_joined.nd rfl (Or.inl rfl))) (fun _ _ _ _ _ => pts_nil) (fun _ _ _ _ _ => (pe_ifExp (pt_cmpR op_eq (pe_ix (y_ixT (K := K) rfl) (pv 22) pe_int (fun _ _ => rfl)) pe_str (nomark _)) (pe_op (y_catA (K := K) rfl) (pe_tup (pa_cons pe_str (pa_cons (pe_ix (y_ixL (K := K) rfl) (pv 21) (pe_ix (y_ixT (K := K) rfl) (pv 22) pe_int (fun _ _ => rfl)) (fun _ _ => rfl)) pa_nil))) (pe_slice (y_slT (K := K) rfl) (pv 22) (po_some pe_int) po_none)) (pv 22))))
  (pss_cons (ps_expr (y_app (K := K) rfl (pv 21) (pa_cons (pe_callB (y_len (K := K) rfl) rfl T.z_len (by decide +kernel) (pa_cons (pv 11) pa_nil)) pa_nil)))
  (pss_one (ps_expr (y_app (K := K) rfl (pv 11) (pa_cons (pe_tup (pa_cons (pv 13) (pa_cons (pv 14) (pa_cons (pe_callTy (y_tup (K := K) rfl) rfl T.z_tuple (by decide +kernel) (pa_cons (pv 18) pa_nil)) pa_nil)))) pa_nil))))))))))
  (pss_one (ps_ret (pv 11)))))))))))), ?_⟩
    rw [show L2.start n_law_joined [V.ref D.d, V.ref pg, V.ref b] = [some (.ref D.d), some (.ref pg), some (.ref b), none, none, none, none, none, none, none, none, none, none, none, none, none, none, none, none, none, none, none, none] from rfl]
    fail "go"
    refine l_dgS (by fail "hp") (group_deeds _ _ _) ?_
    fail "go"
    refine l_dgS (by fail "hp") (group_deeds _ _ _) ?_
    fail "go"
    refine xs_disp S fun p1 H1 S1 => ?_
    refine x_pair ?_
    fail "go"
    rw [show (e0 : Int) + 1 = ((e0 + 1 : Nat) : Int) from rfl, cut_take]
    refine n_fix S1 fun p2 G2 H2 s2 S2 e2 => ?_
    refine x_pair0 ?_
    refine ls_disp [(kk "deeds", .ref p2)] S2 0 rfl rfl (Nat.le_of_ble_eq_true rfl) fun H3 S3 => ?_
    obtain ⟨G3, s3, S3', e3⟩ := S3.fixD 0 rfl
    fail "go"
    refine xs_disp S3' fun p4 H4 S4 => ?_
    refine x_pair ?_
    fail "go"
    rw [show (e0 : Int) + 1 = ((e0 + 1 : Nat) : Int) from rfl, cut_drop]
    refine n_fix S4 fun p5 G5 H5 s5 S5 e5 => ?_
    refine x_pair0 ?_
    refine ls_disp [(kk "deeds", .ref p5)] S5 0 rfl rfl (Nat.le_of_ble_eq_true rfl) fun H6 S6 => ?_
    obtain ⟨G6, s6, S6', e6⟩ := S6.fixD 0 rfl
    fail "go"
    refine xs_disp S6' fun p7 H7 S7 => ?_
    refine x_pair ?_
    fail "go"
    rw [cut_take]
    refine n_fix S7 fun p8 G8 H8 s8 S8 e8 => ?_
    refine x_pair0 ?_
    refine ls_disp [(kk "deeds", .ref p8)] S8 0 rfl rfl (Nat.le_of_ble_eq_true rfl) fun H9 S9 => ?_
    obtain ⟨G9, s9, S9', e9⟩ := S9.fixD 0 rfl
    fail "go"
    refine n_fix S9' fun p10 G10 H10 s10 S10 e10 => ?_
    fail "go"
    let TK : Bool → List (Sh.Deed Str) := fun k => match k with | false => g0.ds.take (e0 + 1) | true => g1.ds.take e1
    have tk : ∀ k i d, (TK k)[i]? = some d → (dsOf g0 g1 k)[i]? = some d ∧ (k = true → i < e1) := fun k i d h => by
      cases k with
      | false =>
        have h : (g0.ds.take (e0 + 1))[i]? = some d := h
        rw [List.getElem?_take] at h
        split at h
        · exact ⟨h, fun z => (nomatch z)⟩
        · cases h
      | true =>
        have h : (g1.ds.take e1)[i]? = some d := h
        rw [List.getElem?_take] at h
        split at h
        · exact ⟨h, fun _ => by assumption⟩
        · cases h
    have bk : ∀ k, Backs (dsOf g0 g1 k) := fun k => by cases k; exact bk0; exact bk1
    have few : ∀ k i (d : Sh.Deed Str), (dsOf g0 g1 k)[i]? = some d → d.notes.length ≤ 3 := fun k i d h => by
      cases k
      · exact (ok0.ds.notes i d h).1
      · exact (ok1.ds.notes i d h).1
    have w10 : ∀ {x o}, G x = some o → G10 x = some o := fun h => s10.to (s9.to (s8.to (s6.to (s5.to (s3.to (s2.to h))))))
    refine ⟨⟨TK⟩, G10, D, p10, rfl, S10.ok, ⟨⟨fun k => match k with | false => p1 | true => p7, fun k => match k with | false => p2 | true => p8, fun k => match k with | false => [(kk "deeds", .ref p2)] | true => [(kk "deeds", .ref p8)], fun k => match k with | false => f0.take (e0 + 1) | true => f1.take e1, e10, fun k => ?_⟩, fun k => ?_, fun k i d h => bk k i d (tk k i d h).1, fun k d hd => ?_⟩, fun G11 H11 aa pf pls q0 q1 fv found pl Sx eaa epls rf wv hfull => ?_⟩
    · cases k with
      | false => exact ⟨s10.to (s9.to (s8.to (s6.to (s5.to e3)))), valV_pos (p := (kk "deeds", V.ref p2)) rfl, s10.to (s9.to (s8.to (s6.to (s5.to (s3.to e2))))), by show RepL G10 ((g0.ds.take (e0 + 1)).map dDeed) (f0.take (e0 + 1)); rw [List.map_take]; exact (rf0.mono (s2.tr (s3.tr (s5.tr (s6.tr (s8.tr (s9.tr s10))))))).take _⟩
      | true => exact ⟨s10.to e9, valV_pos (p := (kk "deeds", V.ref p8)) rfl, s10.to (s9.to e8), by show RepL G10 ((g1.ds.take e1).map dDeed) (f1.take e1); rw [List.map_take]; exact (rf1.mono (s2.tr (s3.tr (s5.tr (s6.tr (s8.tr (s9.tr s10))))))).take _⟩
    · cases k with
      | false => show (g0.ds.take (e0 + 1)).length ≤ 5; rw [List.length_take]; omega
      | true => show (g1.ds.take e1).length ≤ 5; rw [List.length_take]; omega
    · obtain ⟨i, hi⟩ := List.getElem?_of_mem hd
      exact few k i d (tk k i d hi).1
    have S11 := S10.callL Sx
    have s11 := Sx.sub
    have fvl : fv.length = found.length := by rw [rf.len, List.length_map]
    have pl0 : (pl false).length = e0 + 1 := by rw [hfull false]; show (g0.ds.take (e0 + 1)).length = _; rw [List.length_take]; omega
    have pl1 : (pl true).length = e1 := by rw [hfull true]; show (g1.ds.take e1).length = _; rw [List.length_take]; omega
    have wl := wv.len
    obtain ⟨d1, hd1⟩ : ∃ d1, g1.ds[e1]? = some d1 := ⟨_, List.getElem?_eq_getElem he1⟩
    obtain ⟨vd1, hvd1, rvd1⟩ := rf1.get (i := e1) (d := dDeed d1) (by rw [List.getElem?_map, hd1]; rfl)
    obtain ⟨td1, nt1, rfl, etd1, rnt1⟩ := rep_deed.mp rvd1
    obtain ⟨pn1, nv1, rfl, epn1, rnv1⟩ := rep_notes.mp rnt1
    have wv' : Wv (dsOf g0 g1) (Xf e1 (fl (pl false) e0) least most) found pl := wv.more fun k i d h => ⟨(tk k i d h).1, by
      unfold Xf
      rw [if_neg]
      rintro ⟨rfl, rfl⟩
      exact absurd ((tk true _ d h).2 rfl) (Nat.lt_irrefl _)⟩
    fail "go"
    refine l_ixL (S11.isin (s11.to (w10 eb1))) (atI_nat hvd1) ?_
    refine x_gTup (S11.isin (s11.to (w10 etd1))) rfl ?_
    dsimp only [List.set]
    fail "go"
    refine n_fix S11 fun p12 G12 H12 s12 S12 e12 => ?_
    refine ls_cat (xs := nInts (pl true)) (ys := [.int fv.length]) (by fail "hp") (by fail "hp") (by unfold nInts; rw [List.length_map]; show (pl true).length + 1 ≤ 1000; omega) (n_own S12 fun r1 H13 S13 => ?_)
    fail "go"
    refine n_fix S13 fun p14 G14 H14 s14 S14 e14 => ?_
    rw [fvl, nInts_app] at S14
    fail "go"
    have w14 : ∀ {x o}, G11 x = some o → G14 x = some o := fun h => s14.to (s12.to h)
    refine lc_carry (pl := pl true ++ [found.length]) (q := r1) (notes := d1.notes) S14 (w14 (s11.to (w10 epn1))) (rnv1.mono (s2.tr (s3.tr (s5.tr (s6.tr (s8.tr (s9.tr (s10.tr (s11.tr (s12.tr s14)))))))))) (by have := few true e1 d1 hd1; omega) (fun j l m hj => by rw [List.length_append]; have := bk1 e1 d1 hd1 j l m hj; omega) 0 rfl (fun c G1 H1 x R s1 S1 r => ?_) (fun c => rfl) (fun c => rfl) (fun l G15 H15 cv s15 S15 rc => ?_)
    · fail "go"
      exact r
    dsimp only [List.set]
    fail "go"
    refine n_fix S15 fun p16 G16 H16 s16 S16 e16 => ?_
    fail "go"
    have nth : (nInts (pl false))[e0]? = some (V.int (fl (pl false) e0 : Nat)) := by
      unfold nInts fl
      rw [List.getElem?_map, List.getD_eq_getElem?_getD, List.getElem?_eq_getElem (by omega)]
      rfl
    refine l_ixL (S16.at (i := 3) rfl) (atI_nat nth) ?_
    fail "go"
    refine n_fix S16 fun p17 G17 H17 s17 S17 e17 => ?_
    fail "go"
    refine n_fix S17 fun p18 G18 H18 s18 S18 e18 => ?_
    have cvl : cv.length = d1.notes.length := by rw [rc.len, List.length_map, List.length_map]
    have few1 := few true e1 d1 hd1
    refine ls_catTS S18 (s18.to (s17.to e16)) e18 (fun z => (nomatch z)) (by show cv.length + 1 ≤ 1000; omega) fun p19 G19 H19 s19 S19 e19 => ?_
    fail "go"
    refine n_fix S19 fun p20 G20 H20 s20 S20 e20 => ?_
    fail "go"
    refine ls_app (xs := fv) S20 4 rfl (by omega) fun H21 S21 => ?_
    let a := fl (pl false) e0
    have wv2 := wv'.step bk true (d := d1) (by rw [pl1]; exact hd1)
    have hX : Xf e1 (fl (pl false) e0) least most true (pl true).length = [.frm a least most] := by
      unfold Xf
      rw [if_pos ⟨rfl, pl1⟩]
    rw [hX] at wv2
    let pl2 : Bool → List Nat := fun k' => if k' = true then pl true ++ [found.length] else pl k'
    have wv2 : Wv (dsOf g0 g1) (Xf e1 a least most) (found ++ [carry (pl true) d1 [.frm a least most]]) pl2 := wv2
    have st : Sub G11 G20 := s12.tr (s14.tr (s15.tr (s16.tr (s17.tr (s18.tr (s19.tr s20))))))
    have r2 : RepL G20 ((found ++ [carry (pl true) d1 [.frm a least most]]).map dDeed) (fv ++ [V.ref p20]) := by
      rw [List.map_append]
      refine (rf.mono st).snoc (rep_deed.mpr ⟨p20, _, rfl, e20, rep_notes.mpr ⟨p19, cv ++ [.ref p17], rfl, s20.to e19, ?_⟩⟩)
      show RepL G20 (((d1.notes.map (Sh.Note.ren (fl (pl true)))) ++ [Sh.Note.frm a least most]).map dNote) (cv ++ [V.ref p17])
      rw [List.map_append]
      refine RepL.snoc ?_ (rep_frm.mpr ⟨p17, rfl, s20.to (s19.to (s18.to e17))⟩)
      have ec : d1.notes.map (Sh.Note.ren (fl (pl true ++ [found.length]))) = d1.notes.map (Sh.Note.ren (fl (pl true))) := by
        have := congrArg Sh.Deed.notes (carry_app (pl := pl true) (x := found.length) (d := d1) (e := []) fun j l m hj => by rw [pl1]; exact bk1 e1 d1 hd1 j l m hj)
        unfold carry at this
        simpa using this
      rw [← ec]
      exact rc.mono (s16.tr (s17.tr (s18.tr (s19.tr s20))))
    have S21' : Sta D.has (some D) G H G20 H21 [(r1, .lst (nInts (pl2 true))), (q0, .lst (nInts (pl2 false))), (pf, .lst (fv ++ [V.ref p20]))] := (S21.drop 0).drop 1
    have pe : fl (pl2 true) e1 = found.length := by rw [← pl1]; exact fl_last (pl true) found.length
    have pe2 : a < found.length := by
      refine wv.lt (k := false) (List.mem_of_getElem? (i := e0) ?_)
      show (pl false)[e0]? = some (fl (pl false) e0)
      unfold fl
      rw [List.getD_eq_getElem?_getD, List.getElem?_eq_getElem (by omega)]
      rfl
    dsimp only [List.set]
    fail "go"
    refine l_dgS (kvs := [(kk "deeds", .ref p5)]) (S21.isin (st.to (s11.to (s10.to (s9.to (s8.to e6)))))) (valV_pos (p := (kk "deeds", V.ref p5)) rfl) ?_
    fail "go"
    refine n_fix S21' fun p22 G22 H22 s22 S22 e22 => ?_
    fail "go"
    rw [show (e1 : Int) + 1 = ((e1 + 1 : Nat) : Int) from rfl, cut_drop]
    refine n_fix S22 fun p23 G23 H23 s23 S23 e23 => ?_
    fail "go"
    refine n_fix S23 fun p24 G24 H24 s24 S24 e24 => ?_
    fail "go"
    refine n_fix S24 fun p25 G25 H25 s25 S25 e25 => ?_
    fail "go"
    let start : Bool → Nat := fun k => match k with | false => e0 + 1 | true => e1 + 1
    have slen : ∀ k, start k ≤ (dsOf g0 g1 k).length ∧ (dsOf g0 g1 k).length ≤ 5 := fun k => by cases k; exact ⟨he0, z0⟩; exact ⟨he1, z1⟩
    have s2225 : Sub G20 G25 := s22.tr (s23.tr (s24.tr s25))
    refine for_l (xs := [.ref p22, .ref p24]) (fun i σ H1 => ∃ (G26 : Hp) (fv : List V) (found : List (Sh.Deed Str)) (pl : Bool → List Nat) (x13 x14 x15 x18 x19 x20 x21 : Option V), Sub G25 G26 ∧ σ = [some (.ref D.d), some (.ref pg), some (.ref b), some (.int e0), some (.int e1), some (.int least), some (.int most), some (.ref b0), some (.ref b1), some (.ref p1), some (.ref p4), some (.ref pf), some (.ref pls), x13, x14, x15, some (.ref q0), some (.ref r1), x18, x19, x20, x21, none] ∧
      Sta D.has (some D) G H G26 H1 [(r1, .lst (nInts (pl true))), (q0, .lst (nInts (pl false))), (pf, .lst fv)] ∧ RepL G26 (found.map dDeed) fv ∧ Wv (dsOf g0 g1) (Xf e1 a least most) found pl ∧ (pl false).length = (if i = 0 then start false else (dsOf g0 g1 false).length) ∧ (pl true).length = (if i ≤ 1 then start true else (dsOf g0 g1 true).length) ∧ fl (pl false) e0 = a ∧ a < fl (pl true) e1)
      ⟨G25, _, _, pl2, _, _, _, _, none, none, none, Sub.rfl' _, rfl, S25, r2.mono s2225, wv2, pl0, by rw [if_pos (by decide)]; show (pl true ++ [found.length]).length = e1 + 1; rw [List.length_append, pl1]; rfl, rfl, by rw [pe]; exact pe2⟩ (fun i σ H1 h => ?_) (fun σ H1 h => ?_) (fun i v σ H1 hi h => ?_)
    · obtain ⟨G26, fv, found, pl, x13, x14, x15, x18, x19, x20, x21, s26, rfl, S26, _⟩ := h
      exact S26.isin (s26.to e25)
    · obtain ⟨G26, fv, found, pl, x13, x14, x15, x18, x19, x20, x21, s26, rfl, S26, r26, wv26, c0, c1, c2, c3⟩ := h
      have c0 : (pl false).length = (dsOf g0 g1 false).length := c0
      have c1 : (pl true).length = (dsOf g0 g1 true).length := c1
      fail "go"
      obtain ⟨G27, s27, S27, e27⟩ := S26.fixD 2 rfl
      exact q _ _ _ S27.go S27.ok ⟨found, pl, rep_deeds.mpr ⟨pf, fv, rfl, e27, r26.mono s27⟩, by rw [c2]; exact wv26, fun k => by cases k; exact c0; exact c1, by rw [c2]; exact c3⟩
    · obtain ⟨G26, fv, found, pl, x13, x14, x15, x18, x19, x20, x21, s26, rfl, S26, r26, wv26, c0, c1, c2, c3⟩ := h
      have hi2 : i < 2 := (List.getElem?_eq_some_iff.mp hi).1
      have s2026 : Sub G20 G26 := s2225.tr s26
      obtain ⟨k, tt, rl, rv, rfl, et, el, rrv, cs, co⟩ : ∃ (k : Bool) (tt rl : Addr) (rv : List V), v = .ref tt ∧ G26 tt = some (.tup [.int (kI k), .ref rl]) ∧ G26 rl = some (.lst rv) ∧ RepL G26 (((dsOf g0 g1 k).drop (start k)).map dDeed) rv ∧ (pl k).length = start k ∧ ∀ pl' : Bool → List Nat, (pl' k).length = (dsOf g0 g1 k).length → (∀ k', k' ≠ k → (pl' k').length = (pl k').length) → (pl' false).length = (if i + 1 = 0 then start false else (dsOf g0 g1 false).length) ∧ (pl' true).length = (if i + 1 ≤ 1 then start true else (dsOf g0 g1 true).length) := by
        have : i = 0 ∨ i = 1 := by omega
        rcases this with rfl | rfl
        · cases hi
          refine ⟨false, p22, p5, f0.drop (e0 + 1), rfl, s26.to (s25.to (s24.to (s23.to e22))), s2026.to (st.to (s11.to (s10.to (s9.to (s8.to (s6.to e5)))))), ?_, c0, fun pl' h1 h2 => ⟨h1, by rw [h2 true (by decide)]; exact c1⟩⟩
          show RepL G26 ((g0.ds.drop (e0 + 1)).map dDeed) (f0.drop (e0 + 1))
          rw [List.map_drop]
          exact (rf0.mono ((s2.tr (s3.tr (s5.tr (s6.tr (s8.tr (s9.tr (s10.tr s11))))))).tr (st.tr s2026))).drop _
        · cases hi
          refine ⟨true, p24, p23, f1.drop (e1 + 1), rfl, s26.to (s25.to e24), s26.to (s25.to (s24.to e23)), ?_, c1, fun pl' h1 h2 => ⟨by rw [h2 false (by decide)]; exact c0, h1⟩⟩
          show RepL G26 ((g1.ds.drop (e1 + 1)).map dDeed) (f1.drop (e1 + 1))
          rw [List.map_drop]
          exact (rf1.mono ((s2.tr (s3.tr (s5.tr (s6.tr (s8.tr (s9.tr (s10.tr s11))))))).tr (st.tr s2026))).drop _
      have rvl : rv.length = (dsOf g0 g1 k).length - start k := by rw [rrv.len, List.length_map, List.length_drop]
      have sk := slen k
      fail "go"
      let qq : Bool → Addr := fun k => match k with | false => q0 | true => r1
      let iq : Bool → Nat := fun k => match k with | false => 1 | true => 0
      have hqq : atI [V.ref q0, V.ref r1] (kI k) = some (.ref (qq k)) := by cases k <;> rfl
      dsimp only [List.set]
      refine for_l (xs := rv) (fun j σ H1 => ∃ (G27 : Hp) (fv : List V) (found : List (Sh.Deed Str)) (pl' : Bool → List Nat) (x13 x14 x15 x18 x21 : Option V), Sub G26 G27 ∧ σ = [some (.ref D.d), some (.ref pg), some (.ref b), some (.int e0), some (.int e1), some (.int least), some (.int most), some (.ref b0), some (.ref b1), some (.ref p1), some (.ref p4), some (.ref pf), some (.ref pls), x13, x14, x15, some (.ref q0), some (.ref r1), x18, some (.int (kI k)), some (.ref rl), x21, none] ∧
        Sta D.has (some D) G H G27 H1 [(r1, .lst (nInts (pl' true))), (q0, .lst (nInts (pl' false))), (pf, .lst fv)] ∧ RepL G27 (found.map dDeed) fv ∧ Wv (dsOf g0 g1) (Xf e1 a least most) found pl' ∧ (pl' k).length = start k + j ∧ (∀ k', k' ≠ k → (pl' k').length = (pl k').length) ∧ fl (pl' false) e0 = a ∧ a < fl (pl' true) e1)
        ⟨G26, fv, found, pl, x13, x14, x15, x18, x21, Sub.rfl' _, rfl, S26, r26, wv26, cs, fun _ _ => rfl, c2, c3⟩ (fun j σ H1 h => ?_) (fun σ H1 h => ?_) (fun j v σ H1 hj h => ?_)
      · obtain ⟨G27, fv, found, pl', x13, x14, x15, x18, x21, s27, rfl, S27, _⟩ := h
        exact S27.isin (s27.to el)
      · obtain ⟨G27, fv, found, pl', x13, x14, x15, x18, x21, s27, rfl, S27, r27, wv27, d0, d1, d2, d3⟩ := h
        have d0' : (pl' k).length = (dsOf g0 g1 k).length := by omega
        exact ⟨G27, fv, found, pl', _, _, _, _, _, _, _, s26.tr s27, rfl, S27, r27, wv27, (co pl' d0' d1).1, (co pl' d0' d1).2, d2, d3⟩
      · obtain ⟨G27, fv, found, pl', x13, x14, x15, x18, x21, s27, rfl, S27, r27, wv27, d0, d1, d2, d3⟩ := h
        have fvl : fv.length = found.length := by rw [r27.len, List.length_map]
        have hjl := (List.getElem?_eq_some_iff.mp hj).1
        obtain ⟨dd, hdd, rdd⟩ := rrv.got hj
        rw [List.getElem?_map] at hdd
        obtain ⟨de, hde, rfl⟩ := Option.map_eq_some_iff.mp hdd
        rw [List.getElem?_drop, ← d0] at hde
        obtain ⟨td, nt, rfl, etd, rnt⟩ := rep_deed.mp rdd
        obtain ⟨pn, nv, rfl, epn, rnv⟩ := rep_notes.mp rnt
        have wl := wv27.len
        have wn0 := wv27.n false
        have wn1 := wv27.n true
        have q1' := (slen false).2
        have q2' := (slen true).2
        refine x_gTup (S27.isin (s27.to etd)) rfl ?_
        fail "go"
        refine n_fix S27 fun p28 G28 H28 s28 S28 e28 => ?_
        fail "go"
        refine l_ixL (S28.isin e28) hqq ?_
        dsimp only [List.set]
        fail "go"
        have hiq : ∀ k, ([(r1, HO.lst (nInts (pl' true))), (q0, HO.lst (nInts (pl' false))), (pf, HO.lst fv)] : List (Addr × HO))[iq k]? = some (qq k, .lst (nInts (pl' k))) := fun k => by cases k <;> rfl
        have nl : (nInts (pl' k)).length = (pl' k).length := by unfold nInts; rw [List.length_map]
        refine lc_carry (pl := pl' k) (q := qq k) (notes := de.notes) S28 (s28.to (s27.to epn)) (rnv.mono (s27.tr s28)) (by have := few k _ de hde; omega) (fun j l m hj => bk k _ de hde j l m hj) (iq k) (hiq k) (fun c G1 H1 x R s1 S1 r => ?_) (fun c => rfl) (fun c => rfl) (fun l G29 H29 cv s29 S29 rc => ?_)
        · fail "go"
          exact r
        · dsimp only [List.set]
          fail "go"
          have hiq8 : ∀ k, ((l, HO.lst cv) :: [(r1, HO.lst (nInts (pl' true))), (q0, HO.lst (nInts (pl' false))), (pf, HO.lst fv)] : List (Addr × HO))[iq k + 1]? = some (qq k, .lst (nInts (pl' k))) := hiq
          refine ⟨.inl ⟨rfl, _, SqL.of (S29.at (hiq8 k))⟩, ?_⟩
          fail "go"
          refine ls_app S29 (iq k + 1) (hiq8 k) (by rw [nl]; omega) fun H30 S30 => ?_
          have eL : (((l, HO.lst cv) :: [(r1, HO.lst (nInts (pl' true))), (q0, HO.lst (nInts (pl' false))), (pf, HO.lst fv)] : List (Addr × HO))).set (iq k + 1) (qq k, .lst (nInts (pl' k) ++ [.int fv.length])) = [(l, HO.lst cv), (r1, HO.lst (nInts ((fun k' => if k' = k then pl' k ++ [found.length] else pl' k') true))), (q0, HO.lst (nInts ((fun k' => if k' = k then pl' k ++ [found.length] else pl' k') false))), (pf, HO.lst fv)] := by
            rw [fvl]
            cases k with
            | false => rw [nInts_app]; rfl
            | true => rw [nInts_app]; rfl
          rw [eL] at S30
          fail "go"
          refine n_fix S30 fun p31 G31 H31 s31 S31 e31 => ?_
          fail "go"
          refine n_fix S31 fun p32 G32 H32 s32 S32 e32 => ?_
          fail "go"
          refine ls_app (xs := fv) S32 3 rfl (by omega) fun H33 S33 => ?_
          have st2 : Sub G27 G32 := s28.tr (s29.tr (s31.tr s32))
          have wv3 := wv27.step bk k hde
          have hXn : Xf e1 a least most k (pl' k).length = [] := by
            unfold Xf
            rw [if_neg]
            rintro ⟨rfl, h⟩
            have : start true = e1 + 1 := rfl
            omega
          rw [hXn] at wv3
          have e0l : e0 < (pl' false).length ∧ e1 < (pl' true).length := by
            constructor
            · rcases Bool.eq_false_or_eq_true k with hk | hk
              · have := d1 false (by rw [hk]; decide)
                rw [this]
                have := wv26.n false
                rcases Nat.eq_zero_or_pos i with z | z
                · rw [c0, if_pos z]; exact Nat.lt_succ_self _
                · rw [c0, if_neg (by omega)]; exact he0
              · subst hk
                have : start false = e0 + 1 := rfl
                omega
            · rcases Bool.eq_false_or_eq_true k with hk | hk
              · subst hk
                have : start true = e1 + 1 := rfl
                omega
              · have := d1 true (by rw [hk]; decide)
                rw [this, c1, if_pos (by omega)]
                exact Nat.lt_succ_self _
          refine ⟨G32, fv ++ [V.ref p32], found ++ [carry (pl' k) de []], (fun k' => if k' = k then pl' k ++ [found.length] else pl' k'), _, _, _, _, _, s27.tr st2, rfl, S33.drop 0, ?_, wv3, ?_, fun k' hk' => ?_, ?_, ?_⟩
          · rw [List.map_append]
            refine (r27.mono st2).snoc (rep_deed.mpr ⟨p32, _, rfl, e32, rep_notes.mpr ⟨p31, cv, rfl, s32.to e31, ?_⟩⟩)
            show RepL G32 (List.map dNote (List.map (Sh.Note.ren (fl (pl' k))) de.notes ++ [])) cv
            rw [List.append_nil]
            exact rc.mono (s31.tr s32)
          · show (if k = k then pl' k ++ [found.length] else pl' k).length = _
            rw [if_pos rfl, List.length_append, d0]
            rfl
          · show (if k' = k then pl' k ++ [found.length] else pl' k').length = _
            rw [if_neg hk']
            exact d1 k' hk'
          · cases k with
            | false => show fl (pl' false ++ [found.length]) e0 = a; rw [fl_app e0l.1]; exact d2
            | true => exact d2
          · cases k with
            | false => exact d3
            | true => show a < fl (pl' true ++ [found.length]) e1; rw [fl_app e0l.2]; exact d3
end
section
variable {P : Program} {w : World} {K : PySem.W.Frag} {mg : Str → Option Value} {base : Heap} [TL]
def spEnds : Sp := Pur (fun G vs (r : List Sh.Span) => (∃ v, vs = [v] ∧ Rep G (dSpans r) v) ∧ r.length ≤ 5) fun G _ r v => Rep G (dPairs (Sh.endsL r)) v
theorem ok_law_ends (T : Txt K mg) : FnOk P w K mg base CX0 1 T.law_ends.a T.law_ends.fd ["_law_ranges_here"] spEnds := by
  refine T.law_ends.F.ok sc_law_ends (fun vs H Q E h => ?_) (fun cdv A outer s H vs Q E hr h => ?_)
  · obtain ⟨_, _, _, ⟨⟨_, rfl, _⟩, _⟩, _⟩ := h
    rfl
  · obtain ⟨r, G, hs, ⟨⟨v, rfl, ⟨a, rv, rfl, ea, rr⟩⟩, h5⟩, q⟩ := h
    have hu := hu_of hr
    have S := Sta.start hs
    have rl : rv.length = r.length := by rw [rr.len, List.length_map]
    refine ⟨_, (pss_one (ps_ret (pe_lc (own := [("_law_low", 1), ("_law_high", 2)]) rfl sc_law_ends.nd (y_iL (K := K) rfl (pv 0)) (blkOk_by (own := [("_law_low", 1), ("_law_high", 2)]) (N := n_law_ends) (sc := defScope s_law_ends) (by decide +kernel)) (fun _ _ _ _ _ => (y_gTup (K := K) (n := 2) rfl rfl (pgs_cons (pg_name (i := 1) sc_law_ends.nd rfl (Or.inl rfl)) (pgs_cons (pg_name (i := 2) sc_law_ends.nd rfl (Or.inl rfl)) pgs_nil)))) (fun _ _ _ _ _ => pts_nil) (fun _ _ _ _ _ => (pe_tup (pa_cons (pe_ifExp (pt_cmpR k_isN (pv 1) pe_non (nomark _)) (pe_un un_neg (pe_op op_pow pe_int pe_int)) (pv 1)) (pa_cons (pe_ifExp (pt_cmpR k_isN (pv 2) pe_non (nomark _)) (pe_op op_pow pe_int pe_int) (pv 2)) pa_nil))))))), ?_⟩
    fail "go"
    refine lc_l (xs := rv) S (fun i G acc => RepL G ((Sh.endsL (r.take i)).map dPair) acc) rfl (fun G1 H1 x s1 S1 => S1.isin (s1.to ea)) (fun l G1 H1 acc s1 S1 hl hv => ?_) (fun i v l G1 H1 acc hi s1 S1 hl hv => ?_)
    · rw [rl, List.take_of_length_le (Nat.le_refl _)] at hv
      obtain ⟨G2, s2, S2, e2⟩ := S1.fix0 0 rfl
      exact q _ _ _ S2.go ⟨l, acc, rfl, e2, hv.mono s2⟩
    · obtain ⟨ds, hds, rds⟩ := rr.got hi
      rw [List.getElem?_map] at hds
      obtain ⟨sp, hsp, rfl⟩ := Option.map_eq_some_iff.mp hds
      obtain ⟨t, rfl, et⟩ := rep_span.mp rds
      have hlt := (List.getElem?_eq_some_iff.mp hsp).1
      have et1 : G1 t = _ := s1.to et
      have tk : r.take (i + 1) = r.take i ++ [sp] := by rw [List.take_add_one, hsp]; rfl
      fail "go"
      refine x_join (fun v H' => v = .int (sp.1.getD (-10 ^ 40)) ∧ H' = H1) (fun v H2 h => ?_) (fun nx => x_if ?_)
      · obtain ⟨rfl, rfl⟩ := h
        fail "go"
        refine x_join (fun v H' => v = .int (sp.2.getD (10 ^ 40)) ∧ H' = H2) (fun v H2 h => ?_) (fun nx => x_if ?_)
        · obtain ⟨rfl, rfl⟩ := h
          fail "go"
          refine n_fix S1 fun p2 G2 H2 s2 S2 e2 => ?_
          refine lc_in (s1.tr s2) S2 (by omega) (by omega) ?_
          have : (Sh.endsL (r.take (i + 1))).map dPair = (Sh.endsL (r.take i)).map dPair ++ [dPair (sp.1.getD (-10 ^ 40), sp.2.getD (10 ^ 40))] := by
            rw [tk]
            unfold Sh.endsL
            rw [List.map_append, List.map_append]
            rfl
          rw [this]
          exact (hv.mono s2).snoc (rep_pair.mpr ⟨p2, rfl, e2⟩)
        · fail "go"
          rw [isNon_opt]
          refine l_if (fun hb => ?_) (fun hb => ?_)
          · fail "go"
            exact nx _ _ ⟨opt_t hb _, rfl⟩
          · fail "go"
            exact nx _ _ ⟨opt_f hb _, rfl⟩
      · fail "go"
        rw [isNon_opt]
        refine l_if (fun hb => ?_) (fun hb => ?_)
        · fail "go"
          exact nx _ _ ⟨opt_t hb _, rfl⟩
        · fail "go"
          exact nx _ _ ⟨opt_f hb _, rfl⟩
end
section
variable {P : Program} {w : World} {K : PySem.W.Frag} {mg : Str → Option Value} {base : Heap} [TL]
theorem mx_eq (i j : Int) : (if j > i then j else i) = max i j := by
  by_cases h : j > i
  · rw [if_pos h, Int.max_eq_right (by omega)]
  · rw [if_neg h, Int.max_eq_left (by omega)]
theorem mn_eq (i j : Int) : (if j < i then j else i) = min i j := by
  by_cases h : j < i
  · rw [if_pos h, Int.min_eq_right (by omega)]
  · rw [if_neg h, Int.min_eq_left (by omega)]
theorem meet_snoc (p u : Int × Int) (l : List (Int × Int)) : Sh.meetL p (l ++ [u]) = Sh.meetL p l ++ (if max p.1 u.1 ≤ min p.2 u.2 then [(max p.1 u.1, min p.2 u.2)] else []) := by
  unfold Sh.meetL
  rw [List.filter_append, List.map_append]
  by_cases h : max p.1 u.1 ≤ min p.2 u.2
  · simp [List.filter_cons, h]
  · simp [List.filter_cons, h]
theorem fm_snoc {α β : Type} (f : α → List β) (l : List α) (x : α) : (l ++ [x]).flatMap f = l.flatMap f ++ f x := by
  rw [List.flatMap_append]
  simp
theorem meet_len (p : Int × Int) (l : List (Int × Int)) : (Sh.meetL p l).length ≤ l.length := by
  unfold Sh.meetL
  rw [List.length_map]
  exact List.length_filter_le _ _
theorem fm_len {α β : Type} (f : α → List β) (n : Nat) (h : ∀ x, (f x).length ≤ n) : ∀ l : List α, (l.flatMap f).length ≤ n * l.length
  | [] => by simp
  | x :: l => by
    rw [List.flatMap_cons, List.length_append, List.length_cons, Nat.mul_succ]
    have := h x
    have := fm_len f n h l
    omega
structure TwoSp where
  r : List Sh.Span
  q : List Sh.Span
def spBoth : Sp := Pur (fun G vs (x : TwoSp) => (∃ v u, vs = [v, u] ∧ Rep G (dSpans x.r) v ∧ Rep G (dSpans x.q) u) ∧ x.r.length ≤ 5 ∧ x.q.length ≤ 5) fun G _ x v => Rep G (dSpans (Sh.bothL x.r x.q)) v
theorem ok_law_both (T : Txt K mg) : FnOk P w K mg base CX0 2 T.law_both.a T.law_both.fd ["_law_ranges_here", "_law_others"] spBoth := by
  refine T.law_both.F.ok sc_law_both (fun vs H Q E h => ?_) (fun cdv A outer s H vs Q E hr h => ?_)
  · obtain ⟨_, _, _, ⟨⟨_, _, rfl, _⟩, _⟩, _⟩ := h
    rfl
  · obtain ⟨⟨r, oth⟩, G, hs, ⟨⟨v, u, rfl, rv, ru⟩, h5, h6⟩, q⟩ := h
    dsimp only at rv ru h5 h6 q
    obtain ⟨a, rxs, rfl, ea, rr⟩ := id rv
    obtain ⟨b, oxs, rfl, eb, ro⟩ := id ru
    have hu := hu_of hr
    have S := Sta.start hs
    have el : (Sh.endsL r).length = r.length := by unfold Sh.endsL; rw [List.length_map]
    have ol : (Sh.endsL oth).length = oth.length := by unfold Sh.endsL; rw [List.length_map]
    refine ⟨_, (pss_cons (ps_set (i := 2) sc_law_both.nd rfl (Or.inl rfl) (pe_lst pa_nil))
  (pss_cons (ps_for PassesOwn.never rfl (y_iL (K := K) rfl (pe_call (ok_law_ends T) (hr.mono (by decide)) rfl T.law_ends.g T.law_ends.F.kp T.law_ends.b .nil pass0 (pa_cons (pv 0) pa_nil))) (y_gTup (K := K) (n := 2) rfl rfl (pgs_cons (pg_name (i := 3) sc_law_both.nd rfl (Or.inl rfl)) (pgs_cons (pg_name (i := 4) sc_law_both.nd rfl (Or.inl rfl)) pgs_nil)))
  (pss_one (ps_for PassesOwn.never rfl (y_iL (K := K) rfl (pe_call (ok_law_ends T) (hr.mono (by decide)) rfl T.law_ends.g T.law_ends.F.kp T.law_ends.b .nil pass0 (pa_cons (pv 1) pa_nil))) (y_gTup (K := K) (n := 2) rfl rfl (pgs_cons (pg_name (i := 5) sc_law_both.nd rfl (Or.inl rfl)) (pgs_cons (pg_name (i := 6) sc_law_both.nd rfl (Or.inl rfl)) pgs_nil)))
  (pss_one (ps_if (pt_cmpR op_le (pe_callB (k_max2 rfl) rfl T.z_max (by decide +kernel) (pa_cons (pv 3) (pa_cons (pv 5) pa_nil))) (pe_callB (k_min2 rfl) rfl T.z_min (by decide +kernel) (pa_cons (pv 4) (pa_cons (pv 6) pa_nil))) (nomark _))
  (pss_one (ps_expr (y_app (K := K) rfl (pv 2) (pa_cons (pe_tup (pa_cons (pe_callB (k_max2 rfl) rfl T.z_max (by decide +kernel) (pa_cons (pv 3) (pa_cons (pv 5) pa_nil))) (pa_cons (pe_callB (k_min2 rfl) rfl T.z_min (by decide +kernel) (pa_cons (pv 4) (pa_cons (pv 6) pa_nil))) pa_nil))) pa_nil))))
  pss_nil)))))
  (pss_one (ps_ret (pe_lc (own := [("_law_low", 3), ("_law_high", 4)]) rfl sc_law_both.nd (y_iL (K := K) rfl (pv 2)) (blkOk_by (own := [("_law_low", 3), ("_law_high", 4)]) (N := n_law_both) (sc := defScope s_law_both) (by decide +kernel)) (fun _ _ _ _ _ => (y_gTup (K := K) (n := 2) rfl rfl (pgs_cons (pg_name (i := 3) sc_law_both.nd rfl (Or.inl rfl)) (pgs_cons (pg_name (i := 4) sc_law_both.nd rfl (Or.inl rfl)) pgs_nil)))) (fun _ _ _ _ _ => pts_nil) (fun _ _ _ _ _ => (pe_tup (pa_cons (pe_ifExp (pt_cmpR op_lt (pv 3) (pe_un un_neg (pe_op op_pow pe_int pe_int)) (nomark _)) pe_non (pv 3)) (pa_cons (pe_ifExp (pt_cmpR op_gt (pv 4) (pe_op op_pow pe_int pe_int) (nomark _)) pe_non (pv 4)) pa_nil))))))))), ?_⟩
    fail "go"
    refine n_own S fun p1 H1 S1 => ?_
    fail "go"
    refine c_pur S1 r ⟨⟨_, rfl, rv⟩, h5⟩ fun G2 H2 v2 s2 S2 o2 => ?_
    obtain ⟨a2, ev, rfl, e2, re⟩ := o2
    have evl : ev.length = r.length := by rw [re.len, List.length_map, el]
    fail "go"
    refine for_l (xs := ev) (fun i σ H1 => ∃ (G3 : Hp) (fv : List V) (x3 x4 x5 x6 : Option V), Sub G2 G3 ∧ σ = [some (.ref a), some (.ref b), some (.ref p1), x3, x4, x5, x6] ∧ Sta M0 none G H G3 H1 [(p1, .lst fv)] ∧ RepL G3 ((((Sh.endsL r).take i).flatMap fun p => Sh.meetL p (Sh.endsL oth)).map dPair) fv)
      ⟨G2, [], none, none, none, none, Sub.rfl' _, rfl, S2, rfl⟩ (fun i σ H1 h => ?_) (fun σ H1 h => ?_) (fun i v σ H1 hi h => ?_)
    · obtain ⟨G3, fv, x3, x4, x5, x6, s3, rfl, S3, _⟩ := h
      exact S3.isin (s3.to e2)
    · obtain ⟨G3, fv, x3, x4, x5, x6, s3, rfl, S3, rfv⟩ := h
      rw [evl, ← el, List.take_of_length_le (Nat.le_refl _)] at rfv
      have fvl : fv.length = ((Sh.endsL r).flatMap fun p => Sh.meetL p (Sh.endsL oth)).length := by rw [rfv.len, List.length_map]
      have big := fm_len (fun p => Sh.meetL p (Sh.endsL oth)) 5 (fun p => Nat.le_trans (meet_len p _) (by omega)) (Sh.endsL r)
      fail "go"
      refine lc_l (xs := fv) S3 (fun i G acc => RepL G ((Sh.normL (((Sh.endsL r).flatMap fun p => Sh.meetL p (Sh.endsL oth)).take i)).map dSpan) acc) rfl (fun G1 H1 x s1 S1 => S1.at (i := 1) rfl) (fun l G4 H4 acc s4 S4 hl hv => ?_) (fun i v l G4 H4 acc hi s4 S4 hl hv => ?_)
      · rw [fvl, List.take_of_length_le (Nat.le_refl _)] at hv
        obtain ⟨G5, s5, S5, e5⟩ := S4.fix0 0 rfl
        fail "go"
        exact q _ _ _ S5.go ⟨l, acc, rfl, e5, hv.mono s5⟩
      · obtain ⟨dp, hdp, rdp⟩ := rfv.got hi
        rw [List.getElem?_map] at hdp
        obtain ⟨p, hp, rfl⟩ := Option.map_eq_some_iff.mp hdp
        obtain ⟨t, rfl, et⟩ := rep_pair.mp rdp
        have hlt := (List.getElem?_eq_some_iff.mp hp).1
        have et4 : G4 t = _ := s4.to et
        have tk : ((Sh.endsL r).flatMap fun p => Sh.meetL p (Sh.endsL oth)).take (i + 1) = ((Sh.endsL r).flatMap fun p => Sh.meetL p (Sh.endsL oth)).take i ++ [p] := by rw [List.take_add_one, hp]; rfl
        fail "go"
        refine x_join (fun v H' => v = optV (if p.1 < -10 ^ 39 then none else some p.1) ∧ H' = H4) (fun v H5 h => ?_) (fun nx => x_if ?_)
        · obtain ⟨rfl, rfl⟩ := h
          fail "go"
          refine x_join (fun v H' => v = optV (if p.2 > 10 ^ 39 then none else some p.2) ∧ H' = H5) (fun v H6 h => ?_) (fun nx => x_if ?_)
          · obtain ⟨rfl, rfl⟩ := h
            fail "go"
            refine n_fix S4 fun p5 G5 H5 s5 S5 e5 => ?_
            refine lc_in (s4.tr s5) S5 (by omega) (by omega) ?_
            have : (Sh.normL (((Sh.endsL r).flatMap fun p => Sh.meetL p (Sh.endsL oth)).take (i + 1))).map dSpan = (Sh.normL (((Sh.endsL r).flatMap fun p => Sh.meetL p (Sh.endsL oth)).take i)).map dSpan ++ [dSpan (if p.1 < -10 ^ 39 then none else some p.1, if p.2 > 10 ^ 39 then none else some p.2)] := by
              rw [tk]
              unfold Sh.normL
              rw [List.map_append, List.map_append]
              rfl
            rw [this]
            exact (hv.mono s5).snoc (rep_span.mpr ⟨p5, rfl, e5⟩)
          · fail "go"
            refine l_ifd (fun hb => ?_) (fun hb => ?_)
            · have hb : p.2 > 10 ^ 39 := hb
              fail "go"
              exact nx _ _ ⟨by rw [if_pos hb]; rfl, rfl⟩
            · have hb : ¬ p.2 > 10 ^ 39 := hb
              fail "go"
              exact nx _ _ ⟨by rw [if_neg hb]; rfl, rfl⟩
        · fail "go"
          refine l_ifd (fun hb => ?_) (fun hb => ?_)
          · have hb : p.1 < -10 ^ 39 := hb
            fail "go"
            exact nx _ _ ⟨by rw [if_pos hb]; rfl, rfl⟩
          · have hb : ¬ p.1 < -10 ^ 39 := hb
            fail "go"
            exact nx _ _ ⟨by rw [if_neg hb]; rfl, rfl⟩
    · obtain ⟨G3, fv, x3, x4, x5, x6, s3, rfl, S3, rfv⟩ := h
      obtain ⟨dp, hdp, rdp⟩ := re.got hi
      rw [List.getElem?_map] at hdp
      obtain ⟨p, hp, rfl⟩ := Option.map_eq_some_iff.mp hdp
      obtain ⟨t, rfl, et⟩ := rep_pair.mp rdp
      have hlt := (List.getElem?_eq_some_iff.mp hp).1
      have tk : (Sh.endsL r).take (i + 1) = (Sh.endsL r).take i ++ [p] := by rw [List.take_add_one, hp]; rfl
      have big := fm_len (fun p => Sh.meetL p (Sh.endsL oth)) 5 (fun p => Nat.le_trans (meet_len p _) (by omega)) ((Sh.endsL r).take i)
      rw [List.length_take] at big
      refine x_gTup (S3.isin (s3.to et)) rfl ?_
      fail "go"
      refine c_pur S3 oth ⟨⟨_, rfl, ru.mono (s2.tr s3)⟩, h6⟩ fun G4 H4 v4 s4 S4 o4 => ?_
      obtain ⟨a4, ov, rfl, e4, roe⟩ := o4
      have ovl : ov.length = oth.length := by rw [roe.len, List.length_map, ol]
      dsimp only [List.set]
      fail "go"
      refine for_l (xs := ov) (fun j σ H1 => ∃ (G5 : Hp) (fv : List V) (x5 x6 : Option V), Sub G4 G5 ∧ σ = [some (.ref a), some (.ref b), some (.ref p1), some (.int p.1), some (.int p.2), x5, x6] ∧ Sta M0 none G H G5 H1 [(p1, .lst fv)] ∧ RepL G5 (((((Sh.endsL r).take i).flatMap fun p => Sh.meetL p (Sh.endsL oth)) ++ Sh.meetL p ((Sh.endsL oth).take j)).map dPair) fv)
        ⟨G4, fv, x5, x6, Sub.rfl' _, rfl, S4, by rw [List.take_zero]; show RepL G4 ((_ ++ []).map dPair) fv; rw [List.append_nil]; exact rfv.mono s4⟩ (fun i σ H1 h => ?_) (fun σ H1 h => ?_) (fun j v σ H1 hj h => ?_)
      · obtain ⟨G5, fv, x5, x6, s5, rfl, S5, _⟩ := h
        exact S5.isin (s5.to e4)
      · obtain ⟨G5, fv, x5, x6, s5, rfl, S5, r5⟩ := h
        rw [ovl, ← ol, List.take_of_length_le (Nat.le_refl _)] at r5
        refine ⟨G5, fv, _, _, _, _, s3.tr (s4.tr s5), rfl, S5, ?_⟩
        rw [tk, fm_snoc]
        exact r5
      · obtain ⟨G5, fv, x5, x6, s5, rfl, S5, r5⟩ := h
        obtain ⟨du, hdu, rdu⟩ := roe.got hj
        rw [List.getElem?_map] at hdu
        obtain ⟨u, hu', rfl⟩ := Option.map_eq_some_iff.mp hdu
        obtain ⟨t2, rfl, et2⟩ := rep_pair.mp rdu
        have hlt2 := (List.getElem?_eq_some_iff.mp hu').1
        have tk2 : (Sh.endsL oth).take (j + 1) = (Sh.endsL oth).take j ++ [u] := by rw [List.take_add_one, hu']; rfl
        have fvl : fv.length ≤ 30 := by
          rw [r5.len, List.length_map, List.length_append]
          have := meet_len p ((Sh.endsL oth).take j)
          rw [List.length_take] at this
          omega
        refine x_gTup (S5.isin (s5.to et2)) rfl ?_
        fail "go"
        rw [mx_eq, mn_eq]
        refine l_ifd (fun hc => ?_) (fun hc => ?_)
        · fail "go"
          rw [mx_eq, mn_eq]
          refine n_fix S5 fun p6 G6 H6 s6 S6 e6 => ?_
          fail "go"
          refine ls_app (xs := fv) S6 0 rfl (by omega) fun H7 S7 => ?_
          refine ⟨G6, fv ++ [V.ref p6], _, _, s5.tr s6, rfl, S7, ?_⟩
          rw [tk2, meet_snoc, if_pos hc, ← List.append_assoc, List.map_append]
          exact (r5.mono s6).snoc (rep_pair.mpr ⟨p6, rfl, e6⟩)
        · fail "go"
          refine ⟨G5, fv, _, _, s5, rfl, S5, ?_⟩
          rw [tk2, meet_snoc, if_neg hc, List.append_nil]
          exact r5
end
section
variable {P : Program} {w : World} {K : PySem.W.Frag} {mg : Str → Option Value} {base : Heap} [TL]
def spMoved : Sp := Pur (fun G vs (x : TwoSp) => (∃ v u, vs = [v, u] ∧ Rep G (dSpans x.r) v ∧ Rep G (dSpans x.q) u) ∧ x.r.length ≤ 5 ∧ x.q.length ≤ 5) fun G _ x v => Rep G (dSpans (Sh.movedL x.r x.q)) v
theorem ok_law_moved (T : Txt K mg) : FnOk P w K mg base CX0 2 T.law_moved.a T.law_moved.fd ["_law_ranges_here", "_law_others"] spMoved := by
  refine T.law_moved.F.ok sc_law_moved (fun vs H Q E h => ?_) (fun cdv A outer s H vs Q E hr h => ?_)
  · obtain ⟨_, _, _, ⟨⟨_, _, rfl, _⟩, _⟩, _⟩ := h
    rfl
  · obtain ⟨⟨r, oth⟩, G, hs, ⟨⟨v, u, rfl, rv, ru⟩, h5, h6⟩, q⟩ := h
    dsimp only at rv ru h5 h6 q
    obtain ⟨a, rxs, rfl, ea, rr⟩ := id rv
    obtain ⟨b, oxs, rfl, eb, ro⟩ := id ru
    have hu := hu_of hr
    have S := Sta.start hs
    have el : (Sh.endsL r).length = r.length := by unfold Sh.endsL; rw [List.length_map]
    have ol : (Sh.endsL oth).length = oth.length := by unfold Sh.endsL; rw [List.length_map]
    let mv : Int × Int → List (Int × Int) := fun p => (Sh.endsL oth).map fun u => (p.1 + u.1, p.2 + u.2)
    have mvl : ∀ p, (mv p).length ≤ 5 := fun p => by show ((Sh.endsL oth).map _).length ≤ 5; rw [List.length_map]; omega
    refine ⟨_, (pss_cons (ps_set (i := 2) sc_law_moved.nd rfl (Or.inl rfl) (pe_lst pa_nil))
  (pss_cons (ps_for PassesOwn.never rfl (y_iL (K := K) rfl (pe_call (ok_law_ends T) (hr.mono (by decide)) rfl T.law_ends.g T.law_ends.F.kp T.law_ends.b .nil pass0 (pa_cons (pv 0) pa_nil))) (y_gTup (K := K) (n := 2) rfl rfl (pgs_cons (pg_name (i := 3) sc_law_moved.nd rfl (Or.inr rfl)) (pgs_cons (pg_name (i := 4) sc_law_moved.nd rfl (Or.inr rfl)) pgs_nil)))
  (pss_one (ps_expr (y_ext (K := K) rfl (pv 2) (pa_cons (pe_lc (own := [("_law_left", 5), ("_law_right", 6)]) rfl sc_law_moved.nd (y_iL (K := K) rfl (pe_call (ok_law_ends T) (hr.mono (by decide)) rfl T.law_ends.g T.law_ends.F.kp T.law_ends.b .nil pass0 (pa_cons (pv 1) pa_nil))) (blkOk_by (own := [("_law_left", 5), ("_law_right", 6)]) (N := n_law_moved) (sc := defScope s_law_moved) (by decide +kernel)) (fun _ _ _ _ _ => (y_gTup (K := K) (n := 2) rfl rfl (pgs_cons (pg_name (i := 5) sc_law_moved.nd rfl (Or.inl rfl)) (pgs_cons (pg_name (i := 6) sc_law_moved.nd rfl (Or.inl rfl)) pgs_nil)))) (fun _ _ _ _ _ => pts_nil) (fun _ _ _ _ _ => (pe_tup (pa_cons (pe_op op_add (pv 3) (pv 5)) (pa_cons (pe_op op_add (pv 4) (pv 6)) pa_nil))))) pa_nil)))))
  (pss_one (ps_ret (pe_lc (own := [("_law_low", 3), ("_law_high", 4)]) rfl sc_law_moved.nd (y_iL (K := K) rfl (pv 2)) (blkOk_by (own := [("_law_low", 3), ("_law_high", 4)]) (N := n_law_moved) (sc := defScope s_law_moved) (by decide +kernel)) (fun _ _ _ _ _ => (y_gTup (K := K) (n := 2) rfl rfl (pgs_cons (pg_name (i := 3) sc_law_moved.nd rfl (Or.inl rfl)) (pgs_cons (pg_name (i := 4) sc_law_moved.nd rfl (Or.inl rfl)) pgs_nil)))) (fun _ _ _ _ _ => pts_nil) (fun _ _ _ _ _ => (pe_tup (pa_cons (pe_ifExp (pt_cmpR op_lt (pv 3) (pe_un un_neg (pe_op op_pow pe_int pe_int)) (nomark _)) pe_non (pv 3)) (pa_cons (pe_ifExp (pt_cmpR op_gt (pv 4) (pe_op op_pow pe_int pe_int) (nomark _)) pe_non (pv 4)) pa_nil))))))))), ?_⟩
    fail "go"
    refine n_own S fun p1 H1 S1 => ?_
    fail "go"
    refine c_pur S1 r ⟨⟨_, rfl, rv⟩, h5⟩ fun G2 H2 v2 s2 S2 o2 => ?_
    obtain ⟨a2, ev, rfl, e2, re⟩ := o2
    have evl : ev.length = r.length := by rw [re.len, List.length_map, el]
    fail "go"
    refine for_l (xs := ev) (fun i σ H1 => ∃ (G3 : Hp) (fv : List V) (x3 x4 : Option V), Sub G2 G3 ∧ σ = [some (.ref a), some (.ref b), some (.ref p1), x3, x4, none, none] ∧ Sta M0 none G H G3 H1 [(p1, .lst fv)] ∧ RepL G3 ((((Sh.endsL r).take i).flatMap mv).map dPair) fv)
      ⟨G2, [], none, none, Sub.rfl' _, rfl, S2, rfl⟩ (fun i σ H1 h => ?_) (fun σ H1 h => ?_) (fun i v σ H1 hi h => ?_)
    · obtain ⟨G3, fv, x3, x4, s3, rfl, S3, _⟩ := h
      exact S3.isin (s3.to e2)
    · obtain ⟨G3, fv, x3, x4, s3, rfl, S3, rfv⟩ := h
      rw [evl, ← el, List.take_of_length_le (Nat.le_refl _)] at rfv
      have fvl : fv.length = ((Sh.endsL r).flatMap mv).length := by rw [rfv.len, List.length_map]
      have big := fm_len mv 5 mvl (Sh.endsL r)
      fail "go"
      refine lc_l (xs := fv) S3 (fun i G acc => RepL G ((Sh.normL (((Sh.endsL r).flatMap mv).take i)).map dSpan) acc) rfl (fun G1 H1 x s1 S1 => S1.at (i := 1) rfl) (fun l G4 H4 acc s4 S4 hl hv => ?_) (fun i v l G4 H4 acc hi s4 S4 hl hv => ?_)
      · rw [fvl, List.take_of_length_le (Nat.le_refl _)] at hv
        obtain ⟨G5, s5, S5, e5⟩ := S4.fix0 0 rfl
        fail "go"
        exact q _ _ _ S5.go ⟨l, acc, rfl, e5, hv.mono s5⟩
      · obtain ⟨dp, hdp, rdp⟩ := rfv.got hi
        rw [List.getElem?_map] at hdp
        obtain ⟨p, hp, rfl⟩ := Option.map_eq_some_iff.mp hdp
        obtain ⟨t, rfl, et⟩ := rep_pair.mp rdp
        have hlt := (List.getElem?_eq_some_iff.mp hp).1
        have et4 : G4 t = _ := s4.to et
        have tk : ((Sh.endsL r).flatMap mv).take (i + 1) = ((Sh.endsL r).flatMap mv).take i ++ [p] := by rw [List.take_add_one, hp]; rfl
        fail "go"
        refine x_join (fun v H' => v = optV (if p.1 < -10 ^ 39 then none else some p.1) ∧ H' = H4) (fun v H5 h => ?_) (fun nx => x_if ?_)
        · obtain ⟨rfl, rfl⟩ := h
          fail "go"
          refine x_join (fun v H' => v = optV (if p.2 > 10 ^ 39 then none else some p.2) ∧ H' = H5) (fun v H6 h => ?_) (fun nx => x_if ?_)
          · obtain ⟨rfl, rfl⟩ := h
            fail "go"
            refine n_fix S4 fun p5 G5 H5 s5 S5 e5 => ?_
            refine lc_in (s4.tr s5) S5 (by omega) (by omega) ?_
            have : (Sh.normL (((Sh.endsL r).flatMap mv).take (i + 1))).map dSpan = (Sh.normL (((Sh.endsL r).flatMap mv).take i)).map dSpan ++ [dSpan (if p.1 < -10 ^ 39 then none else some p.1, if p.2 > 10 ^ 39 then none else some p.2)] := by
              rw [tk]
              unfold Sh.normL
              rw [List.map_append, List.map_append]
              rfl
            rw [this]
            exact (hv.mono s5).snoc (rep_span.mpr ⟨p5, rfl, e5⟩)
          · fail "go"
            refine l_ifd (fun hb => ?_) (fun hb => ?_)
            · have hb : p.2 > 10 ^ 39 := hb
              fail "go"
              exact nx _ _ ⟨by rw [if_pos hb]; rfl, rfl⟩
            · have hb : ¬ p.2 > 10 ^ 39 := hb
              fail "go"
              exact nx _ _ ⟨by rw [if_neg hb]; rfl, rfl⟩
        · fail "go"
          refine l_ifd (fun hb => ?_) (fun hb => ?_)
          · have hb : p.1 < -10 ^ 39 := hb
            fail "go"
            exact nx _ _ ⟨by rw [if_pos hb]; rfl, rfl⟩
          · have hb : ¬ p.1 < -10 ^ 39 := hb
            fail "go"
            exact nx _ _ ⟨by rw [if_neg hb]; rfl, rfl⟩
    · obtain ⟨G3, fv, x3, x4, s3, rfl, S3, rfv⟩ := h
      obtain ⟨dp, hdp, rdp⟩ := re.got hi
      rw [List.getElem?_map] at hdp
      obtain ⟨p, hp, rfl⟩ := Option.map_eq_some_iff.mp hdp
      obtain ⟨t, rfl, et⟩ := rep_pair.mp rdp
      have hlt := (List.getElem?_eq_some_iff.mp hp).1
      have tk : (Sh.endsL r).take (i + 1) = (Sh.endsL r).take i ++ [p] := by rw [List.take_add_one, hp]; rfl
      have big := fm_len mv 5 mvl ((Sh.endsL r).take i)
      rw [List.length_take] at big
      refine x_gTup (S3.isin (s3.to et)) rfl ?_
      fail "go"
      refine c_pur S3 oth ⟨⟨_, rfl, ru.mono (s2.tr s3)⟩, h6⟩ fun G4 H4 v4 s4 S4 o4 => ?_
      obtain ⟨a4, ov, rfl, e4, roe⟩ := o4
      have ovl : ov.length = oth.length := by rw [roe.len, List.length_map, ol]
      dsimp only [List.set]
      fail "go"
      refine lc_l (xs := ov) S4 (fun j G acc => RepL G ((((Sh.endsL oth).take j).map fun u => (p.1 + u.1, p.2 + u.2)).map dPair) acc) rfl (fun G1 H1 x s1 S1 => S1.isin (s1.to e4)) (fun l G5 H5 acc s5 S5 hl hv => ?_) (fun j v l G5 H5 acc hj s5 S5 hl hv => ?_)
      · rw [ovl, ← ol, List.take_of_length_le (Nat.le_refl _)] at hv
        have accl : acc.length ≤ 5 := by rw [hv.len, List.length_map, List.length_map]; omega
        have fvl : fv.length ≤ 25 := by rw [rfv.len, List.length_map]; omega
        fail "go"
        refine ls_ext (xs := fv) (ys := acc) S5 1 rfl (S5.at (i := 0) rfl) (by omega) fun H6 S6 => ?_
        fail "go"
        refine ⟨G5, fv ++ acc, _, _, s3.tr (s4.tr s5), rfl, S6.drop 0, ?_⟩
        rw [tk, fm_snoc, List.map_append]
        exact (rfv.mono (s4.tr s5)).app hv
      · obtain ⟨du, hdu, rdu⟩ := roe.got hj
        rw [List.getElem?_map] at hdu
        obtain ⟨u, hu', rfl⟩ := Option.map_eq_some_iff.mp hdu
        obtain ⟨t2, rfl, et2⟩ := rep_pair.mp rdu
        have hlt2 := (List.getElem?_eq_some_iff.mp hu').1
        have tk2 : (Sh.endsL oth).take (j + 1) = (Sh.endsL oth).take j ++ [u] := by rw [List.take_add_one, hu']; rfl
        have et5 : G5 t2 = _ := s5.to et2
        fail "go"
        refine n_fix S5 fun p6 G6 H6 s6 S6 e6 => ?_
        refine lc_in (s5.tr s6) S6 (by omega) (by omega) ?_
        rw [tk2, List.map_append, List.map_append]
        exact (hv.mono s6).snoc (rep_pair.mpr ⟨p6, rfl, e6⟩)
def spTurned : Sp := Pur (fun G vs (r : List Sh.Span) => (∃ v, vs = [v] ∧ Rep G (dSpans r) v) ∧ r.length ≤ 5) fun G _ r v => Rep G (dSpans (Sh.turnedL r)) v
theorem ok_law_turned (T : Txt K mg) : FnOk P w K mg base CX0 1 T.law_turned.a T.law_turned.fd ["_law_ranges_here"] spTurned := by
  refine T.law_turned.F.ok sc_law_turned (fun vs H Q E h => ?_) (fun cdv A outer s H vs Q E hr h => ?_)
  · obtain ⟨_, _, _, ⟨⟨_, rfl, _⟩, _⟩, _⟩ := h
    rfl
  · obtain ⟨r, G, hs, ⟨⟨v, rfl, ⟨a, rv, rfl, ea, rr⟩⟩, h5⟩, q⟩ := h
    have hu := hu_of hr
    have S := Sta.start hs
    have rl : rv.length = r.length := by rw [rr.len, List.length_map]
    refine ⟨_, (pss_one (ps_ret (pe_lc (own := [("_law_low", 1), ("_law_high", 2)]) rfl sc_law_turned.nd (y_iL (K := K) rfl (pv 0)) (blkOk_by (own := [("_law_low", 1), ("_law_high", 2)]) (N := n_law_turned) (sc := defScope s_law_turned) (by decide +kernel)) (fun _ _ _ _ _ => (y_gTup (K := K) (n := 2) rfl rfl (pgs_cons (pg_name (i := 1) sc_law_turned.nd rfl (Or.inl rfl)) (pgs_cons (pg_name (i := 2) sc_law_turned.nd rfl (Or.inl rfl)) pgs_nil)))) (fun _ _ _ _ _ => pts_nil) (fun _ _ _ _ _ => (pe_tup (pa_cons (pe_ifExp (pt_cmpR k_isN (pv 2) pe_non (nomark _)) pe_non (pe_un un_neg (pv 2))) (pa_cons (pe_ifExp (pt_cmpR k_isN (pv 1) pe_non (nomark _)) pe_non (pe_un un_neg (pv 1))) pa_nil))))))), ?_⟩
    fail "go"
    refine lc_l (xs := rv) S (fun i G acc => RepL G ((Sh.turnedL (r.take i)).map dSpan) acc) rfl (fun G1 H1 x s1 S1 => S1.isin (s1.to ea)) (fun l G1 H1 acc s1 S1 hl hv => ?_) (fun i v l G1 H1 acc hi s1 S1 hl hv => ?_)
    · rw [rl, List.take_of_length_le (Nat.le_refl _)] at hv
      obtain ⟨G2, s2, S2, e2⟩ := S1.fix0 0 rfl
      exact q _ _ _ S2.go ⟨l, acc, rfl, e2, hv.mono s2⟩
    · obtain ⟨ds, hds, rds⟩ := rr.got hi
      rw [List.getElem?_map] at hds
      obtain ⟨sp, hsp, rfl⟩ := Option.map_eq_some_iff.mp hds
      obtain ⟨t, rfl, et⟩ := rep_span.mp rds
      have hlt := (List.getElem?_eq_some_iff.mp hsp).1
      have et1 : G1 t = _ := s1.to et
      have tk : r.take (i + 1) = r.take i ++ [sp] := by rw [List.take_add_one, hsp]; rfl
      fail "go"
      refine x_join (fun v H' => v = optV (sp.2.map (- ·)) ∧ H' = H1) (fun v H2 h => ?_) (fun nx => x_if ?_)
      · obtain ⟨rfl, rfl⟩ := h
        fail "go"
        refine x_join (fun v H' => v = optV (sp.1.map (- ·)) ∧ H' = H2) (fun v H2 h => ?_) (fun nx => x_if ?_)
        · obtain ⟨rfl, rfl⟩ := h
          fail "go"
          refine n_fix S1 fun p2 G2 H2 s2 S2 e2 => ?_
          refine lc_in (s1.tr s2) S2 (by omega) (by omega) ?_
          have : (Sh.turnedL (r.take (i + 1))).map dSpan = (Sh.turnedL (r.take i)).map dSpan ++ [dSpan (sp.2.map (- ·), sp.1.map (- ·))] := by
            rw [tk]
            unfold Sh.turnedL
            rw [List.map_append, List.map_append]
            rfl
          rw [this]
          exact (hv.mono s2).snoc (rep_span.mpr ⟨p2, rfl, e2⟩)
        · fail "go"
          rw [isNon_opt]
          rcases sp with ⟨lo, hi⟩
          cases lo with
          | none =>
            refine l_iT ?_
            fail "go"
            exact nx _ _ ⟨rfl, rfl⟩
          | some i =>
            refine l_iF ?_
            fail "go"
            refine l_U (i := i) ?_
            exact nx _ _ ⟨rfl, rfl⟩
      · fail "go"
        rw [isNon_opt]
        rcases sp with ⟨lo, hi⟩
        cases hi with
        | none =>
          refine l_iT ?_
          fail "go"
          exact nx _ _ ⟨rfl, rfl⟩
        | some i =>
          refine l_iF ?_
          fail "go"
          refine l_U (i := i) ?_
          exact nx _ _ ⟨rfl, rfl⟩
end
section
variable {P : Program} {w : World} {K : PySem.W.Frag} {mg : Str → Option Value} {base : Heap} [TL]
section
variable {H : Hp} {Q : VK} {a t : Addr} {xs : List V}
theorem i_ii {i : Int} (q : Q (.bl true) H) : rIsi K [.int i, .ty "int"] H Q := l_isi (.base (.int i)) rfl q
theorem i_ib {i : Int} (q : Q (.bl false) H) : rIsi K [.int i, .ty "bool"] H Q := l_isi (.base (.int i)) rfl q
theorem i_ss {i : Str} (q : Q (.bl true) H) : rIsi K [.str i, .ty "str"] H Q := l_isi (.base (.str i)) rfl q
theorem i_is {i : Int} (q : Q (.bl false) H) : rIsi K [.int i, .ty "str"] H Q := l_isi (.base (.int i)) rfl q
theorem i_tt (h : H a = some (.tup xs)) (q : Q (.bl true) H) : rIsi K [.ref a, .ty "tuple"] H Q := l_isi (.base (.tup h)) rfl q
theorem i_dd {kvs : List (Key × V)} (h : H a = some (.dK kvs)) (q : Q (.bl true) H) : rIsi K [.ref a, .ty "dict"] H Q := l_isi (.base (.dK h)) rfl q
theorem i_lt (h : H a = some (.lst xs)) (ht : H t = some (.tup [.ty "list", .ty "tuple"])) (q : Q (.bl true) H) : rIsiT K [.ref a, .ref t] H Q := ⟨_, t, _, .type "list", [.type "list", .type "tuple"], true, rfl, ht, .cons (.ty _) (.cons (.ty _) .nil), .base (.lst h), rfl, q⟩
end
def spBetween : Sp := Pur (fun _ vs (x : Int × Int × Int) => vs = [.int x.1, .int x.2.1, .int x.2.2]) fun _ _ x v => v = .bl (decide (x.2.1 ≤ x.1 ∧ x.1 ≤ x.2.2))
theorem ok_is_between (T : Txt K mg) : FnOk P w K mg base CX0 1 T.is_between.a T.is_between.fd ["value", "least", "most"] spBetween := by
  refine T.is_between.F.ok sc_is_between (fun vs H Q E h => ?_) (fun cdv A outer s H vs Q E hr h => ?_)
  · obtain ⟨_, _, _, rfl, _⟩ := h
    rfl
  · obtain ⟨⟨a, b, c⟩, G, hs, rfl, q⟩ := h
    dsimp only at q ⊢
    have hu := hu_of hr
    have S := Sta.start hs
    refine ⟨_, (pss_one (ps_ret (pe_and (pe_callB (y_isi (K := K) rfl) rfl T.z_isinstance (by decide +kernel) (pa_cons (pv 0) (pa_cons (pe_ty (n := "int") rfl T.z_int (by decide +kernel)) pa_nil))) (pe_and (pe_not (pe_callB (y_isi (K := K) rfl) rfl T.z_isinstance (by decide +kernel) (pa_cons (pv 0) (pa_cons (pe_ty (n := "bool") rfl T.z_bool (by decide +kernel)) pa_nil)))) (pe_one (pe_chain op_le op_le (pv 1) (pv 0) (pv 2))))))), ?_⟩
    refine x_ret (x_andV ?_)
    fail "go"
    refine i_ii ?_
    fail "go"
    refine x_andV ?_
    fail "go"
    refine i_ib ?_
    fail "go"
    refine l_ifd (fun h1 => ?_) (fun h1 => ?_)
    · fail "go"
      exact q _ _ _ S.go (by rw [decide_eq_decide.mpr (show (a ≤ c) ↔ (b ≤ a ∧ a ≤ c) from ⟨fun h => ⟨h1, h⟩, fun h => h.2⟩)])
    · exact q _ _ _ S.go (by rw [decide_eq_false fun h => h1 h.1])
def spIsName : Sp := Pur (fun _ vs (x : Str) => vs = [.str x] ∧ Wd x) fun _ _ _ v => v = .bl true
theorem ok_is_name (T : Txt K mg) : FnOk P w K mg base CX0 1 T.is_name.a T.is_name.fd ["value"] spIsName := by
  refine T.is_name.F.ok sc_is_name (fun vs H Q E h => ?_) (fun cdv A outer s H vs Q E hr h => ?_)
  · obtain ⟨_, _, _, ⟨rfl, _⟩, _⟩ := h
    rfl
  · obtain ⟨x, G, hs, ⟨rfl, hw⟩, q⟩ := h
    have hu := hu_of hr
    have S := Sta.start hs
    refine ⟨_, (pss_cons (ps_if (PW.pt (pw_or (pt_not (pt_val (pe_callB (y_isi (K := K) rfl) rfl T.z_isinstance (by decide +kernel) (pa_cons (pv 0) (pa_cons (pe_ty (n := "str") rfl T.z_str (by decide +kernel)) pa_nil))))) (pw_or1 (pt_not (pt_chain op_le op_le pe_int (pe_callB k_lenS rfl T.z_len (by decide +kernel) (pa_cons (pv 0) pa_nil)) (pe_gcV rfl T.c_MOST_SIGNS))))))
  (pss_one (ps_ret pe_bl))
  pss_nil)
  (pss_one (ps_ret (pe_callB (y_all (K := K) rfl rfl) rfl T.z_all (by decide +kernel) (pa_cons (pe_lc (own := [("sign", 1)]) rfl sc_is_name.nd (pi_str (pv 0)) (blkOk_by (own := [("sign", 1)]) (N := n_is_name) (sc := defScope s_is_name) (by decide +kernel)) (fun _ _ _ _ _ => (pg_name (i := 1) sc_is_name.nd rfl (Or.inl rfl))) (fun _ _ _ _ _ => pts_nil) (fun _ _ _ _ _ => (pe_cmpR k_inSg (pv 1) (pe_gcV rfl T.c_ALPHABET) rfl))) pa_nil))))), ?_⟩
    refine x_seq ?_
    fail "go"
    refine i_ss ?_
    fail "go"
    refine l_lenS (z := x) (by have := hw.2.1; omega) ?_
    fail "go"
    have h1 := hw.1
    have h6 := hw.2.1
    refine l_ifd (fun _ => ?_) (fun z => absurd (show (1 : Int) ≤ x.length by omega) z)
    fail "go"
    refine l_ifn (fun z => absurd (show (x.length : Int) ≤ 6 by omega) z) (fun _ => ?_)
    fail "go"
    refine lc_s (x := x) S (fun i _ acc => acc = (List.replicate i true).map V.bl) rfl (fun l G1 H1 acc s1 S1 hl hv => ?_) (fun i c l G1 H1 acc hc s1 S1 hl hv => ?_)
    · subst hv
      fail "go"
      refine l_all (S1.at (i := 0) rfl) ?_
      rw [all_true]
      exact q _ _ _ S1.go rfl
    · subst hv
      have hlt := (Array.getElem?_eq_some_iff.mp hc).1
      have hlen : x.cps.size ≤ 6 := h6
      fail "go"
      refine l_inSg ?_
      have hm : c ∈ x.cps.toList := by
        obtain ⟨h, e⟩ := Array.getElem?_eq_some_iff.mp hc
        rw [← e]
        exact Array.getElem_mem_toList h
      rw [decide_eq_true (show c ∈ (Str.ofString "abcdefghijklmnopqrstuvwxyz").cps.toList from lets_all c (hw.2.2 c hm))]
      refine lc_in s1 S1 (by omega) (by omega) ?_
      exact rep_snoc i
def spIsList : Sp := Pur (fun G vs (_ : Unit) => ∃ a xs, vs = [.ref a] ∧ G a = some (.lst xs)) fun _ _ _ v => v = .bl true
theorem ok_is_list (T : Txt K mg) : FnOk P w K mg base CX0 1 T.is_list.a T.is_list.fd ["value"] spIsList := by
  refine T.is_list.F.ok sc_is_list (fun vs H Q E h => ?_) (fun cdv A outer s H vs Q E hr h => ?_)
  · obtain ⟨_, _, _, ⟨_, _, rfl, _⟩, _⟩ := h
    rfl
  · obtain ⟨_, G, hs, ⟨a, xs, rfl, ea⟩, q⟩ := h
    have hu := hu_of hr
    have S := Sta.start hs
    refine ⟨_, (pss_one (ps_ret (pe_callB (y_isiT (K := K) rfl) rfl T.z_isinstance (by decide +kernel) (pa_cons (pv 0) (pa_cons (pe_tup (pa_cons (pe_ty (n := "list") rfl T.z_list (by decide +kernel)) (pa_cons (pe_ty (n := "tuple") rfl T.z_tuple (by decide +kernel)) pa_nil))) pa_nil))))), ?_⟩
    fail "go"
    refine n_fix S fun p1 G1 H1 s1 S1 e1 => ?_
    refine i_lt (by fail "hp") (by fail "hp") ?_
    exact q _ _ _ S1.go rfl
end
section
variable {P : Program} {w : World} {K : PySem.W.Frag} {mg : Str → Option Value} {base : Heap} [TL]
def spAreDrifts : Sp := Pur (fun G vs (x : List (Str × Int)) => (∃ a, vs = [.ref a] ∧ G a = some (.dK (lkv x))) ∧ LeanOk x) fun _ _ _ v => v = .bl true
theorem ok_are_drifts (T : Txt K mg) : FnOk P w K mg base CX0 2 T.are_drifts.a T.are_drifts.fd ["value"] spAreDrifts := by
  refine T.are_drifts.F.ok sc_are_drifts (fun vs H Q E h => ?_) (fun cdv A outer s H vs Q E hr h => ?_)
  · obtain ⟨_, _, _, ⟨⟨_, rfl, _⟩, _⟩, _⟩ := h
    rfl
  · obtain ⟨x, G, hs, ⟨⟨a, rfl, ea⟩, lo⟩, q⟩ := h
    have hu := hu_of hr
    have S := Sta.start hs
    have ll : (lkv x).length = x.length := by unfold lkv; rw [List.length_map]
    have l4 := lo.len
    have lp := List.length_pos_iff.mpr lo.ne
    refine ⟨_, (pss_cons (ps_if (PW.pt (pw_or (pt_not (pt_val (pe_callB (y_isi (K := K) rfl) rfl T.z_isinstance (by decide +kernel) (pa_cons (pv 0) (pa_cons (pe_ty (n := "dict") rfl T.z_dict (by decide +kernel)) pa_nil))))) (pw_or1 (pt_not (pt_chain op_le op_le pe_int (pe_callB k_lenD rfl T.z_len (by decide +kernel) (pa_cons (pv 0) pa_nil)) (pe_gcV rfl T.c_MOST_STATIONS))))))
  (pss_one (ps_ret pe_bl))
  pss_nil)
  (pss_one (ps_ret (pe_callB (y_all (K := K) rfl rfl) rfl T.z_all (by decide +kernel) (pa_cons (pe_lock (pe_lc (own := [("name", 1), ("drift", 2)]) rfl sc_are_drifts.nd (pi_items (pv 0)) (blkOk_by (own := [("name", 1), ("drift", 2)]) (N := n_are_drifts) (sc := defScope s_are_drifts) (by decide +kernel)) (fun _ _ _ _ _ => (y_gTup (K := K) (n := 2) rfl rfl (pgs_cons (pg_name (i := 1) sc_are_drifts.nd rfl (Or.inl rfl)) (pgs_cons (pg_name (i := 2) sc_are_drifts.nd rfl (Or.inl rfl)) pgs_nil)))) (fun _ _ _ _ _ => pts_nil) (fun _ _ _ _ _ => (pe_and (pe_call (ok_is_name T) (hr.mono (by decide)) rfl T.is_name.g T.is_name.F.kp T.is_name.b .nil pass0 (pa_cons (pv 1) pa_nil)) (pe_one (pe_call (ok_is_between T) (hr.mono (by decide)) rfl T.is_between.g T.is_between.F.kp T.is_between.b .nil pass0 (pa_cons (pv 2) (pa_cons pe_int (pa_cons (pe_gcV rfl T.c_MOST_DRIFT) pa_nil))))))))) pa_nil))))), ?_⟩
    refine x_seq ?_
    fail "go"
    refine i_dd (by fail "hp") ?_
    fail "go"
    rw [ll]
    refine l_ifd (fun _ => ?_) (fun z => absurd (show (1 : Int) ≤ x.length by omega) z)
    fail "go"
    refine l_ifn (fun z => absurd (show (x.length : Int) ≤ 4 by omega) z) (fun _ => ?_)
    fail "go"
    refine xs_lockG S ea trivial ⟨fun _ z => (nomatch z), fun _ z => (nomatch z)⟩ fun od Gd H1 S1 hk out => ?_
    fail "go"
    refine ⟨a, od, lkv x, rfl, S1.at (i := 0) rfl, ?_⟩
    refine lc_i S1 (fun i _ acc => acc = (List.replicate i true).map V.bl) rfl (fun G1 H1 y s1 S1 => S1.at (i := 1) rfl) (fun l G2 H2 acc s2 S2 hl hv => ?_) (fun i k v T l G2 H2 H3 acc hi s2 S2 hl hv hT e => ?_)
    · subst hv
      refine out _ _ _ _ 1 S2 rfl fun G3 H3 s3 s3' S3 => ?_
      fail "go"
      refine l_all (S3.at (i := 0) rfl) ?_
      rw [all_true]
      exact q _ _ _ S3.go rfl
    · subst hv
      unfold lkv at hi
      rw [List.getElem?_map] at hi
      obtain ⟨⟨nm, dr⟩, hp, e2⟩ := Option.map_eq_some_iff.mp hi
      cases e2
      have hlt := (List.getElem?_eq_some_iff.mp hp).1
      have hm := List.mem_of_getElem? hp
      have hb := lo.b _ hm
      obtain ⟨G3, s3, S3, e3⟩ := S2.newE hT e
      refine x_gTup (S3.isin e3) rfl ?_
      fail "go"
      refine x_andV ?_
      fail "go"
      refine c_pur S3 nm ⟨rfl, lo.wd _ hm⟩ fun G4 H4 v4 s4 S4 o4 => ?_
      obtain rfl : v4 = .bl true := o4
      refine ⟨true, rfl, ?_⟩
      fail "go"
      refine c_pur S4 (dr, 0, 500) rfl fun G5 H5 v5 s5 S5 o5 => ?_
      have o5 : v5 = .bl (decide ((0 : Int) ≤ dr ∧ dr ≤ 500)) := o5
      rw [decide_eq_true hb] at o5
      subst o5
      refine lc_in (s2.tr (s3.tr (s4.tr s5))) S5 (by omega) (by omega) ?_
      exact rep_snoc i
def spAreSources : Sp := Pur (fun G vs (x : List Str) => (∃ a, vs = [.ref a] ∧ G a = some (.lst (x.map V.str))) ∧ Wds x ∧ x.length ≤ 6 ∧ x.Nodup) fun _ _ _ v => v = .bl true
theorem ok_are_sources (T : Txt K mg) : FnOk P w K mg base CX0 2 T.are_sources.a T.are_sources.fd ["value"] spAreSources := by
  refine T.are_sources.F.ok sc_are_sources (fun vs H Q E h => ?_) (fun cdv A outer s H vs Q E hr h => ?_)
  · obtain ⟨_, _, _, ⟨⟨_, rfl, _⟩, _⟩, _⟩ := h
    rfl
  · obtain ⟨x, G, hs, ⟨⟨a, rfl, ea⟩, hw, h6, hn⟩, q⟩ := h
    have hu := hu_of hr
    have S := Sta.start hs
    refine ⟨_, (pss_cons (ps_if (PW.pt (pw_or (pt_not (pt_val (pe_call (ok_is_list T) (hr.mono (by decide)) rfl T.is_list.g T.is_list.F.kp T.is_list.b .nil pass0 (pa_cons (pv 0) pa_nil)))) (pw_or (pt_cmpR op_gt (pe_callB (y_len (K := K) rfl) rfl T.z_len (by decide +kernel) (pa_cons (pv 0) pa_nil)) (pe_gcV rfl T.c_MOST_SOURCES) (nomark _)) (pw_or1 (pt_not (pt_val (pe_callB (y_all (K := K) rfl rfl) rfl T.z_all (by decide +kernel) (pa_cons (pe_lc (own := [("name", 1)]) rfl sc_are_sources.nd (y_iL (K := K) rfl (pv 0)) (blkOk_by (own := [("name", 1)]) (N := n_are_sources) (sc := defScope s_are_sources) (by decide +kernel)) (fun _ _ _ _ _ => (pg_name (i := 1) sc_are_sources.nd rfl (Or.inl rfl))) (fun _ _ _ _ _ => pts_nil) (fun _ _ _ _ _ => (pe_call (ok_is_name T) (hr.mono (by decide)) rfl T.is_name.g T.is_name.F.kp T.is_name.b .nil pass0 (pa_cons (pv 1) pa_nil)))) pa_nil))))))))
  (pss_one (ps_ret pe_bl))
  pss_nil)
  (pss_one (ps_ret (pe_cmpR op_eq (pe_callB k_lenD rfl T.z_len (by decide +kernel) (pa_cons (pe_dc (own := [("name", 1)]) rfl sc_are_sources.nd (y_iL (K := K) rfl (pv 0)) (blkOk_by (own := [("name", 1)]) (N := n_are_sources) (sc := defScope s_are_sources) (by decide +kernel)) (fun _ _ _ _ _ => (pg_name (i := 1) sc_are_sources.nd rfl (Or.inl rfl))) (fun _ _ _ _ _ => pts_nil) (fun _ _ _ _ _ => (pv 1)) (fun _ _ _ _ _ => pe_bl)) pa_nil)) (pe_callB (y_len (K := K) rfl) rfl T.z_len (by decide +kernel) (pa_cons (pv 0) pa_nil)) (nomark _))))), ?_⟩
    refine x_seq ?_
    fail "go"
    refine c_pur S () ⟨a, _, rfl, ea⟩ fun G1 H1 v1 s1 S1 o1 => ?_
    obtain rfl : v1 = .bl true := o1
    refine ⟨true, rfl, ?_⟩
    fail "go"
    rw [List.length_map]
    refine l_ifd (fun z => absurd (show ¬ (6 : Int) < x.length by omega) (fun h => h z)) (fun _ => ?_)
    fail "go"
    refine lc_l (xs := x.map V.str) S1 (fun i _ acc => acc = (List.replicate i true).map V.bl) rfl (fun G1 H1 y s S1 => S1.isin (s.to (s1.to ea))) (fun l G2 H2 acc s2 S2 hl hv => ?_) (fun i v l G2 H2 acc hi s2 S2 hl hv => ?_)
    · subst hv
      fail "go"
      refine l_all (S2.at (i := 0) rfl) ?_
      rw [all_true]
      fail "go"
      refine dc_l (xs := x.map V.str) S2 (fun i _ acc => acc = (x.take i).map fun s => ((Sum.inr s : Key), V.bl true)) rfl (fun G1 H1 y s S1 => S1.isin (s.to (s2.to (s1.to ea)))) (fun d G3 H3 acc s3 S3 hl hv => ?_) (fun i v d G3 H3 acc hi s3 S3 hl hv => ?_)
      · subst hv
        fail "go"
        rw [List.length_map, List.length_map, List.take_of_length_le (Nat.le_refl _)]
        exact q _ _ _ S3.go (by rw [decide_eq_true rfl])
      · subst hv
        rw [List.getElem?_map] at hi
        obtain ⟨w, hw2, rfl⟩ := Option.map_eq_some_iff.mp hi
        have hlt := (List.getElem?_eq_some_iff.mp hw2).1
        fail "go"
        refine dc_inS s3 S3 (by rw [List.length_map] at hl ⊢; omega) (by omega) ?_
        have tk : x.take (i + 1) = x.take i ++ [w] := by rw [List.take_add_one, hw2]; rfl
        rw [tk, List.map_append]
        refine putK_new (valV_none fun p hp e => ?_)
        obtain ⟨s, hs', rfl⟩ := List.mem_map.mp hp
        have e : s = w := Sum.inr.inj e
        subst e
        rw [← List.take_append_drop (i + 1) x, tk] at hn
        have := (List.nodup_append.mp (List.nodup_append.mp hn).1).2.2 s hs' s (by simp)
        exact this rfl
    · subst hv
      rw [List.getElem?_map] at hi
      obtain ⟨w, hw2, rfl⟩ := Option.map_eq_some_iff.mp hi
      have hlt := (List.getElem?_eq_some_iff.mp hw2).1
      fail "go"
      refine c_pur S2 w ⟨rfl, hw w (List.mem_of_getElem? hw2)⟩ fun G3 H3 v3 s3 S3 o3 => ?_
      obtain rfl : v3 = .bl true := o3
      refine lc_in (s2.tr s3) S3 (by omega) (by omega) ?_
      exact rep_snoc i
end
section
variable {P : Program} {w : World} {K : PySem.W.Frag} {mg : Str → Option Value} {base : Heap} [TL]
abbrev Tb := List ((Key × Key) × Int)
def tvl (t : Tb) : List (List Key × V) := t.map fun e => ([e.1.1, e.1.2], V.int e.2)
def tget (t : Tb) (k : Key × Key) : Option Int := (t.find? fun e => decide (e.1 = k)).map (·.2)
def tset (t : Tb) (k : Key × Key) (n : Int) : Tb := if (t.any fun e => decide (e.1 = k)) = true then t.map (fun e => if e.1 = k then (e.1, n) else e) else t ++ [(k, n)]
def lessOf (n : Int) (o : Option Int) : Int := if o.getD n < n then o.getD n else n
def tput (t : Tb) (a b : Key) (n : Int) : Tb := if a = b then t else tset t (a, b) (lessOf n (tget t (a, b)))
theorem pair_eq {a b c d : Key} : [a, b] = [c, d] ↔ (a, b) = (c, d) := by
  constructor
  · intro h
    cases h
    rfl
  · intro h
    cases h
    rfl
theorem pair_dec {k : Key × Key} {a b : Key} : decide ([k.1, k.2] = [a, b]) = decide (k = (a, b)) := decide_eq_decide.mpr pair_eq
theorem tvl_get {a b : Key} : ∀ {t : Tb}, valV (tvl t) [a, b] = (tget t (a, b)).map V.int
  | [] => rfl
  | (k, n) :: t => by
    have ih := tvl_get (a := a) (b := b) (t := t)
    by_cases h : k = (a, b)
    · subst h
      exact (valV_pos rfl).trans (by simp [tget])
    · refine (valV_neg (fun z => h (pair_eq.mp z))).trans (ih.trans ?_)
      simp [tget, h]
theorem tvl_any {t : Tb} {a b : Key} : ((tvl t).any fun e => decide (e.1 = [a, b])) = t.any fun e => decide (e.1 = (a, b)) := by
  unfold tvl
  rw [List.any_map]
  congr 1
  funext e
  exact pair_dec
theorem tvl_put {t : Tb} {a b : Key} {n : Int} : putK (tvl t) [a, b] (.int n) = tvl (tset t (a, b) n) := by
  unfold putK tset
  rw [tvl_any]
  by_cases h : (t.any fun e => decide (e.1 = (a, b))) = true
  · rw [if_pos h, if_pos h]
    unfold tvl
    rw [List.map_map, List.map_map]
    refine List.map_congr_left fun e _ => ?_
    show (if [e.1.1, e.1.2] = [a, b] then ([e.1.1, e.1.2], V.int n) else ([e.1.1, e.1.2], V.int e.2)) = _
    by_cases g : e.1 = (a, b)
    · rw [if_pos (pair_eq.mpr g)]
      simp [g]
    · rw [if_neg fun z => g (pair_eq.mp z)]
      simp [g]
  · rw [if_neg h, if_neg h]
    unfold tvl
    rw [List.map_append]
    rfl
theorem tset_len {t : Tb} {k : Key × Key} {n : Int} : (tset t k n).length ≤ t.length + 1 := by
  unfold tset
  split
  · rw [List.length_map]
    exact Nat.le_succ _
  · rw [List.length_append]
    exact Nat.le_refl _
theorem tput_len {t : Tb} {a b : Key} {n : Int} : (tput t a b n).length ≤ t.length + 1 := by
  unfold tput
  split
  · omega
  · exact tset_len
def Mut {α : Type} (args : Hp → List V → Addr → HO → α → Prop) (out : Hp → α → V → HO → Prop) : Sp := fun vs H Q _ => ∃ (a : α) (G : Hp) (p : Addr) (o : HO), Sub G H ∧ H p = some o ∧ G p = none ∧ Pln o ∧ args G vs p o a ∧ ∀ G' H' v o', Go (· = p) G H G' H' → H' p = some o' → Pln o' → out G' a v o' → Q v H'
theorem c_mut {α : Type} {args : Hp → List V → Addr → HO → α → Prop} {out : Hp → α → V → HO → Prop} {vs : List V} {Q : VK} {E : XK} {M : Addr → Prop} {D : Option Dr} {G0 H0 G H : Hp} {L : List (Addr × HO)} {p : Addr} {o : HO} (S : Sta M D G0 H0 G H L) (i : Nat) (hi : L[i]? = some (p, o)) (a : α) (h : args G vs p o a) (q : ∀ G' H' v o', Sub G G' → Sta M D G0 H0 G' H' (L.set i (p, o')) → out G' a v o' → Q v H') : Mut args out vs H Q E :=
  ⟨a, G, p, o, S.inn, S.at hi, S.off hi, (S.own _ (List.mem_of_getElem? hi)).2.2.2, h, fun G' H' v o' g e hp w => q G' H' v o' g.sub (S.callM hi g e hp) w⟩
theorem ls_putTb {l a : Addr} {t : Tb} {x y : Key} {n : Int} {M : Addr → Prop} {D : Option Dr} {G0 H0 G H : Hp} {L : List (Addr × HO)} {R : Hp → Prop} (S : Sta M D G0 H0 G H L) (i : Nat) (hi : L[i]? = some (l, .dT (tvl t))) (ha : H a = some (.tup [kV x, kV y])) (hl : t.length ≤ 1000) (q : ∀ H', Sta M D G0 H0 G H' (L.set i (l, .dT (tvl (tset t (x, y) n)))) → R H') : ∃ a' H', V.ref l = .ref a' ∧ DPut H a' (.ref a) (.int n) H' ∧ R H' :=
  ⟨l, _, rfl, DPut.t (k := [x, y]) (S.at hi) ha (Nat.lt_of_le_of_lt (by unfold tvl; rw [List.length_map]; exact hl) (by decide)), q _ (by rw [tvl_put]; exact S.set hi ⟨fun _ z => (nomatch z), fun _ z => (nomatch z)⟩)⟩
theorem scal_kV {a b : Key} : scal (kV a) (kV b) = true := by
  rcases a with _ | _ <;> rcases b with _ | _ <;> rfl
theorem kV_inj {a b : Key} : kV a = kV b ↔ a = b := by
  rcases a with _ | _ <;> rcases b with _ | _ <;> simp [kV]
def spPut : Sp := Mut (fun _ vs p o (x : Tb × Key × Key × Int) => vs = [.ref p, kV x.2.1, kV x.2.2.1, .int x.2.2.2] ∧ o = .dT (tvl x.1) ∧ x.1.length ≤ 1000) fun _ x _ o' => o' = .dT (tvl (tput x.1 x.2.1 x.2.2.1 x.2.2.2))
theorem ok_put (T : Txt K mg) : FnOk P w K mg base CX0 2 T.put.a T.put.fd ["table", "one", "other", "bound"] spPut := by
  refine T.put.F.ok sc_put (fun vs H Q E h => ?_) (fun cdv A outer s H vs Q E hr h => ?_)
  · obtain ⟨_, _, _, _, _, _, _, _, ⟨rfl, _⟩, _⟩ := h
    rfl
  · obtain ⟨⟨t, x, y, n⟩, G, p, o, hs, hp, hg, hpl, ⟨rfl, rfl, hl⟩, q⟩ := h
    dsimp only at hl q ⊢
    have hu := hu_of hr
    have S := Sta.startM hs hp hg hpl
    refine ⟨_, (pss_one (ps_if (pt_cmpR op_ne (pv 1) (pv 2) (nomark _))
  (pss_one (ps_dput hu (pv 0) (pe_tup (pa_cons (pv 1) (pa_cons (pv 2) pa_nil))) (pe_callB (k_min2 rfl) rfl T.z_min (by decide +kernel) (pa_cons (pv 3) (pa_cons (pe_dget2 hu (pv 0) (pe_tup (pa_cons (pv 1) (pa_cons (pv 2) pa_nil))) (pv 3) ⟨rfl, rfl, rfl, rfl⟩) pa_nil))) rfl))
  pss_nil)), ?_⟩
    fail "go"
    refine l_ne scal_kV ?_
    fail "go"
    refine l_ifn (fun h => ?_) (fun h => ?_)
    · have h1 : ¬ x = y := fun z => h (kV_inj.mpr z)
      fail "go"
      refine n_fix S fun p1 G1 H1 s1 S1 e1 => ?_
      fail "go"
      refine ⟨_, DGet.t (k := [x, y]) (S1.at (i := 0) rfl) (S1.isin e1), ?_⟩
      rw [tvl_get]
      fail "go"
      have hz : ((tget t (x, y)).map V.int).getD (.int n) = .int ((tget t (x, y)).getD n) := by cases tget t (x, y) <;> rfl
      rw [hz]
      fail "go"
      refine n_fix S1 fun p2 G2 H2 s2 S2 e2 => ?_
      fail "go"
      refine ls_putTb S2 0 rfl (S2.isin e2) hl fun H3 S3 => ?_
      refine q _ _ _ _ S3.go (S3.at (i := 0) rfl) ⟨fun _ z => (nomatch z), fun _ z => (nomatch z)⟩ ?_
      dsimp only
      unfold tput lessOf
      rw [if_neg h1]
    · have h1 : x = y := kV_inj.mp h
      refine q _ _ _ _ S.go (S.at (i := 0) rfl) hpl ?_
      dsimp only
      unfold tput
      rw [if_pos h1]
end
section
variable {P : Program} {w : World} {K : PySem.W.Frag} {mg : Str → Option Value} {base : Heap} [TL]
def dKey : Key → Da
  | .inl i => .int i
  | .inr s => .str s
theorem rep_key {G : Hp} {v : V} : ∀ {k : Key}, Rep G (dKey k) v ↔ v = kV k
  | .inl _ => Iff.rfl
  | .inr _ => Iff.rfl
def dAt (p : Int × Key) : Da := .tup [.int p.1, dKey p.2]
def dLine (l : List (Int × Key)) : Da := .lst (l.map dAt)
theorem rep_at {G : Hp} {s : Int × Key} {v : V} : Rep G (dAt s) v ↔ ∃ a, v = .ref a ∧ G a = some (.tup [.int s.1, kV s.2]) := by
  constructor
  · rintro ⟨a, vs, rfl, e, v1, r1, rfl, h1, v2, r2, rfl, h2, rfl⟩
    obtain rfl : v1 = .int s.1 := h1
    obtain rfl := rep_key.mp h2
    exact ⟨a, rfl, e⟩
  · rintro ⟨a, rfl, e⟩
    exact ⟨a, _, rfl, e, _, _, rfl, rfl, _, _, rfl, rep_key.mpr rfl, rfl⟩
def dstep (d : Int) (t : Tb) (pq : (Int × Key) × (Int × Key)) : Tb := tput (tput t pq.1.2 pq.2.2 ((pq.2.1 - pq.1.1) * (1000 + d))) pq.2.2 pq.1.2 (-(pq.2.1 - pq.1.1) * (1000 - d))
def pdrift (d : Int) (t : Tb) (l : List (Int × Key)) : Tb := (l.zip (l.drop 1)).foldl (dstep d) t
theorem dstep_len {d : Int} {t : Tb} {pq} : (dstep d t pq).length ≤ t.length + 2 := by
  unfold dstep
  exact Nat.le_trans tput_len (Nat.succ_le_succ tput_len)
theorem fold_len {d : Int} : ∀ {ps : List ((Int × Key) × (Int × Key))} {t : Tb}, (ps.foldl (dstep d) t).length ≤ t.length + 2 * ps.length
  | [], t => Nat.le_refl _
  | p :: ps, t => by
    have := fold_len (d := d) (ps := ps) (t := dstep d t p)
    have h := dstep_len (d := d) (t := t) (pq := p)
    rw [List.foldl_cons, List.length_cons]
    omega
def spPutDrift : Sp := Mut (fun G vs p o (x : Tb × List (Int × Key) × Int) => (∃ v, vs = [.ref p, v, .int x.2.2] ∧ Rep G (dLine x.2.1) v) ∧ o = .dT (tvl x.1) ∧ 0 ≤ x.2.2 ∧ x.2.2 ≤ 500 ∧ x.1.length + 2 * x.2.1.length ≤ 1000) fun _ x _ o' => o' = .dT (tvl (pdrift x.2.2 x.1 x.2.1))
theorem ok_put_drift (T : Txt K mg) : FnOk P w K mg base CX0 3 T.put_drift.a T.put_drift.fd ["table", "line", "drift"] spPutDrift := by
  refine T.put_drift.F.ok sc_put_drift (fun vs H Q E h => ?_) (fun cdv A outer s H vs Q E hr h => ?_)
  · obtain ⟨_, _, _, _, _, _, _, _, ⟨⟨_, rfl, _⟩, _⟩, _⟩ := h
    rfl
  · obtain ⟨⟨t, l, d⟩, G, p, o, hs, hp, hg, hpl, ⟨⟨v, rfl, hv⟩, rfl, hd0, hd5, hl⟩, q⟩ := h
    dsimp only at hd0 hd5 hl hv q ⊢
    have hu := hu_of hr
    have S := Sta.startM hs hp hg hpl
    obtain ⟨b, bs, rfl, eb, rb⟩ := hv
    refine ⟨_, (pss_one (ps_for PassesOwn.never rfl (y_iZ (K := K) rfl rfl T.z_zip (pa_cons (pv 1) (pa_cons (pe_slice (y_slL (K := K) rfl) (pv 1) (po_some pe_int) po_none) pa_nil))) (y_gTup (K := K) (n := 2) rfl rfl (pgs_cons (y_gTup (K := K) (n := 2) rfl rfl (pgs_cons (pg_name (i := 3) sc_put_drift.nd rfl (Or.inl rfl)) (pgs_cons (pg_name (i := 4) sc_put_drift.nd rfl (Or.inl rfl)) pgs_nil))) (pgs_cons (y_gTup (K := K) (n := 2) rfl rfl (pgs_cons (pg_name (i := 5) sc_put_drift.nd rfl (Or.inl rfl)) (pgs_cons (pg_name (i := 6) sc_put_drift.nd rfl (Or.inl rfl)) pgs_nil))) pgs_nil)))
  (pss_cons (ps_set (i := 7) sc_put_drift.nd rfl (Or.inl rfl) (pe_op op_sub (pv 5) (pv 3)))
  (pss_cons (ps_expr (pe_call (ok_put T) (hr.mono (by decide)) rfl T.put.g T.put.F.kp T.put.b .nil pass0 (pa_cons (pv 0) (pa_cons (pv 4) (pa_cons (pv 6) (pa_cons (pe_op op_mul (pv 7) (pe_op op_add (pe_gcV rfl T.c_EXACT) (pv 2))) pa_nil))))))
  (pss_one (ps_expr (pe_call (ok_put T) (hr.mono (by decide)) rfl T.put.g T.put.F.kp T.put.b .nil pass0 (pa_cons (pv 0) (pa_cons (pv 6) (pa_cons (pv 4) (pa_cons (pe_op op_mul (pe_un un_neg (pv 7)) (pe_op op_sub (pe_gcV rfl T.c_EXACT) (pv 2))) pa_nil))))))))))), ?_⟩
    fail "go"
    refine n_fix S fun p1 G1 H1 s1 S1 e1 => ?_
    fail "go"
    have lb : bs.length = l.length := by have := rb.len; rw [List.length_map] at this; exact this
    have e1' : G1 p1 = some (.lst (bs.drop 1)) := by rw [e1]; exact congrArg (fun z => some (HO.lst z)) (cut_drop bs 1)
    refine for_z (xs := bs) (ys := bs.drop 1) (fun i σ H1 => ∃ (G2 : Hp) (x3 x4 x5 x6 x7 : Option V), Sub G1 G2 ∧ σ = [some (.ref p), some (.ref b), some (.int d), x3, x4, x5, x6, x7] ∧ Sta (· = p) none G H G2 H1 [(p, .dT (tvl (((l.zip (l.drop 1)).take i).foldl (dstep d) t)))]) ⟨G1, none, none, none, none, none, Sub.rfl' _, rfl, S1⟩ (fun i σ H1 h => ?_) (fun σ H1 h => ?_) (fun i v w T1 σ H1 H2 hv hw h hT e => ?_)
    · obtain ⟨G2, x3, x4, x5, x6, x7, s2, rfl, S2⟩ := h
      exact ⟨S2.isin (s2.to (s1.to eb)), S2.isin (s2.to e1')⟩
    · obtain ⟨G2, x3, x4, x5, x6, x7, s2, rfl, S2⟩ := h
      refine q _ _ _ _ S2.go (S2.at (i := 0) rfl) ⟨fun _ z => (nomatch z), fun _ z => (nomatch z)⟩ ?_
      unfold pdrift
      rw [List.take_of_length_le (by rw [List.length_zip, List.length_drop, List.length_drop, lb]; exact Nat.le_refl _)]
    · obtain ⟨G2, x3, x4, x5, x6, x7, s2, rfl, S2⟩ := h
      have hi := (List.getElem?_eq_some_iff.mp hv).1
      have hj := (List.getElem?_eq_some_iff.mp hw).1
      rw [List.length_drop] at hj
      obtain ⟨d1, k1, r1⟩ := rb.got hv
      have rd : RepL G ((l.map dAt).drop 1) (bs.drop 1) := rb.drop 1
      obtain ⟨d2, k2, r2⟩ := rd.got hw
      rw [List.getElem?_map] at k1
      rw [← List.map_drop, List.getElem?_map] at k2
      obtain ⟨⟨n1, a1⟩, m1, rfl⟩ := Option.map_eq_some_iff.mp k1
      obtain ⟨⟨n2, a2⟩, m2, rfl⟩ := Option.map_eq_some_iff.mp k2
      obtain ⟨b1, rfl, f1⟩ := rep_at.mp r1
      obtain ⟨b2, rfl, f2⟩ := rep_at.mp r2
      have hz : (l.zip (l.drop 1))[i]? = some ((n1, a1), (n2, a2)) := by rw [List.getElem?_zip_eq_some]; exact ⟨m1, m2⟩
      have htk : (l.zip (l.drop 1)).take (i + 1) = (l.zip (l.drop 1)).take i ++ [((n1, a1), (n2, a2))] := by rw [List.take_add_one, hz]; rfl
      rw [htk, List.foldl_append]
      have hlen : ((((l.zip (l.drop 1)).take i).foldl (dstep d) t)).length ≤ t.length + 2 * i := by
        have := fold_len (d := d) (ps := (l.zip (l.drop 1)).take i) (t := t)
        rw [List.length_take] at this
        omega
      generalize ((l.zip (l.drop 1)).take i).foldl (dstep d) t = u at S2 hlen ⊢
      obtain ⟨G3, s3, S3, e3⟩ := S2.newE hT e
      have f1' := S3.isin (s3.to (s2.to (s1.to f1)))
      have f2' := S3.isin (s3.to (s2.to (s1.to f2)))
      refine x_gTup (S3.isin e3) rfl ?_
      fail "go"
      dsimp only at hlen ⊢
      refine l_I (.inr ⟨by omega, by omega⟩) ?_
      fail "go"
      refine c_mut S3 0 rfl (u, a1, a2, (n2 - n1) * (1000 + d)) ⟨rfl, rfl, by show u.length ≤ 1000; rw [lb] at hi; omega⟩ fun G4 H4 v4 o4 s4 S4 w4 => ?_
      subst w4
      fail "go"
      refine l_I (.inr ⟨by omega, by omega⟩) ?_
      fail "go"
      refine c_mut S4 0 rfl (tput u a1 a2 ((n2 - n1) * (1000 + d)), a2, a1, -(n2 - n1) * (1000 - d)) ⟨rfl, rfl, by have := tput_len (t := u) (a := a1) (b := a2) (n := (n2 - n1) * (1000 + d)); show (tput u a1 a2 _).length ≤ 1000; rw [lb] at hi; omega⟩ fun G5 H5 v5 o5 s5 S5 w5 => ?_
      subst w5
      exact ⟨G5, _, _, _, _, _, s2.tr (s3.tr (s4.tr s5)), rfl, S5⟩
end
section
variable {P : Program} {w : World} {K : PySem.W.Frag} {mg : Str → Option Value} {base : Heap} [TL]
def okey : Key := .inr "origin"
def fstep (i : Int) (t : Tb) : Sh.Note Str → Tb
  | .frm j l m => tput (tput t (.inl (j : Int)) (.inl i) m) (.inl i) (.inl (j : Int)) (-l)
  | .says _ l m => tput (tput t okey (.inl i) m) (.inl i) okey (-l)
def pfacts (i : Int) (t : Tb) (ns : List (Sh.Note Str)) : Tb := ns.foldl (fstep i) t
theorem fstep_len {i : Int} {t : Tb} {n : Sh.Note Str} : (fstep i t n).length ≤ t.length + 2 := by
  unfold fstep
  split
  · exact Nat.le_trans tput_len (Nat.succ_le_succ tput_len)
  · exact Nat.le_trans tput_len (Nat.succ_le_succ tput_len)
theorem pfacts_len {i : Int} : ∀ {ns : List (Sh.Note Str)} {t : Tb}, (pfacts i t ns).length ≤ t.length + 2 * ns.length
  | [], t => Nat.le_refl _
  | n :: ns, t => by
    have := pfacts_len (i := i) (ns := ns) (t := fstep i t n)
    have h := fstep_len (i := i) (t := t) (n := n)
    show (pfacts i (fstep i t n) ns).length ≤ _
    rw [List.length_cons]
    omega
def spPutFacts : Sp := Mut (fun G vs p o (x : Tb × Int × List (Sh.Note Str)) => (∃ v c, vs = [.ref p, .int x.2.1, v, .ref c] ∧ Rep G (dNotes x.2.2) v ∧ G c = some (.tup [])) ∧ o = .dT (tvl x.1) ∧ x.1.length + 2 * x.2.2.length ≤ 1000) fun _ x _ o' => o' = .dT (tvl (pfacts x.2.1 x.1 x.2.2))
theorem ok_put_facts (T : Txt K mg) : FnOk P w K mg base CX0 3 T.put_facts.a T.put_facts.fd ["table", "at", "facts", "choice"] spPutFacts := by
  refine T.put_facts.F.ok sc_put_facts (fun vs H Q E h => ?_) (fun cdv A outer s H vs Q E hr h => ?_)
  · obtain ⟨_, _, _, _, _, _, _, _, ⟨⟨_, _, rfl, _⟩, _⟩, _⟩ := h
    rfl
  · obtain ⟨⟨t, k, ns⟩, G, p, o, hs, hp, hg, hpl, ⟨⟨v, c, rfl, hv, hc⟩, rfl, hl⟩, q⟩ := h
    dsimp only at hl hv q ⊢
    have hu := hu_of hr
    have S := Sta.startM hs hp hg hpl
    obtain ⟨b, bs, rfl, eb, rb⟩ := rep_notes.mp hv
    have lb : bs.length = ns.length := by have := rb.len; rw [List.length_map] at this; exact this
    refine ⟨_, (pss_one (ps_for PassesOwn.never rfl (y_iT (K := K) rfl (pv 2)) (y_gTup (K := K) (n := 4) rfl rfl (pgs_cons (pg_name (i := 4) sc_put_facts.nd rfl (Or.inl rfl)) (pgs_cons (pg_name (i := 5) sc_put_facts.nd rfl (Or.inl rfl)) (pgs_cons (pg_name (i := 6) sc_put_facts.nd rfl (Or.inl rfl)) (pgs_cons (pg_name (i := 7) sc_put_facts.nd rfl (Or.inl rfl)) pgs_nil)))))
  (pss_cons (ps_if (pt_cmpR op_eq (pv 4) (pe_gcV rfl T.c_FROM) (nomark _))
  (pss_cons (ps_expr (pe_call (ok_put T) (hr.mono (by decide)) rfl T.put.g T.put.F.kp T.put.b .nil pass0 (pa_cons (pv 0) (pa_cons (pv 5) (pa_cons (pv 1) (pa_cons (pv 7) pa_nil))))))
  (pss_one (ps_expr (pe_call (ok_put T) (hr.mono (by decide)) rfl T.put.g T.put.F.kp T.put.b .nil pass0 (pa_cons (pv 0) (pa_cons (pv 1) (pa_cons (pv 5) (pa_cons (pe_un un_neg (pv 6)) pa_nil))))))))
  pss_nil)
  (pss_one (ps_if (PW.pt (pw_and (pt_cmpR op_eq (pv 4) (pe_gcV rfl T.c_SAYS) (nomark _)) (pw_and1 (pt_cmpR (y_notIn (K := K) rfl) (pv 5) (pv 3) rfl))))
  (pss_cons (ps_expr (pe_call (ok_put T) (hr.mono (by decide)) rfl T.put.g T.put.F.kp T.put.b .nil pass0 (pa_cons (pv 0) (pa_cons (pe_gcV rfl T.c_ORIGIN) (pa_cons (pv 1) (pa_cons (pv 7) pa_nil))))))
  (pss_one (ps_expr (pe_call (ok_put T) (hr.mono (by decide)) rfl T.put.g T.put.F.kp T.put.b .nil pass0 (pa_cons (pv 0) (pa_cons (pv 1) (pa_cons (pe_gcV rfl T.c_ORIGIN) (pa_cons (pe_un un_neg (pv 6)) pa_nil))))))))
  pss_nil))))), ?_⟩
    fail "go"
    refine for_t (xs := bs) (fun i σ H1 => ∃ (G2 : Hp) (x4 x5 x6 x7 : Option V), Sub G G2 ∧ σ = [some (.ref p), some (.int k), some (.ref b), some (.ref c), x4, x5, x6, x7] ∧ Sta (· = p) none G H G2 H1 [(p, .dT (tvl (pfacts k t (ns.take i))))]) ⟨G, none, none, none, none, Sub.rfl' _, rfl, S⟩ (fun i σ H1 h => ?_) (fun σ H1 h => ?_) (fun i v σ H1 hv h => ?_)
    · obtain ⟨G2, x4, x5, x6, x7, s2, rfl, S2⟩ := h
      exact S2.isin (s2.to eb)
    · obtain ⟨G2, x4, x5, x6, x7, s2, rfl, S2⟩ := h
      refine q _ _ _ _ S2.go (S2.at (i := 0) rfl) ⟨fun _ z => (nomatch z), fun _ z => (nomatch z)⟩ ?_
      rw [List.take_of_length_le (by rw [lb]; exact Nat.le_refl _)]
    · obtain ⟨G2, x4, x5, x6, x7, s2, rfl, S2⟩ := h
      have hi := (List.getElem?_eq_some_iff.mp hv).1
      obtain ⟨d1, k1, r1⟩ := rb.got hv
      rw [List.getElem?_map] at k1
      obtain ⟨n, m1, rfl⟩ := Option.map_eq_some_iff.mp k1
      have htk : pfacts k t (ns.take (i + 1)) = fstep k (pfacts k t (ns.take i)) n := by
        unfold pfacts
        rw [List.take_add_one, m1, List.foldl_append]
        rfl
      rw [htk]
      have hlen : (pfacts k t (ns.take i)).length ≤ t.length + 2 * i := by
        have := pfacts_len (i := k) (ns := ns.take i) (t := t)
        rw [List.length_take] at this
        omega
      have hl2 : t.length + 2 * i + 2 ≤ 1000 := by omega
      clear htk
      generalize pfacts k t (ns.take i) = u at S2 hlen ⊢
      cases n with
      | frm j l m =>
        obtain ⟨a, rfl, ea⟩ := rep_frm.mp r1
        refine x_gTup (S2.isin (s2.to ea)) rfl ?_
        fail "go"
        refine x_seq ?_
        fail "go"
        refine l_ifd (fun _ => ?_) (fun z => absurd rfl z)
        fail "go"
        refine c_mut S2 0 rfl (u, .inl (j : Int), .inl k, m) ⟨rfl, rfl, by show u.length ≤ 1000; omega⟩ fun G4 H4 v4 o4 s4 S4 w4 => ?_
        subst w4
        fail "go"
        refine c_mut S4 0 rfl (tput u (.inl (j : Int)) (.inl k) m, .inl k, .inl (j : Int), -l) ⟨rfl, rfl, by have := tput_len (t := u) (a := .inl (j : Int)) (b := .inl k) (n := m); show (tput u (.inl (j : Int)) (.inl k) m).length ≤ 1000; omega⟩ fun G5 H5 v5 o5 s5 S5 w5 => ?_
        subst w5
        fail "go"
        refine l_ifd (fun z => absurd z (by decide +kernel)) (fun _ => ?_)
        fail "go"
        exact ⟨G5, _, _, _, _, s2.tr (s4.tr s5), rfl, S5⟩
      | says s l m =>
        obtain ⟨a, rfl, ea⟩ := rep_says.mp r1
        refine x_gTup (S2.isin (s2.to ea)) rfl ?_
        fail "go"
        refine x_seq ?_
        fail "go"
        refine l_ifd (fun z => absurd z (by decide +kernel)) (fun _ => ?_)
        fail "go"
        refine l_ifd (fun _ => ?_) (fun z => absurd rfl z)
        fail "go"
        refine l_notin (xs := []) (.inr (S2.isin (s2.to hc))) rfl rfl ?_
        refine ⟨true, rfl, ?_⟩
        fail "go"
        refine c_mut S2 0 rfl (u, okey, .inl k, m) ⟨rfl, rfl, by show u.length ≤ 1000; omega⟩ fun G4 H4 v4 o4 s4 S4 w4 => ?_
        subst w4
        fail "go"
        refine c_mut S4 0 rfl (tput u okey (.inl k) m, .inl k, okey, -l) ⟨rfl, rfl, by have := tput_len (t := u) (a := okey) (b := .inl k) (n := m); show (tput u okey (.inl k) m).length ≤ 1000; omega⟩ fun G5 H5 v5 o5 s5 S5 w5 => ?_
        subst w5
        exact ⟨G5, _, _, _, _, s2.tr (s4.tr s5), rfl, S5⟩
end
section
variable {P : Program} {w : World} {K : PySem.W.Frag} {mg : Str → Option Value} {base : Heap} [TL]
def spotOf (l : List (Int × Key)) (r : Int) : Nat := (l.filter fun e => decide (e.1 < r)).length
def pmom (t : Tb) (l : List (Int × Key)) (node : Key) (r : Int) : Tb × List (Int × Key) :=
  match l.find? fun e => decide (e.1 = r) with
  | some e => (tput (tput t e.2 node 0) node e.2 0, l)
  | none => (t, l.take (spotOf l r) ++ [(r, node)] ++ l.drop (spotOf l r))
def spPutMoment : Sp := Mut (fun G vs p o (x : Tb × List (Int × Key) × Key × Int) => (∃ v, vs = [.ref p, v, kV x.2.2.1, .int x.2.2.2] ∧ Rep G (dLine x.2.1) v) ∧ o = .dT (tvl x.1) ∧ x.1.length + 2 ≤ 1000 ∧ x.2.1.length ≤ 900) fun G x v o' => o' = .dT (tvl (pmom x.1 x.2.1 x.2.2.1 x.2.2.2).1) ∧ Rep G (dLine (pmom x.1 x.2.1 x.2.2.1 x.2.2.2).2) v
theorem ok_put_moment (T : Txt K mg) : FnOk P w K mg base CX0 3 T.put_moment.a T.put_moment.fd ["table", "line", "node", "reading"] spPutMoment := by
  refine T.put_moment.F.ok sc_put_moment (fun vs H Q E h => ?_) (fun cdv A outer s H vs Q E hr h => ?_)
  · obtain ⟨_, _, _, _, _, _, _, _, ⟨⟨_, rfl, _⟩, _⟩, _⟩ := h
    rfl
  · obtain ⟨⟨t, l, nd, r⟩, G, p, o, hs, hp, hg, hpl, ⟨⟨v, rfl, hv⟩, rfl, hl, hl9⟩, q⟩ := h
    dsimp only at hl hl9 hv q ⊢
    have hu := hu_of hr
    have S := Sta.startM hs hp hg hpl
    obtain ⟨b, bs, rfl, eb, rb⟩ := hv
    have lb : bs.length = l.length := by have := rb.len; rw [List.length_map] at this; exact this
    have at_ : ∀ {i : Nat} {v : V}, bs[i]? = some v → ∃ e a, l[i]? = some e ∧ v = .ref a ∧ G a = some (.tup [.int e.1, kV e.2]) := fun {i v} hv => by
      obtain ⟨d1, k1, r1⟩ := rb.got hv
      rw [List.getElem?_map] at k1
      obtain ⟨n, m1, rfl⟩ := Option.map_eq_some_iff.mp k1
      obtain ⟨a, rfl, ea⟩ := rep_at.mp r1
      exact ⟨n, a, m1, rfl, ea⟩
    refine ⟨_, (pss_cons (ps_for PassesOwn.never rfl (y_iL (K := K) rfl (pv 1)) (y_gTup (K := K) (n := 2) rfl rfl (pgs_cons (pg_name (i := 4) sc_put_moment.nd rfl (Or.inl rfl)) (pgs_cons (pg_name (i := 5) sc_put_moment.nd rfl (Or.inl rfl)) pgs_nil)))
  (pss_one (ps_if (pt_cmpR op_eq (pv 4) (pv 3) (nomark _))
  (pss_cons (ps_expr (pe_call (ok_put T) (hr.mono (by decide)) rfl T.put.g T.put.F.kp T.put.b .nil pass0 (pa_cons (pv 0) (pa_cons (pv 5) (pa_cons (pv 2) (pa_cons pe_int pa_nil))))))
  (pss_cons (ps_expr (pe_call (ok_put T) (hr.mono (by decide)) rfl T.put.g T.put.F.kp T.put.b .nil pass0 (pa_cons (pv 0) (pa_cons (pv 2) (pa_cons (pv 5) (pa_cons pe_int pa_nil))))))
  (pss_one (ps_ret (pv 1)))))
  pss_nil)))
  (pss_cons (ps_set (i := 6) sc_put_moment.nd rfl (Or.inl rfl) (pe_callB (y_len (K := K) rfl) rfl T.z_len (by decide +kernel) (pa_cons (pe_lc (own := [("one", 7)]) rfl sc_put_moment.nd (y_iL (K := K) rfl (pv 1)) (blkOk_by (own := [("one", 7)]) (N := n_put_moment) (sc := defScope s_put_moment) (by decide +kernel)) (fun _ _ _ _ _ => (pg_name (i := 7) sc_put_moment.nd rfl (Or.inl rfl))) (fun _ _ _ _ _ => (pts_one (pt_cmpR op_lt (pe_ix (y_ixT (K := K) rfl) (pv 7) pe_int (fun _ _ => rfl)) (pv 3) (nomark _)))) (fun _ _ _ _ _ => (pv 7))) pa_nil)))
  (pss_one (ps_ret (pe_op op_cat (pe_op op_cat (pe_slice (y_slL (K := K) rfl) (pv 1) po_none (po_some (pv 6))) (pe_lst (pa_cons (pe_tup (pa_cons (pv 3) (pa_cons (pv 2) pa_nil))) pa_nil))) (pe_slice (y_slL (K := K) rfl) (pv 1) (po_some (pv 6)) po_none)))))), ?_⟩
    fail "go"
    refine for_l (xs := bs) (fun i σ H1 => ∃ (x4 x5 : Option V), σ = [some (.ref p), some (.ref b), some (kV nd), some (.int r), x4, x5, none, none] ∧ Sta (· = p) none G H G H1 [(p, .dT (tvl t))] ∧ (l.take i).find? (fun e => decide (e.1 = r)) = none) ⟨none, none, rfl, S, rfl⟩ (fun i σ H1 h => ?_) (fun σ H1 h => ?_) (fun i v σ H1 hv h => ?_)
    · obtain ⟨x4, x5, rfl, S2, _⟩ := h
      exact S2.isin eb
    · obtain ⟨x4, x5, rfl, S2, hf⟩ := h
      rw [List.take_of_length_le (by rw [lb]; exact Nat.le_refl _)] at hf
      fail "go"
      refine lc_l (xs := bs) S2 (fun i _ acc => acc.length = spotOf (l.take i) r) rfl (fun G1 H1 y s S1 => S1.isin (s.to eb)) (fun d G3 H3 acc s3 S3 hl3 hv3 => ?_) (fun i v d G3 H3 acc hi s3 S3 hl3 hv3 => ?_)
      · rw [List.take_of_length_le (by rw [lb]; exact Nat.le_refl _)] at hv3
        fail "go"
        rw [hv3]
        have hk : spotOf l r ≤ l.length := List.length_filter_le _ _
        refine n_fix S3 fun p6 G6 H6 s6 S6 e6 => ?_
        fail "go"
        refine n_fix S6 fun p7 G7 H7 s7 S7 e7 => ?_
        fail "go"
        refine n_fix S7 fun p8 G8 H8 s8 S8 e8 => ?_
        fail "go"
        rw [cut_take] at e6
        refine ls_cat (S8.isin (s8.to (s7.to e6))) (S8.isin e8) (by rw [List.length_take, lb]; show _ + 1 ≤ _; omega) (n_fix S8 fun p9 G9 H9 s9 S9 e9 => ?_)
        fail "go"
        refine n_fix S9 fun p10 G10 H10 s10 S10 e10 => ?_
        fail "go"
        rw [cut_drop] at e10
        refine ls_cat (S10.isin (s10.to e9)) (S10.isin e10) (by rw [List.length_append, List.length_take, List.length_drop, lb]; show _ + 1 + _ ≤ _; omega) (n_fix S10 fun p11 G11 H11 s11 S11 e11 => ?_)
        have hs' : Sub G G11 := s3.tr (s6.tr (s7.tr (s8.tr (s9.tr (s10.tr s11)))))
        have e7' : G11 p7 = some (.tup [.int r, kV nd]) := s11.to (s10.to (s9.to (s8.to e7)))
        refine q _ _ _ (.dT (tvl t)) S11.go (S11.at (i := 1) rfl) ⟨fun _ z => (nomatch z), fun _ z => (nomatch z)⟩ ?_
        unfold pmom
        rw [hf]
        refine ⟨rfl, p11, _, rfl, e11, ?_⟩
        have rb' := rb.mono hs'
        dsimp only
        rw [List.map_append, List.map_append, List.map_take, List.map_drop]
        exact ((rb'.take _).app (.one (rep_at.mpr ⟨p7, rfl, e7'⟩))).app (rb'.drop _)
      · obtain ⟨e, a, m1, rfl, ea⟩ := at_ hi
        have htk : l.take (i + 1) = l.take i ++ [e] := by rw [List.take_add_one, m1]; rfl
        have hli : i < bs.length := (List.getElem?_eq_some_iff.mp hi).1
        fail "go"
        refine l_ifd (fun z => ?_) (fun z => ?_)
        · fail "go"
          refine lc_in s3 S3 (by omega) (by omega) ?_
          rw [htk]
          unfold spotOf at hv3 ⊢
          rw [List.filter_append, List.length_append, List.length_append, hv3]
          simp [z]
        · refine lc_out s3 S3 (by omega) ?_
          rw [htk]
          unfold spotOf at hv3 ⊢
          rw [List.filter_append, List.length_append, hv3]
          simp [z]
    · obtain ⟨x4, x5, rfl, S2, hf⟩ := h
      have hi := (List.getElem?_eq_some_iff.mp hv).1
      obtain ⟨e, a, m1, rfl, ea⟩ := at_ hv
      have htk : l.take (i + 1) = l.take i ++ [e] := by rw [List.take_add_one, m1]; rfl
      refine x_gTup (S2.isin ea) rfl ?_
      fail "go"
      refine l_ifd (fun z => ?_) (fun z => ?_)
      · have z : e.1 = r := by injection z
        fail "go"
        refine c_mut S2 0 rfl (t, e.2, nd, 0) ⟨rfl, rfl, by show t.length ≤ 1000; omega⟩ fun G4 H4 v4 o4 s4 S4 w4 => ?_
        subst w4
        fail "go"
        refine c_mut S4 0 rfl (tput t e.2 nd 0, nd, e.2, 0) ⟨rfl, rfl, by have := tput_len (t := t) (a := e.2) (b := nd) (n := 0); show (tput t e.2 nd 0).length ≤ 1000; omega⟩ fun G5 H5 v5 o5 s5 S5 w5 => ?_
        subst w5
        fail "go"
        have hfd : l.find? (fun e => decide (e.1 = r)) = some e := by
          rw [← List.take_append_drop (i + 1) l, htk, List.find?_append, List.find?_append, hf]
          simp [z]
        refine q _ _ _ _ S5.go (S5.at (i := 0) rfl) ⟨fun _ z => (nomatch z), fun _ z => (nomatch z)⟩ ?_
        unfold pmom
        rw [hfd]
        exact ⟨rfl, b, bs, rfl, s5.to (s4.to eb), rb.mono (s4.tr s5)⟩
      · fail "go"
        refine ⟨_, _, rfl, S2, ?_⟩
        rw [htk, List.find?_append, hf]
        have z : ¬ e.1 = r := fun y => z (by rw [y])
        simp [z]
end
section
variable {P : Program} {w : World} {K : PySem.W.Frag} {mg : Str → Option Value} {base : Heap} [TL]
/-- a network there -/
def NetAt (T : Txt K mg) (G : Hp) (a : Addr) (lean : List (Str × Int)) (vs : List Str) : Prop :=
  ∃ dx fs d s, G a = some (.ins T.Network.C dx fs) ∧ fs.lookup ("n_drifts" : Str) = some (.ref d) ∧ fs.lookup ("n_sources" : Str) = some (.ref s) ∧ fs.lookup ("n_wrong" : Str) = some (.int 0) ∧ G d = some (.dK (lkv lean)) ∧ G s = some (.tup (vs.map V.str))
theorem NetAt.mono {T : Txt K mg} {G G' : Hp} {a : Addr} {lean : List (Str × Int)} {vs : List Str} (s : Sub G G') : NetAt T G a lean vs → NetAt T G' a lean vs := fun ⟨dx, fs, d, r, h1, h2, h3, h4, h5, h6⟩ => ⟨dx, fs, d, r, s.to h1, h2, h3, h4, s.to h5, s.to h6⟩
/-- a history there -/
def HisAt (T : Txt K mg) (G : Hp) (a : Addr) (lean : List (Str × Int)) (vs : List Str) (ds : List (Sh.Deed Str)) : Prop :=
  ∃ dx fs n e, G a = some (.ins T.History.C dx fs) ∧ fs.lookup ("h_network" : Str) = some (.ref n) ∧ fs.lookup ("h_events" : Str) = some e ∧ NetAt T G n lean vs ∧ Rep G (.tup (ds.map dDeed)) e
theorem HisAt.mono {T : Txt K mg} {G G' : Hp} {a : Addr} {lean : List (Str × Int)} {vs : List Str} {ds : List (Sh.Deed Str)} (s : Sub G G') : HisAt T G a lean vs ds → HisAt T G' a lean vs ds := fun ⟨dx, fs, n, e, h1, h2, h3, h4, h5⟩ => ⟨dx, fs, n, e, s.to h1, h2, h3, h4.mono s, h5.mono s⟩
abbrev NetX := List (Str × Int) × List Str
abbrev HisX := NetX × List (Sh.Deed Str)
def spDrifts (T : Txt K mg) : Sp := Pur (fun G vs (x : NetX) => ∃ a, vs = [.ref a] ∧ NetAt T G a x.1 x.2) fun G _ x v => ∃ d, v = .ref d ∧ G d = some (.dK (lkv x.1))
def spStations (T : Txt K mg) : Sp := Pur (fun G vs (x : NetX) => ∃ a, vs = [.ref a] ∧ NetAt T G a x.1 x.2) fun G _ x v => ∃ d, v = .ref d ∧ G d = some (.tup (x.1.map fun p => V.str p.1))
def spSources (T : Txt K mg) : Sp := Pur (fun G vs (x : NetX) => ∃ a, vs = [.ref a] ∧ NetAt T G a x.1 x.2) fun G _ x v => ∃ d, v = .ref d ∧ G d = some (.tup (x.2.map V.str))
def spWrong (T : Txt K mg) : Sp := Pur (fun G vs (x : NetX) => ∃ a, vs = [.ref a] ∧ NetAt T G a x.1 x.2) fun _ _ _ v => v = .int 0
def spNetwork (T : Txt K mg) : Sp := Pur (fun G vs (x : HisX) => ∃ a, vs = [.ref a] ∧ HisAt T G a x.1.1 x.1.2 x.2) fun G _ x v => ∃ n, v = .ref n ∧ NetAt T G n x.1.1 x.1.2
def spEvents (T : Txt K mg) : Sp := Pur (fun G vs (x : HisX) => ∃ a, vs = [.ref a] ∧ HisAt T G a x.1.1 x.1.2 x.2) fun G _ x v => Rep G (.tup (x.2.map dDeed)) v
theorem ok_Network_drifts (T : Txt K mg) : FnOk P w K mg base CX0 2 T.Network_drifts.a T.Network_drifts.fd ["self"] (spDrifts T) := by
  refine T.Network_drifts.F.ok sc_Network_drifts (fun vs H Q E h => ?_) (fun cdv A outer s H vs Q E hr h => ?_)
  · obtain ⟨_, _, _, ⟨_, rfl, _⟩, _⟩ := h
    rfl
  · obtain ⟨x, G, hs, ⟨a, rfl, dx, fs, d, r, e1, l1, l2, l3, e2, e3⟩, q⟩ := h
    have S := Sta.start hs
    refine ⟨_, (pss_one (ps_ret (pe_callTy k_dctD rfl T.z_dict (by decide +kernel) (pa_cons (y_fld (K := K) rfl (pv 0) rfl) pa_nil)))), ?_⟩
    fail "go"
    refine ⟨a, _, dx, fs, _, rfl, S.isin e1, T.Network.cl, T.nA_Network_n_drifts, l1, ?_⟩
    fail "go"
    refine n_fix S fun p1 G1 H1 s1 S1 e1 => ?_
    exact q _ _ _ S1.go ⟨p1, rfl, e1⟩
theorem ok_Network_stations (T : Txt K mg) : FnOk P w K mg base CX0 2 T.Network_stations.a T.Network_stations.fd ["self"] (spStations T) := by
  refine T.Network_stations.F.ok sc_Network_stations (fun vs H Q E h => ?_) (fun cdv A outer s H vs Q E hr h => ?_)
  · obtain ⟨_, _, _, ⟨_, rfl, _⟩, _⟩ := h
    rfl
  · obtain ⟨x, G, hs, ⟨a, rfl, dx, fs, d, r, e1, l1, l2, l3, e2, e3⟩, q⟩ := h
    have S := Sta.start hs
    refine ⟨_, (pss_one (ps_ret (pe_callTy (k_tupD rfl) rfl T.z_tuple (by decide +kernel) (pa_cons (y_fld (K := K) rfl (pv 0) rfl) pa_nil)))), ?_⟩
    fail "go"
    refine ⟨a, _, dx, fs, _, rfl, S.isin e1, T.Network.cl, T.nA_Network_n_drifts, l1, ?_⟩
    fail "go"
    refine ls_tupD (S.isin e2) ?_
    refine n_fix S fun p1 G1 H1 s1 S1 e1 => ?_
    unfold lkv at e1
    rw [List.map_map] at e1
    exact q _ _ _ S1.go ⟨p1, rfl, e1⟩
theorem ok_Network_sources (T : Txt K mg) : FnOk P w K mg base CX0 2 T.Network_sources.a T.Network_sources.fd ["self"] (spSources T) := by
  refine T.Network_sources.F.ok sc_Network_sources (fun vs H Q E h => ?_) (fun cdv A outer s H vs Q E hr h => ?_)
  · obtain ⟨_, _, _, ⟨_, rfl, _⟩, _⟩ := h
    rfl
  · obtain ⟨x, G, hs, ⟨a, rfl, dx, fs, d, r, e1, l1, l2, l3, e2, e3⟩, q⟩ := h
    have S := Sta.start hs
    refine ⟨_, (pss_one (ps_ret (y_fld (K := K) rfl (pv 0) rfl))), ?_⟩
    fail "go"
    refine ⟨a, _, dx, fs, _, rfl, S.isin e1, T.Network.cl, T.nA_Network_n_sources, l2, ?_⟩
    exact q _ _ _ S.go ⟨r, rfl, e3⟩
theorem ok_Network_wrong (T : Txt K mg) : FnOk P w K mg base CX0 2 T.Network_wrong.a T.Network_wrong.fd ["self"] (spWrong T) := by
  refine T.Network_wrong.F.ok sc_Network_wrong (fun vs H Q E h => ?_) (fun cdv A outer s H vs Q E hr h => ?_)
  · obtain ⟨_, _, _, ⟨_, rfl, _⟩, _⟩ := h
    rfl
  · obtain ⟨x, G, hs, ⟨a, rfl, dx, fs, d, r, e1, l1, l2, l3, e2, e3⟩, q⟩ := h
    have S := Sta.start hs
    refine ⟨_, (pss_one (ps_ret (y_fld (K := K) rfl (pv 0) rfl))), ?_⟩
    fail "go"
    refine ⟨a, _, dx, fs, _, rfl, S.isin e1, T.Network.cl, T.nA_Network_n_wrong, l3, ?_⟩
    exact q _ _ _ S.go rfl
theorem ok_History_network (T : Txt K mg) : FnOk P w K mg base CX0 2 T.History_network.a T.History_network.fd ["self"] (spNetwork T) := by
  refine T.History_network.F.ok sc_History_network (fun vs H Q E h => ?_) (fun cdv A outer s H vs Q E hr h => ?_)
  · obtain ⟨_, _, _, ⟨_, rfl, _⟩, _⟩ := h
    rfl
  · obtain ⟨x, G, hs, ⟨a, rfl, dx, fs, n, e, e1, l1, l2, h1, h2⟩, q⟩ := h
    have S := Sta.start hs
    refine ⟨_, (pss_one (ps_ret (y_fld (K := K) rfl (pv 0) rfl))), ?_⟩
    fail "go"
    refine ⟨a, _, dx, fs, _, rfl, S.isin e1, T.History.cl, T.nA_History_h_network, l1, ?_⟩
    exact q _ _ _ S.go ⟨n, rfl, h1⟩
theorem ok_History_events (T : Txt K mg) : FnOk P w K mg base CX0 2 T.History_events.a T.History_events.fd ["self"] (spEvents T) := by
  refine T.History_events.F.ok sc_History_events (fun vs H Q E h => ?_) (fun cdv A outer s H vs Q E hr h => ?_)
  · obtain ⟨_, _, _, ⟨_, rfl, _⟩, _⟩ := h
    rfl
  · obtain ⟨x, G, hs, ⟨a, rfl, dx, fs, n, e, e1, l1, l2, h1, h2⟩, q⟩ := h
    have S := Sta.start hs
    refine ⟨_, (pss_one (ps_ret (y_fld (K := K) rfl (pv 0) rfl))), ?_⟩
    fail "go"
    refine ⟨a, _, dx, fs, _, rfl, S.isin e1, T.History.cl, T.nA_History_h_events, l2, ?_⟩
    exact q _ _ _ S.go h2
end
section
variable {P : Program} {w : World} {K : PySem.W.Frag} {mg : Str → Option Value} {base : Heap} [TL]
def spSubsets : Sp := Pur (fun _ vs (_ : Unit) => ∃ x, vs = [x, .int 0]) fun G _ _ v => ∃ l c, v = .ref l ∧ G l = some (.lst [.ref c]) ∧ G c = some (.tup [])
theorem ok_subsets (T : Txt K mg) : FnOk P w K mg base CX0 2 T.subsets.a T.subsets.fd ["names", "many"] spSubsets := by
  refine T.subsets.F.ok sc_subsets (fun vs H Q E h => ?_) (fun cdv A outer s H vs Q E hr h => ?_)
  · obtain ⟨_, _, _, ⟨_, rfl⟩, _⟩ := h
    rfl
  · obtain ⟨x, G, hs, ⟨a, rfl⟩, q⟩ := h
    have S := Sta.start hs
    refine ⟨_, (pss_cons (ps_if (pt_cmpR op_eq (pv 1) pe_int (nomark _))
  (pss_one (ps_ret (pe_lst (pa_cons (pe_tup pa_nil) pa_nil))))
  pss_nil)
  pss_never), ?_⟩
    refine x_seq ?_
    fail "go"
    refine l_ifd (fun _ => ?_) (fun z => absurd rfl z)
    fail "go"
    refine n_fix S fun p1 G1 H1 s1 S1 e1 => ?_
    fail "go"
    refine n_fix S1 fun p2 G2 H2 s2 S2 e2 => ?_
    exact q _ _ _ S2.go ⟨p2, p1, rfl, e2, s2.to e1⟩
def spChoicesP (T : Txt K mg) : Sp := Pur (fun G vs (x : NetX) => (∃ a, vs = [.ref a] ∧ NetAt T G a x.1 x.2) ∧ x.2.length ≤ 6) fun G _ _ v => ∃ l c, v = .ref l ∧ G l = some (.lst [.ref c]) ∧ G c = some (.tup [])
theorem ok_choices (T : Txt K mg) : FnOk P w K mg base CX0 4 T.choices.a T.choices.fd ["network"] (spChoicesP T) := by
  refine T.choices.F.ok sc_choices (fun vs H Q E h => ?_) (fun cdv A outer s H vs Q E hr h => ?_)
  · obtain ⟨_, _, _, ⟨⟨_, rfl, _⟩, _⟩, _⟩ := h
    rfl
  · obtain ⟨x, G, hs, ⟨⟨a, rfl, hn⟩, h6⟩, q⟩ := h
    have S := Sta.start hs
    have hn' := hn
    obtain ⟨dx, fs, d, r, e1, l1, l2, l3, e2, e3⟩ := hn
    refine ⟨_, (pss_one (ps_ret (pe_call (ok_subsets T) (hr.mono (by decide)) rfl T.subsets.g T.subsets.F.kp T.subsets.b .nil pass0 (pa_cons (pe_callB (y_srtST (K := K) rfl) rfl T.z_sorted (by decide +kernel) (pa_cons (pe_prop (pv 0) T.Network.cl T.p_Network_sources.h (ok_Network_sources T) (hr.mono (by decide)) T.Network_sources.b .nil pass0n rfl) pa_nil)) (pa_cons (pe_prop (pv 0) T.Network.cl T.p_Network_wrong.h (ok_Network_wrong T) (hr.mono (by decide)) T.Network_wrong.b .nil pass0n rfl) pa_nil))))), ?_⟩
    fail "go"
    refine ⟨a, dx, fs, rfl, S.isin e1, ?_⟩
    refine c_pur S x ⟨a, rfl, hn'⟩ fun G1 H1 v1 s1 S1 o1 => ?_
    obtain ⟨r1, rfl, f1⟩ := o1
    fail "go"
    refine ls_sortedST (S1.isin f1) (by omega) fun ys _ => ?_
    refine n_fix S1 fun p2 G2 H2 s2 S2 e2 => ?_
    fail "go"
    refine ⟨a, dx, fs, rfl, S2.isin ((s1.tr s2).to e1), ?_⟩
    refine c_pur S2 x ⟨a, rfl, hn'.mono (s1.tr s2)⟩ fun G3 H3 v3 s3 S3 o3 => ?_
    obtain rfl : v3 = .int 0 := o3
    fail "go"
    refine c_pur S3 () ⟨_, rfl⟩ fun G4 H4 v4 s4 S4 o4 => ?_
    exact q _ _ _ S4.go o4
def spIsMoment (T : Txt K mg) : Sp := Pur (fun G vs (x : NetX × Str × Int) => (∃ a m, vs = [.ref a, .ref m] ∧ NetAt T G a x.1.1 x.1.2 ∧ G m = some (.tup [.str x.2.1, .int x.2.2])) ∧ (∃ z, (x.2.1, z) ∈ x.1.1) ∧ 0 ≤ x.2.2 ∧ x.2.2 ≤ 1000000) fun _ _ _ v => v = .bl true
theorem ok_is_moment (T : Txt K mg) : FnOk P w K mg base CX0 4 T.is_moment.a T.is_moment.fd ["network", "value"] (spIsMoment T) := by
  refine T.is_moment.F.ok sc_is_moment (fun vs H Q E h => ?_) (fun cdv A outer s H vs Q E hr h => ?_)
  · obtain ⟨_, _, _, ⟨⟨_, _, rfl, _⟩, _⟩, _⟩ := h
    rfl
  · obtain ⟨⟨x, nm, k⟩, G, hs, ⟨⟨a, m, rfl, hn, em⟩, ⟨z, hz⟩, h0, h1⟩, q⟩ := h
    dsimp only at hn em hz h0 h1 q
    have S := Sta.start hs
    have hn' := hn
    obtain ⟨dx, fs, d, r, e1, l1, l2, l3, e2, e3⟩ := hn
    refine ⟨_, (pss_cons (ps_if (PW.pt (pw_or (pt_not (pt_val (pe_callB (y_isi (K := K) rfl) rfl T.z_isinstance (by decide +kernel) (pa_cons (pv 1) (pa_cons (pe_ty (n := "tuple") rfl T.z_tuple (by decide +kernel)) pa_nil))))) (pw_or (pt_cmpR op_ne (pe_callB (y_len (K := K) rfl) rfl T.z_len (by decide +kernel) (pa_cons (pv 1) pa_nil)) pe_int (nomark _)) (pw_or1 (pt_not (pt_val (pe_callB (y_isi (K := K) rfl) rfl T.z_isinstance (by decide +kernel) (pa_cons (pe_ix (y_ixT (K := K) rfl) (pv 1) pe_int (fun _ _ => rfl)) (pa_cons (pe_ty (n := "str") rfl T.z_str (by decide +kernel)) pa_nil)))))))))
  (pss_one (ps_ret pe_bl))
  pss_nil)
  (pss_one (ps_ret (pe_and (pe_cmpR (y_in (K := K) rfl) (pe_ix (y_ixT (K := K) rfl) (pv 1) pe_int (fun _ _ => rfl)) (pe_prop (pv 0) T.Network.cl T.p_Network_stations.h (ok_Network_stations T) (hr.mono (by decide)) T.Network_stations.b .nil pass0n rfl) rfl) (pe_one (pe_call (ok_is_between T) (hr.mono (by decide)) rfl T.is_between.g T.is_between.F.kp T.is_between.b .nil pass0 (pa_cons (pe_ix (y_ixT (K := K) rfl) (pv 1) pe_int (fun _ _ => rfl)) (pa_cons pe_int (pa_cons (pe_gcV rfl T.c_MOST_READING) pa_nil))))))))), ?_⟩
    refine x_seq ?_
    fail "go"
    refine i_tt (S.isin em) ?_
    fail "go"
    refine l_ifn (fun z => absurd rfl z) (fun _ => ?_)
    fail "go"
    refine i_ss ?_
    fail "go"
    refine x_andV ?_
    fail "go"
    refine ⟨a, dx, fs, rfl, S.isin e1, ?_⟩
    refine c_pur S x ⟨a, rfl, hn'⟩ fun G1 H1 v1 s1 S1 o1 => ?_
    obtain ⟨r1, rfl, f1⟩ := o1
    have hmm : (x.1.map fun p => V.str p.1) = (x.1.map Prod.fst).map V.str := by rw [List.map_map]; rfl
    rw [hmm] at f1
    have hin : nm ∈ x.1.map Prod.fst := List.mem_map.mpr ⟨(nm, z), hz, rfl⟩
    refine l_in (.inr (S1.isin f1)) rfl (flat_strs _) ?_
    rw [inV_strs, decide_eq_true hin]
    refine ⟨true, rfl, ?_⟩
    fail "go"
    refine c_pur S1 (k, 0, 1000000000) rfl fun G2 H2 v2 s2 S2 o2 => ?_
    have o2 : v2 = .bl (decide ((0 : Int) ≤ k ∧ k ≤ 1000000000)) := o2
    rw [decide_eq_true ⟨h0, by omega⟩] at o2
    exact q _ _ _ S2.go o2
def spCheckMoment (T : Txt K mg) : Sp := Pur (fun G vs (x : NetX × Str × Int) => (∃ a m, vs = [.ref a, .ref m] ∧ NetAt T G a x.1.1 x.1.2 ∧ G m = some (.tup [.str x.2.1, .int x.2.2])) ∧ (∃ z, (x.2.1, z) ∈ x.1.1) ∧ 0 ≤ x.2.2 ∧ x.2.2 ≤ 1000000) fun _ _ _ v => v = .non
theorem ok_check_moment (T : Txt K mg) : FnOk P w K mg base CX0 5 T.check_moment.a T.check_moment.fd ["network", "value"] (spCheckMoment T) := by
  refine T.check_moment.F.ok sc_check_moment (fun vs H Q E h => ?_) (fun cdv A outer s H vs Q E hr h => ?_)
  · obtain ⟨_, _, _, ⟨⟨_, _, rfl, _⟩, _⟩, _⟩ := h
    rfl
  · obtain ⟨x, G, hs, ⟨⟨a, m, rfl, hn, em⟩, h1⟩, q⟩ := h
    have S := Sta.start hs
    refine ⟨_, (pss_one (ps_if (pt_not (pt_val (pe_call (ok_is_moment T) (hr.mono (by decide)) rfl T.is_moment.g T.is_moment.F.kp T.is_moment.b .nil pass0 (pa_cons (pv 0) (pa_cons (pv 1) pa_nil)))))
  (pss_one ps_never)
  pss_nil)), ?_⟩
    fail "go"
    refine c_pur S x ⟨⟨a, m, rfl, hn, em⟩, h1⟩ fun G1 H1 v1 s1 S1 o1 => ?_
    obtain rfl : v1 = .bl true := o1
    refine ⟨true, rfl, ?_⟩
    fail "go"
    exact q _ _ _ S1.go rfl
end
section
variable {P : Program} {w : World} {K : PySem.W.Frag} {mg : Str → Option Value} {base : Heap} [TL]
def spIsFact (T : Txt K mg) : Sp := Pur (fun G vs (x : NetX × Int × Sh.Note Str) => (∃ v a, vs = [v, .int x.2.1, .ref a] ∧ NetAt T G a x.1.1 x.1.2 ∧ Rep G (dNote x.2.2) v) ∧ ∃ i : Nat, x.2.1 = i ∧ NoteIn x.1.2 i x.2.2) fun _ _ _ v => v = .bl true
theorem ok_is_fact (T : Txt K mg) : FnOk P w K mg base CX0 4 T.is_fact.a T.is_fact.fd ["value", "at", "network"] (spIsFact T) := by
  refine T.is_fact.F.ok sc_is_fact (fun vs H Q E h => ?_) (fun cdv A outer s H vs Q E hr h => ?_)
  · obtain ⟨_, _, _, ⟨⟨_, _, rfl, _⟩, _⟩, _⟩ := h
    rfl
  · obtain ⟨⟨x, k, n⟩, G, hs, ⟨⟨v, a, rfl, hn, rv⟩, i, hi, nin⟩, q⟩ := h
    dsimp only at hn rv hi nin q
    subst hi
    have S := Sta.start hs
    have hn' := hn
    obtain ⟨dx, fs, d, r, e1, l1, l2, l3, e2, e3⟩ := hn
    cases n with
    | frm j l m =>
      obtain ⟨h1, h2, h3, h4⟩ := nin
      obtain ⟨b, rfl, eb⟩ := rep_frm.mp rv
      refine ⟨_, (pss_cons (ps_if (PW.pt (pw_or (pt_not (pt_val (pe_callB (y_isi (K := K) rfl) rfl T.z_isinstance (by decide +kernel) (pa_cons (pv 0) (pa_cons (pe_ty (n := "tuple") rfl T.z_tuple (by decide +kernel)) pa_nil))))) (pw_or (pt_cmpR op_ne (pe_callB (y_len (K := K) rfl) rfl T.z_len (by decide +kernel) (pa_cons (pv 0) pa_nil)) pe_int (nomark _)) (pw_or1 (pt_not (pt_val (pe_callB (y_isi (K := K) rfl) rfl T.z_isinstance (by decide +kernel) (pa_cons (pe_ix (y_ixT (K := K) rfl) (pv 0) pe_int (fun _ _ => rfl)) (pa_cons (pe_ty (n := "str") rfl T.z_str (by decide +kernel)) pa_nil)))))))))
  (pss_one (ps_ret pe_bl))
  pss_nil)
  (pss_cons (ps_asg (pv 0) (y_gTup (K := K) (n := 4) rfl rfl (pgs_cons (pg_name (i := 3) sc_is_fact.nd rfl (Or.inl rfl)) (pgs_cons (pg_name (i := 4) sc_is_fact.nd rfl (Or.inl rfl)) (pgs_cons (pg_name (i := 5) sc_is_fact.nd rfl (Or.inl rfl)) (pgs_cons (pg_name (i := 6) sc_is_fact.nd rfl (Or.inl rfl)) pgs_nil))))))
  (pss_cons (ps_if (pt_cmpR op_eq (pv 3) (pe_gcV rfl T.c_FROM) (nomark _))
  (pss_one (ps_ret (pe_and (pe_call (ok_is_between T) (hr.mono (by decide)) rfl T.is_between.g T.is_between.F.kp T.is_between.b .nil pass0 (pa_cons (pv 4) (pa_cons pe_int (pa_cons (pe_op op_sub (pv 1) pe_int) pa_nil)))) (pe_and (pe_call (ok_is_between T) (hr.mono (by decide)) rfl T.is_between.g T.is_between.F.kp T.is_between.b .nil pass0 (pa_cons (pv 5) (pa_cons pe_int (pa_cons (pe_gcV rfl T.c_MOST_DELAY) pa_nil)))) (pe_one (pe_call (ok_is_between T) (hr.mono (by decide)) rfl T.is_between.g T.is_between.F.kp T.is_between.b .nil pass0 (pa_cons (pv 6) (pa_cons (pv 5) (pa_cons (pe_gcV rfl T.c_MOST_DELAY) pa_nil)))))))))
  pss_nil)
  (pss_cons (ps_if (PW.pt (pw_or (pt_cmpR op_ne (pv 3) (pe_gcV rfl T.c_SAYS) (nomark _)) (pw_or (pt_not (pt_val (pe_callB (y_isi (K := K) rfl) rfl T.z_isinstance (by decide +kernel) (pa_cons (pv 4) (pa_cons (pe_ty (n := "str") rfl T.z_str (by decide +kernel)) pa_nil))))) (pw_or1 (pt_cmpR (y_notIn (K := K) rfl) (pv 4) (pe_prop (pv 2) T.Network.cl T.p_Network_sources.h (ok_Network_sources T) (hr.mono (by decide)) T.Network_sources.b .nil pass0n rfl) rfl)))))
  (pss_one (ps_ret pe_bl))
  pss_nil)
  (pss_one (ps_ret (pe_and (pe_call (ok_is_between T) (hr.mono (by decide)) rfl T.is_between.g T.is_between.F.kp T.is_between.b .nil pass0 (pa_cons (pv 5) (pa_cons (pe_un un_neg (pe_gcV rfl T.c_MOST_TIME)) (pa_cons (pe_gcV rfl T.c_MOST_TIME) pa_nil)))) (pe_one (pe_call (ok_is_between T) (hr.mono (by decide)) rfl T.is_between.g T.is_between.F.kp T.is_between.b .nil pass0 (pa_cons (pv 6) (pa_cons (pv 5) (pa_cons (pe_gcV rfl T.c_MOST_TIME) pa_nil)))))))))))), ?_⟩
      refine x_seq ?_
      fail "go"
      refine i_tt (S.isin eb) ?_
      fail "go"
      refine l_ifn (fun z => absurd rfl z) (fun _ => ?_)
      fail "go"
      refine i_ss ?_
      fail "go"
      refine x_seq ?_
      fail "go"
      refine l_ifd (fun _ => ?_) (fun z => absurd rfl z)
      fail "go"
      refine x_andV ?_
      fail "go"
      refine c_pur S ((j : Int), 0, (i : Int) - 1) rfl fun G1 H1 v1 s1 S1 o1 => ?_
      have o1 : v1 = .bl (decide ((0 : Int) ≤ j ∧ (j : Int) ≤ (i : Int) - 1)) := o1
      rw [decide_eq_true ⟨by omega, by omega⟩] at o1
      subst o1
      refine ⟨true, rfl, ?_⟩
      fail "go"
      refine x_andV ?_
      fail "go"
      refine c_pur S1 (l, 0, 1000000000000) rfl fun G2 H2 v2 s2 S2 o2 => ?_
      have o2 : v2 = .bl (decide ((0 : Int) ≤ l ∧ l ≤ 1000000000000)) := o2
      rw [decide_eq_true ⟨by omega, by omega⟩] at o2
      subst o2
      refine ⟨true, rfl, ?_⟩
      fail "go"
      refine c_pur S2 (m, l, 1000000000000) rfl fun G3 H3 v3 s3 S3 o3 => ?_
      have o3 : v3 = .bl (decide (l ≤ m ∧ m ≤ 1000000000000)) := o3
      rw [decide_eq_true ⟨by omega, by omega⟩] at o3
      exact q _ _ _ S3.go o3
    | says u l m =>
      obtain ⟨h1, h2, h3, h4⟩ := nin
      obtain ⟨b, rfl, eb⟩ := rep_says.mp rv
      refine ⟨_, (pss_cons (ps_if (PW.pt (pw_or (pt_not (pt_val (pe_callB (y_isi (K := K) rfl) rfl T.z_isinstance (by decide +kernel) (pa_cons (pv 0) (pa_cons (pe_ty (n := "tuple") rfl T.z_tuple (by decide +kernel)) pa_nil))))) (pw_or (pt_cmpR op_ne (pe_callB (y_len (K := K) rfl) rfl T.z_len (by decide +kernel) (pa_cons (pv 0) pa_nil)) pe_int (nomark _)) (pw_or1 (pt_not (pt_val (pe_callB (y_isi (K := K) rfl) rfl T.z_isinstance (by decide +kernel) (pa_cons (pe_ix (y_ixT (K := K) rfl) (pv 0) pe_int (fun _ _ => rfl)) (pa_cons (pe_ty (n := "str") rfl T.z_str (by decide +kernel)) pa_nil)))))))))
  (pss_one (ps_ret pe_bl))
  pss_nil)
  (pss_cons (ps_asg (pv 0) (y_gTup (K := K) (n := 4) rfl rfl (pgs_cons (pg_name (i := 3) sc_is_fact.nd rfl (Or.inl rfl)) (pgs_cons (pg_name (i := 4) sc_is_fact.nd rfl (Or.inl rfl)) (pgs_cons (pg_name (i := 5) sc_is_fact.nd rfl (Or.inl rfl)) (pgs_cons (pg_name (i := 6) sc_is_fact.nd rfl (Or.inl rfl)) pgs_nil))))))
  (pss_cons (ps_if (pt_cmpR op_eq (pv 3) (pe_gcV rfl T.c_FROM) (nomark _))
  (pss_one (ps_ret (pe_and (pe_call (ok_is_between T) (hr.mono (by decide)) rfl T.is_between.g T.is_between.F.kp T.is_between.b .nil pass0 (pa_cons (pv 4) (pa_cons pe_int (pa_cons (pe_op op_sub (pv 1) pe_int) pa_nil)))) (pe_and (pe_call (ok_is_between T) (hr.mono (by decide)) rfl T.is_between.g T.is_between.F.kp T.is_between.b .nil pass0 (pa_cons (pv 5) (pa_cons pe_int (pa_cons (pe_gcV rfl T.c_MOST_DELAY) pa_nil)))) (pe_one (pe_call (ok_is_between T) (hr.mono (by decide)) rfl T.is_between.g T.is_between.F.kp T.is_between.b .nil pass0 (pa_cons (pv 6) (pa_cons (pv 5) (pa_cons (pe_gcV rfl T.c_MOST_DELAY) pa_nil)))))))))
  pss_nil)
  (pss_cons (ps_if (PW.pt (pw_or (pt_cmpR op_ne (pv 3) (pe_gcV rfl T.c_SAYS) (nomark _)) (pw_or (pt_not (pt_val (pe_callB (y_isi (K := K) rfl) rfl T.z_isinstance (by decide +kernel) (pa_cons (pv 4) (pa_cons (pe_ty (n := "str") rfl T.z_str (by decide +kernel)) pa_nil))))) (pw_or1 (pt_cmpR (y_notIn (K := K) rfl) (pv 4) (pe_prop (pv 2) T.Network.cl T.p_Network_sources.h (ok_Network_sources T) (hr.mono (by decide)) T.Network_sources.b .nil pass0n rfl) rfl)))))
  (pss_one (ps_ret pe_bl))
  pss_nil)
  (pss_one (ps_ret (pe_and (pe_call (ok_is_between T) (hr.mono (by decide)) rfl T.is_between.g T.is_between.F.kp T.is_between.b .nil pass0 (pa_cons (pv 5) (pa_cons (pe_un un_neg (pe_gcV rfl T.c_MOST_TIME)) (pa_cons (pe_gcV rfl T.c_MOST_TIME) pa_nil)))) (pe_one (pe_call (ok_is_between T) (hr.mono (by decide)) rfl T.is_between.g T.is_between.F.kp T.is_between.b .nil pass0 (pa_cons (pv 6) (pa_cons (pv 5) (pa_cons (pe_gcV rfl T.c_MOST_TIME) pa_nil)))))))))))), ?_⟩
      refine x_seq ?_
      fail "go"
      refine i_tt (S.isin eb) ?_
      fail "go"
      refine l_ifn (fun z => absurd rfl z) (fun _ => ?_)
      fail "go"
      refine i_ss ?_
      fail "go"
      refine x_seq ?_
      fail "go"
      refine l_ifd (fun z => absurd z (by decide +kernel)) (fun _ => ?_)
      fail "go"
      refine x_seq ?_
      fail "go"
      refine l_ifn (fun z => absurd rfl z) (fun _ => ?_)
      fail "go"
      refine i_ss ?_
      fail "go"
      refine ⟨a, dx, fs, rfl, S.isin e1, ?_⟩
      refine c_pur S x ⟨a, rfl, hn'⟩ fun G1 H1 v1 s1 S1 o1 => ?_
      obtain ⟨r1, rfl, f1⟩ := o1
      fail "go"
      refine l_notin (.inr (S1.isin f1)) rfl (flat_strs _) ?_
      rw [inV_strs, decide_eq_true h1]
      refine ⟨false, rfl, ?_⟩
      fail "go"
      refine x_andV ?_
      fail "go"
      refine c_pur S1 (l, -1000000000000000, 1000000000000000) rfl fun G2 H2 v2 s2 S2 o2 => ?_
      have o2 : v2 = .bl (decide ((-1000000000000000 : Int) ≤ l ∧ l ≤ 1000000000000000)) := o2
      rw [decide_eq_true ⟨by omega, by omega⟩] at o2
      subst o2
      refine ⟨true, rfl, ?_⟩
      fail "go"
      refine c_pur S2 (m, l, 1000000000000000) rfl fun G3 H3 v3 s3 S3 o3 => ?_
      have o3 : v3 = .bl (decide (l ≤ m ∧ m ≤ 1000000000000000)) := o3
      rw [decide_eq_true ⟨by omega, by omega⟩] at o3
      exact q _ _ _ S3.go o3
end
section
variable {P : Program} {w : World} {K : PySem.W.Frag} {mg : Str → Option Value} {base : Heap} [TL]
structure EvIn (lean : List (Str × Int)) (vs : List Str) (i : Nat) (d : Sh.Deed Str) : Prop where
  st : d.st ∈ lean.map Prod.fst
  tick : 0 ≤ d.tick ∧ d.tick ≤ 1000000
  few : d.notes.length ≤ 3
  notes : ∀ n ∈ d.notes, NoteIn vs i n
def spIsEvent (T : Txt K mg) : Sp := Pur (fun G vs (x : NetX × Int × Sh.Deed Str) => (∃ v a, vs = [v, .int x.2.1, .ref a] ∧ NetAt T G a x.1.1 x.1.2 ∧ Rep G (dDeed x.2.2) v) ∧ ∃ i : Nat, x.2.1 = i ∧ EvIn x.1.1 x.1.2 i x.2.2) fun _ _ _ v => v = .bl true
theorem ok_is_event (T : Txt K mg) : FnOk P w K mg base CX0 5 T.is_event.a T.is_event.fd ["value", "at", "network"] (spIsEvent T) := by
  refine T.is_event.F.ok sc_is_event (fun vs H Q E h => ?_) (fun cdv A outer s H vs Q E hr h => ?_)
  · obtain ⟨_, _, _, ⟨⟨_, _, rfl, _⟩, _⟩, _⟩ := h
    rfl
  · obtain ⟨⟨x, k, n⟩, G, hs, ⟨⟨v, a, rfl, hn, rv⟩, i, hi, ev⟩, q⟩ := h
    dsimp only at hn rv hi ev q
    subst hi
    have S := Sta.start hs
    have hn' := hn
    obtain ⟨dx, fs, d, r, e1, l1, l2, l3, e2, e3⟩ := hn
    obtain ⟨b, nv, rfl, eb, rn⟩ := rep_deed.mp rv
    obtain ⟨c, ns, rfl, ec, rns⟩ := rep_notes.mp rn
    have ln : ns.length = n.notes.length := by have := rns.len; rw [List.length_map] at this; exact this
    have few := ev.few
    have tk := ev.tick
    refine ⟨_, (pss_cons (ps_if (PW.pt (pw_or (pt_not (pt_val (pe_callB (y_isi (K := K) rfl) rfl T.z_isinstance (by decide +kernel) (pa_cons (pv 0) (pa_cons (pe_ty (n := "tuple") rfl T.z_tuple (by decide +kernel)) pa_nil))))) (pw_or (pt_cmpR op_ne (pe_callB (y_len (K := K) rfl) rfl T.z_len (by decide +kernel) (pa_cons (pv 0) pa_nil)) pe_int (nomark _)) (pw_or1 (pt_not (pt_val (pe_callB (y_isi (K := K) rfl) rfl T.z_isinstance (by decide +kernel) (pa_cons (pe_ix (y_ixT (K := K) rfl) (pv 0) pe_int (fun _ _ => rfl)) (pa_cons (pe_ty (n := "str") rfl T.z_str (by decide +kernel)) pa_nil)))))))))
  (pss_one (ps_ret pe_bl))
  pss_nil)
  (pss_cons (ps_asg (pv 0) (y_gTup (K := K) (n := 3) rfl rfl (pgs_cons (pg_name (i := 3) sc_is_event.nd rfl (Or.inl rfl)) (pgs_cons (pg_name (i := 4) sc_is_event.nd rfl (Or.inl rfl)) (pgs_cons (pg_name (i := 5) sc_is_event.nd rfl (Or.inl rfl)) pgs_nil)))))
  (pss_cons (ps_if (PW.pt (pw_or (pt_cmpR (y_notIn (K := K) rfl) (pv 3) (pe_prop (pv 2) T.Network.cl T.p_Network_stations.h (ok_Network_stations T) (hr.mono (by decide)) T.Network_stations.b .nil pass0n rfl) rfl) (pw_or1 (pt_not (pt_val (pe_call (ok_is_between T) (hr.mono (by decide)) rfl T.is_between.g T.is_between.F.kp T.is_between.b .nil pass0 (pa_cons (pv 4) (pa_cons pe_int (pa_cons (pe_gcV rfl T.c_MOST_READING) pa_nil)))))))))
  (pss_one (ps_ret pe_bl))
  pss_nil)
  (pss_cons (ps_if (PW.pt (pw_or (pt_not (pt_val (pe_callB (y_isi (K := K) rfl) rfl T.z_isinstance (by decide +kernel) (pa_cons (pv 5) (pa_cons (pe_ty (n := "tuple") rfl T.z_tuple (by decide +kernel)) pa_nil))))) (pw_or1 (pt_cmpR op_gt (pe_callB (y_len (K := K) rfl) rfl T.z_len (by decide +kernel) (pa_cons (pv 5) pa_nil)) (pe_gcV rfl T.c_MOST_FACTS) (nomark _)))))
  (pss_one (ps_ret pe_bl))
  pss_nil)
  (pss_one (ps_ret (pe_callB (y_all (K := K) rfl rfl) rfl T.z_all (by decide +kernel) (pa_cons (pe_lc (own := [("fact", 6)]) rfl sc_is_event.nd (y_iT (K := K) rfl (pv 5)) (blkOk_by (own := [("fact", 6)]) (N := n_is_event) (sc := defScope s_is_event) (by decide +kernel)) (fun _ _ _ _ _ => (pg_name (i := 6) sc_is_event.nd rfl (Or.inl rfl))) (fun _ _ _ _ _ => pts_nil) (fun _ _ _ _ _ => (pe_call (ok_is_fact T) (hr.mono (by decide)) rfl T.is_fact.g T.is_fact.F.kp T.is_fact.b .nil pass0 (pa_cons (pv 6) (pa_cons (pv 1) (pa_cons (pv 2) pa_nil)))))) pa_nil)))))))), ?_⟩
    refine x_seq ?_
    fail "go"
    refine i_tt (S.isin eb) ?_
    fail "go"
    refine l_ifn (fun z => absurd rfl z) (fun _ => ?_)
    fail "go"
    refine i_ss ?_
    fail "go"
    refine x_seq ?_
    fail "go"
    refine ⟨a, dx, fs, rfl, S.isin e1, ?_⟩
    refine c_pur S x ⟨a, rfl, hn'⟩ fun G1 H1 v1 s1 S1 o1 => ?_
    obtain ⟨r1, rfl, f1⟩ := o1
    have hmm : (x.1.map fun p => V.str p.1) = (x.1.map Prod.fst).map V.str := by rw [List.map_map]; rfl
    rw [hmm] at f1
    refine l_notin (.inr (S1.isin f1)) rfl (flat_strs _) ?_
    rw [inV_strs, decide_eq_true ev.st]
    refine ⟨false, rfl, ?_⟩
    fail "go"
    refine c_pur S1 (n.tick, 0, 1000000000) rfl fun G2 H2 v2 s2 S2 o2 => ?_
    have o2 : v2 = .bl (decide ((0 : Int) ≤ n.tick ∧ n.tick ≤ 1000000000)) := o2
    rw [decide_eq_true ⟨by omega, by omega⟩] at o2
    subst o2
    refine ⟨true, rfl, ?_⟩
    fail "go"
    refine x_seq ?_
    fail "go"
    refine i_tt (S2.isin (s2.to (s1.to ec))) ?_
    fail "go"
    refine l_ifd (fun z => absurd (show ¬ (3 : Int) < ns.length by omega) (fun h => h z)) (fun _ => ?_)
    fail "go"
    refine lc_t (xs := ns) S2 (fun i _ acc => acc = (List.replicate i true).map V.bl) rfl (fun G1 H1 y s S1 => S1.isin (s.to (s2.to (s1.to ec)))) (fun l G3 H3 acc s3 S3 hl hv => ?_) (fun j v l G3 H3 acc hj s3 S3 hl hv => ?_)
    · subst hv
      fail "go"
      refine l_all (S3.at (i := 0) rfl) ?_
      rw [all_true]
      exact q _ _ _ S3.go rfl
    · subst hv
      obtain ⟨d1, k1, r1⟩ := rns.got hj
      rw [List.getElem?_map] at k1
      obtain ⟨nt, m1, rfl⟩ := Option.map_eq_some_iff.mp k1
      have hlt := (List.getElem?_eq_some_iff.mp hj).1
      fail "go"
      refine c_pur S3 (x, (i : Int), nt) ⟨⟨v, a, rfl, hn'.mono (s1.tr (s2.tr s3)), r1.mono (s1.tr (s2.tr s3))⟩, i, rfl, ev.notes _ (List.mem_of_getElem? m1)⟩ fun G4 H4 v4 s4 S4 o4 => ?_
      obtain rfl : v4 = .bl true := o4
      refine lc_in (s3.tr s4) S4 (by omega) (by omega) ?_
      exact rep_snoc j
end
section
variable {P : Program} {w : World} {K : PySem.W.Frag} {mg : Str → Option Value} {base : Heap} [TL]
def lastOf (ds : List (Sh.Deed Str)) : List (Key × V) := ds.foldl (fun acc d => putK acc (.inr d.st) (.int d.tick)) []
theorem lastOf_snoc {ds : List (Sh.Deed Str)} {d : Sh.Deed Str} : lastOf (ds ++ [d]) = putK (lastOf ds) (.inr d.st) (.int d.tick) := by
  unfold lastOf
  rw [List.foldl_append]
  rfl
theorem lastOf_get {s : Str} {v : V} : ∀ {n : Nat} {ds : List (Sh.Deed Str)}, ds.length = n → valV (lastOf ds) (.inr s) = some v → ∃ d ∈ ds, d.st = s ∧ v = .int d.tick
  | 0, ds, h, e => by
    obtain rfl := List.eq_nil_of_length_eq_zero h
    exact nomatch e
  | n + 1, ds, h, e => by
    obtain ⟨l, d, rfl⟩ : ∃ l d, ds = l ++ [d] := ⟨ds.dropLast, ds.getLast (by intro z; rw [z] at h; cases h), (List.dropLast_concat_getLast _).symm⟩
    rw [lastOf_snoc, valV_putK] at e
    by_cases g : (Sum.inr s : Key) = .inr d.st
    · rw [if_pos g] at e
      cases e
      exact ⟨d, by simp, by cases g; rfl, rfl⟩
    · rw [if_neg g] at e
      obtain ⟨d', m, h1, h2⟩ := lastOf_get (n := n) (by rw [List.length_append] at h; exact Nat.succ.inj h) e
      exact ⟨d', List.mem_append_left _ m, h1, h2⟩
theorem lastOf_len {ds : List (Sh.Deed Str)} : (lastOf ds).length ≤ ds.length := by
  unfold lastOf
  suffices h : ∀ (acc : List (Key × V)), (ds.foldl (fun acc (d : Sh.Deed Str) => putK acc (.inr d.st) (.int d.tick)) acc).length ≤ acc.length + ds.length by simpa using h []
  induction ds with
  | nil => exact fun _ => Nat.le_refl _
  | cons d ds ih =>
    intro acc
    have := ih (putK acc (.inr d.st) (.int d.tick))
    have h := putK_len acc (.inr d.st) (.int d.tick)
    rw [List.foldl_cons, List.length_cons]
    omega
structure EvsIn (lean : List (Str × Int)) (vs : List Str) (ds : List (Sh.Deed Str)) : Prop where
  len : ds.length ≤ 30
  ev : ∀ i d, ds[i]? = some d → EvIn lean vs i d
  mono : ds.Pairwise fun a b => a.st = b.st → a.tick < b.tick
def spCheckEvents (T : Txt K mg) : Sp := Pur (fun G vs (x : HisX) => (∃ e a, vs = [.ref e, .ref a] ∧ NetAt T G a x.1.1 x.1.2 ∧ Rep G (.lst (x.2.map dDeed)) (.ref e)) ∧ EvsIn x.1.1 x.1.2 x.2) fun _ _ _ v => v = .non
theorem ok_check_events (T : Txt K mg) : FnOk P w K mg base CX0 6 T.check_events.a T.check_events.fd ["events", "network"] (spCheckEvents T) := by
  refine T.check_events.F.ok sc_check_events (fun vs H Q E h => ?_) (fun cdv A outer s H vs Q E hr h => ?_)
  · obtain ⟨_, _, _, ⟨⟨_, _, rfl, _⟩, _⟩, _⟩ := h
    rfl
  · obtain ⟨⟨x, ds⟩, G, hs, ⟨⟨e, a, rfl, hn, re⟩, evs⟩, q⟩ := h
    dsimp only at hn re evs q
    have hu := hu_of hr
    have S := Sta.start hs
    obtain ⟨e', bs, he', eb, rb⟩ := re
    cases he'
    have lb : bs.length = ds.length := by have := rb.len; rw [List.length_map] at this; exact this
    have len := evs.len
    refine ⟨_, (pss_cons (ps_if (pt_not (pt_val (pe_call (ok_is_list T) (hr.mono (by decide)) rfl T.is_list.g T.is_list.F.kp T.is_list.b .nil pass0 (pa_cons (pv 0) pa_nil))))
  (pss_one ps_never)
  pss_nil)
  (pss_cons (ps_set (i := 2) sc_check_events.nd rfl (Or.inl rfl) pe_dnewK)
  (pss_one (ps_for PassesOwn.never rfl (y_iE (K := K) rfl rfl T.z_enumerate (pa_cons (pv 0) pa_nil)) (y_gTup (K := K) (n := 2) rfl rfl (pgs_cons (pg_name (i := 3) sc_check_events.nd rfl (Or.inl rfl)) (pgs_cons (pg_name (i := 4) sc_check_events.nd rfl (Or.inl rfl)) pgs_nil)))
  (pss_cons (ps_if (PW.pt (pw_or (pt_cmpR op_ge (pv 3) (pe_gcV rfl T.c_MOST_EVENTS) (nomark _)) (pw_or1 (pt_not (pt_val (pe_call (ok_is_event T) (hr.mono (by decide)) rfl T.is_event.g T.is_event.F.kp T.is_event.b .nil pass0 (pa_cons (pv 4) (pa_cons (pv 3) (pa_cons (pv 1) pa_nil)))))))))
  (pss_one ps_never)
  pss_nil)
  (pss_cons (ps_if (pt_cmpR op_le (pe_ix (y_ixT (K := K) rfl) (pv 4) pe_int (fun _ _ => rfl)) (pe_dget2 hu (pv 2) (pe_ix (y_ixT (K := K) rfl) (pv 4) pe_int (fun _ _ => rfl)) (pe_un un_neg pe_int) ⟨rfl, rfl, rfl, rfl⟩) (nomark _))
  (pss_one ps_never)
  pss_nil)
  (pss_one (ps_dput hu (pv 2) (pe_ix (y_ixT (K := K) rfl) (pv 4) pe_int (fun _ _ => rfl)) (pe_ix (y_ixT (K := K) rfl) (pv 4) pe_int (fun _ _ => rfl)) rfl)))))))), ?_⟩
    refine x_seq ?_
    fail "go"
    refine c_pur S () ⟨e, _, rfl, eb⟩ fun G1 H1 v1 s1 S1 o1 => ?_
    obtain rfl : v1 = .bl true := o1
    refine ⟨true, rfl, ?_⟩
    fail "go"
    refine n_own S1 fun p2 H2 S2 => ?_
    fail "go"
    refine for_e (xs := bs) (fun i σ H1 => ∃ (G2 : Hp) (x3 x4 : Option V), Sub G1 G2 ∧ σ = [some (.ref e), some (.ref a), some (.ref p2), x3, x4] ∧ Sta M0 none G H G2 H1 [(p2, .dK (lastOf (ds.take i)))]) ⟨G1, none, none, Sub.rfl' _, rfl, S2⟩ (fun i σ H1 h => ?_) (fun σ H1 h => ?_) (fun i v T1 σ H1 H2 hv h hT e1 => ?_)
    · obtain ⟨G2, x3, x4, s2, rfl, S2⟩ := h
      exact S2.isin (s2.to (s1.to eb))
    · obtain ⟨G2, x3, x4, s2, rfl, S2⟩ := h
      exact q _ _ _ S2.go rfl
    · obtain ⟨G2, x3, x4, s2, rfl, S2⟩ := h
      obtain ⟨G3, s3, S3, e3⟩ := S2.newE hT e1
      have hlt := (List.getElem?_eq_some_iff.mp hv).1
      obtain ⟨d1, k1, r1⟩ := rb.got hv
      rw [List.getElem?_map] at k1
      obtain ⟨d, m1, rfl⟩ := Option.map_eq_some_iff.mp k1
      obtain ⟨b, nv, rfl, ed, rn⟩ := rep_deed.mp r1
      have ed3 : G3 b = some (.tup [.str d.st, .int d.tick, nv]) := s3.to (s2.to (s1.to ed))
      refine x_gTup (S3.isin e3) rfl ?_
      fail "go"
      refine x_seq ?_
      fail "go"
      refine l_ifd (fun z => absurd z (by omega)) (fun _ => ?_)
      fail "go"
      refine c_pur S3 (x, (i : Int), d) ⟨⟨_, a, rfl, hn.mono (s1.tr (s2.tr s3)), r1.mono (s1.tr (s2.tr s3))⟩, i, rfl, evs.ev i d m1⟩ fun G4 H4 v4 s4 S4 o4 => ?_
      obtain rfl : v4 = .bl true := o4
      refine ⟨true, rfl, ?_⟩
      have ed4 : G4 b = some (.tup [.str d.st, .int d.tick, nv]) := s4.to ed3
      fail "go"
      refine x_seq ?_
      fail "go"
      have evd := evs.ev i d m1
      have t0 := evd.tick
      obtain ⟨u, hu2, hlt2⟩ : ∃ u : Int, (valV (lastOf (ds.take i)) (.inr d.st)).getD (.int (-1)) = .int u ∧ u < d.tick := by
        cases hh : valV (lastOf (ds.take i)) (.inr d.st) with
        | none => exact ⟨-1, rfl, by omega⟩
        | some w =>
          obtain ⟨d', hm, h1, h2⟩ := lastOf_get rfl hh
          subst h2
          refine ⟨d'.tick, rfl, ?_⟩
          obtain ⟨j, hj, e5⟩ := List.getElem_of_mem hm
          rw [List.length_take] at hj
          rw [List.getElem_take] at e5
          have hi2 := List.getElem?_eq_some_iff.mp m1
          obtain ⟨hi2, e6⟩ := hi2
          have := List.pairwise_iff_getElem.mp evs.mono j i (by omega) hi2 (by omega)
          rw [e5, e6] at this
          exact this h1
      refine ⟨_, DGet.k (k := .inr d.st) (S4.at (i := 0) rfl), ?_⟩
      rw [hu2]
      fail "go"
      refine l_ifd (fun z => absurd z (by omega)) (fun _ => ?_)
      fail "go"
      have l4 : (lastOf (ds.take i)).length ≤ 1000 := by have := lastOf_len (ds := ds.take i); rw [List.length_take] at this; omega
      refine ls_putS S4 0 rfl l4 fun H5 S5 => ?_
      have htk : ds.take (i + 1) = ds.take i ++ [d] := by rw [List.take_add_one, m1]; rfl
      rw [htk, lastOf_snoc]
      exact ⟨G4, _, _, s2.tr (s3.tr s4), rfl, S5⟩
end
section
variable {P : Program} {w : World} {K : PySem.W.Frag} {mg : Str → Option Value} {base : Heap} [TL]
theorem x_fset {K : PySem.W.Frag} {ta tv : TE} {f : Str} {D : Ends} {σ : L2.St} {H : Hp} (h : tv σ H fun y H1 => ta σ H1 fun x H2 => ∃ a C dx fs, x = .ref a ∧ H2 a = some (.ins C dx fs) ∧ Cls K C ∧ NoAttr K C f ∧ fs.length < 1000 ∧ D.nx σ (upd H2 a (.ins C dx (putF f y fs)))) : sFld K ta tv f D σ H := h
/-- a new thing's making: the cell at p is changed -/
def spHisInit (T : Txt K mg) : Sp := Mut (fun G vs p o (x : HisX) => (∃ e a, vs = [.ref p, .ref a, .ref e] ∧ NetAt T G a x.1.1 x.1.2 ∧ Rep G (.lst (x.2.map dDeed)) (.ref e)) ∧ EvsIn x.1.1 x.1.2 x.2 ∧ ∃ dx, o = .ins T.History.C dx []) fun G x v o' => v = .non ∧ ∃ dx fs n e, o' = .ins T.History.C dx fs ∧ fs.lookup ("h_network" : Str) = some (.ref n) ∧ fs.lookup ("h_events" : Str) = some e ∧ NetAt T G n x.1.1 x.1.2 ∧ Rep G (.tup (x.2.map dDeed)) e
theorem re_at {G : Hp} {l : List Da} {e : Addr} (h : Rep G (.lst l) (.ref e)) : ∃ bs, G e = some (.lst bs) ∧ RepL G l bs := by
  obtain ⟨e', bs, h1, h2, h3⟩ := h
  cases h1
  exact ⟨bs, h2, h3⟩
theorem ok_History_init (T : Txt K mg) : FnOk P w K mg base CX0 7 T.History_init.a T.History_init.fd ["self", "network", "events"] (spHisInit T) := by
  refine T.History_init.F.ok sc_History_init (fun vs H Q E h => ?_) (fun cdv A outer s H vs Q E hr h => ?_)
  · obtain ⟨_, _, _, _, _, _, _, _, ⟨⟨_, _, rfl, _⟩, _⟩, _⟩ := h
    rfl
  · obtain ⟨⟨x, ds⟩, G, p, o, hs, hp, hg, hpl, ⟨⟨e, a, rfl, hn, re⟩, evs, dx, rfl⟩, q⟩ := h
    dsimp only at hn re evs q
    obtain ⟨bs, eb, rb⟩ := re_at re
    have hu := hu_of hr
    have S := Sta.startM hs hp hg hpl
    refine ⟨_, (pss_cons (ps_expr (pe_call (ok_check_events T) (hr.mono (by decide)) rfl T.check_events.g T.check_events.F.kp T.check_events.b .nil pass0 (pa_cons (pv 2) (pa_cons (pv 1) pa_nil))))
  (pss_cons (ps_fld (pv 0) (pv 1) rfl)
  (pss_one (ps_fld (pv 0) (pe_callTy (y_tup (K := K) rfl) rfl T.z_tuple (by decide +kernel) (pa_cons (pv 2) pa_nil)) rfl)))), ?_⟩
    fail "go"
    refine c_pur S (x, ds) ⟨⟨e, a, rfl, hn, re⟩, evs⟩ fun G1 H1 v1 s1 S1 o1 => ?_
    fail "go"
    refine x_seq ?_
    refine x_fset ?_
    fail "go"
    refine ⟨p, _, dx, [], rfl, S1.at (i := 0) rfl, T.History.cl, T.nA_History_h_network, by decide, ?_⟩
    have S2 := S1.set (i := 0) (o := .ins T.History.C dx (putF "h_network" (.ref a) [])) rfl ⟨fun _ z => (nomatch z), fun _ z => (nomatch z)⟩
    generalize upd H1 p (HO.ins T.History.C dx (putF "h_network" (.ref a) [])) = H2 at S2 ⊢
    dsimp only
    refine x_fset ?_
    fail "go"
    refine n_fix S2 fun p3 G3 H3 s3 S3 e3 => ?_
    fail "go"
    refine ⟨p, _, dx, _, rfl, S3.at (i := 0) rfl, T.History.cl, T.nA_History_h_events, Nat.le_of_ble_eq_true rfl, ?_⟩
    have S4 := S3.set (i := 0) (o := .ins T.History.C dx (putF "h_events" (.ref p3) (putF "h_network" (.ref a) []))) rfl ⟨fun _ z => (nomatch z), fun _ z => (nomatch z)⟩
    refine q _ _ _ _ S4.go (S4.at (i := 0) rfl) ⟨fun _ z => (nomatch z), fun _ z => (nomatch z)⟩ ⟨rfl, dx, _, a, .ref p3, rfl, rfl, rfl, hn.mono (s1.tr s3), ⟨p3, bs, rfl, e3, rb.mono (s1.tr s3)⟩⟩
end
section
variable {P : Program} {w : World} {K : PySem.W.Frag} {mg : Str → Option Value} {base : Heap} [TL]
def spNetInit (T : Txt K mg) : Sp := Mut (fun G vs p o (x : NetX) => (∃ d s, vs = [.ref p, .ref d, .ref s, .int 0] ∧ G d = some (.dK (lkv x.1)) ∧ G s = some (.lst (x.2.map V.str))) ∧ LeanOk x.1 ∧ (Wds x.2 ∧ x.2.length ≤ 6 ∧ x.2.Nodup) ∧ (x.1.map Prod.fst).Nodup ∧ ∃ dx, o = .ins T.Network.C dx []) fun G x v o' => v = .non ∧ ∃ lean', lean'.Perm x.1 ∧ ∃ dx fs d s, o' = .ins T.Network.C dx fs ∧ fs.lookup ("n_drifts" : Str) = some (.ref d) ∧ fs.lookup ("n_sources" : Str) = some (.ref s) ∧ fs.lookup ("n_wrong" : Str) = some (.int 0) ∧ G d = some (.dK (lkv lean')) ∧ G s = some (.tup (x.2.map V.str))
theorem ok_Network_init (T : Txt K mg) : FnOk P w K mg base CX0 4 T.Network_init.a T.Network_init.fd ["self", "drifts", "sources", "wrong"] (spNetInit T) := by
  refine T.Network_init.F.ok sc_Network_init (fun vs H Q E h => ?_) (fun cdv A outer s H vs Q E hr h => ?_)
  · obtain ⟨_, _, _, _, _, _, _, _, ⟨⟨_, _, rfl, _⟩, _⟩, _⟩ := h
    rfl
  · obtain ⟨x, G, p, o, hs, hp, hg, hpl, ⟨⟨d, s', rfl, ed, es⟩, lo, hso, hnd, dx, rfl⟩, q⟩ := h
    have hu := hu_of hr
    have S := Sta.startM hs hp hg hpl
    refine ⟨_, (pss_cons (ps_if (PW.pt (pw_or (pt_not (pt_val (pe_call (ok_are_drifts T) (hr.mono (by decide)) rfl T.are_drifts.g T.are_drifts.F.kp T.are_drifts.b .nil pass0 (pa_cons (pv 1) pa_nil)))) (pw_or (pt_not (pt_val (pe_call (ok_are_sources T) (hr.mono (by decide)) rfl T.are_sources.g T.are_sources.F.kp T.are_sources.b .nil pass0 (pa_cons (pv 2) pa_nil)))) (pw_or1 (pt_not (pt_val (pe_call (ok_is_between T) (hr.mono (by decide)) rfl T.is_between.g T.is_between.F.kp T.is_between.b .nil pass0 (pa_cons (pv 3) (pa_cons pe_int (pa_cons (pe_gcV rfl T.c_MOST_WRONG) pa_nil))))))))))
  (pss_one ps_never)
  pss_nil)
  (pss_cons (ps_if (PW.pt (pw_and (pt_cmpR op_gt (pv 3) pe_int (nomark _)) (pw_and1 (pt_cmpR op_ge (pv 3) (pe_callB (y_len (K := K) rfl) rfl T.z_len (by decide +kernel) (pa_cons (pv 2) pa_nil)) (nomark _)))))
  (pss_one ps_never)
  pss_nil)
  (pss_cons (ps_fld (pv 0) (pe_dc (own := [("name", 4)]) rfl sc_Network_init.nd (y_iL (K := K) rfl (pe_callB (k_srtD rfl) rfl T.z_sorted (by decide +kernel) (pa_cons (pv 1) pa_nil))) (blkOk_by (own := [("name", 4)]) (N := n_Network_init) (sc := defScope s_Network_init) (by decide +kernel)) (fun _ _ _ _ _ => (pg_name (i := 4) sc_Network_init.nd rfl (Or.inl rfl))) (fun _ _ _ _ _ => pts_nil) (fun _ _ _ _ _ => (pv 4)) (fun _ _ _ _ _ => (pe_dget hu (pv 1) (pv 4) (fun _ _ => rfl)))) rfl)
  (pss_cons (ps_fld (pv 0) (pe_callTy (y_tup (K := K) rfl) rfl T.z_tuple (by decide +kernel) (pa_cons (pv 2) pa_nil)) rfl)
  (pss_one (ps_fld (pv 0) (pv 3) rfl)))))), ?_⟩
    refine x_seq ?_
    fail "go"
    refine c_pur S x.1 ⟨⟨d, rfl, ed⟩, lo⟩ fun G1 H1 v1 s1 S1 o1 => ?_
    obtain rfl : v1 = .bl true := o1
    refine ⟨true, rfl, ?_⟩
    fail "go"
    refine c_pur S1 x.2 ⟨⟨s', rfl, s1.to es⟩, hso⟩ fun G2 H2 v2 s2 S2 o2 => ?_
    obtain rfl : v2 = .bl true := o2
    refine ⟨true, rfl, ?_⟩
    fail "go"
    refine c_pur S2 ((0 : Int), 0, 2) rfl fun G3 H3 v3 s3 S3 o3 => ?_
    obtain rfl : v3 = .bl true := o3
    refine ⟨true, rfl, ?_⟩
    fail "go"
    refine x_seq ?_
    fail "go"
    refine l_ifd (fun z => absurd z (by decide)) (fun _ => ?_)
    fail "go"
    refine x_seq ?_
    refine x_fset ?_
    fail "go"
    have ed3 : G3 d = some (.dK (lkv x.1)) := s3.to (s2.to (s1.to ed))
    refine ls_sortedD (ks := x.1.map Prod.fst) (S3.isin ed3) (by unfold lkv; rw [List.map_map, List.map_map]; rfl) (by rw [List.length_map]; have := lo.len; omega) fun ys hy => ?_
    refine n_fix S3 fun p4 G4 H4 s4 S4 e4 => ?_
    fail "go"
    have hyn : ys.Nodup := hy.nodup_iff.mpr hnd
    have val : ∀ y ∈ ys, ∃ z, (y, z) ∈ x.1 := fun y hm => by
      obtain ⟨⟨a, z⟩, h1, h2⟩ := List.mem_map.mp (hy.mem_iff.mp hm)
      cases h2
      exact ⟨z, h1⟩
    refine dc_l (xs := ys.map V.str) S4 (fun i _ acc => ∃ lean', acc = lkv lean' ∧ lean'.map Prod.fst = ys.take i ∧ ∀ p ∈ lean', p ∈ x.1) ⟨[], rfl, rfl, fun _ z => nomatch z⟩ (fun G5 H5 y s S5 => S5.isin (s.to e4)) (fun l G5 H5 acc s5 S5 hl hv => ?_) (fun i v l G5 H5 acc hi s5 S5 hl hv => ?_)
    · obtain ⟨lean', rfl, m1, m2⟩ := hv
      rw [List.length_map, List.take_of_length_le (Nat.le_refl _)] at m1
      fail "go"
      obtain ⟨G6, s6, S6, e6⟩ := S5.fixM 0 rfl (show ¬ l = p from fun z => S5.ne (i := 0) (j := 1) rfl rfl (by decide) z)
      refine ⟨p, _, dx, [], rfl, S6.at (i := 0) rfl, T.Network.cl, T.nA_Network_n_drifts, Nat.le_of_ble_eq_true rfl, ?_⟩
      have S7 := S6.set (i := 0) (o := .ins T.Network.C dx (putF "n_drifts" (.ref l) [])) rfl ⟨fun _ z => (nomatch z), fun _ z => (nomatch z)⟩
      generalize upd H5 p (HO.ins T.Network.C dx (putF "n_drifts" (.ref l) [])) = H7 at S7 ⊢
      dsimp only
      refine x_seq ?_
      refine x_fset ?_
      fail "go"
      have es6 : G6 s' = some (.lst (x.2.map V.str)) := s6.to (s5.to (s4.to (s3.to (s2.to (s1.to es)))))
      refine n_fix S7 fun p8 G8 H8 s8 S8 e8 => ?_
      fail "go"
      refine ⟨p, _, dx, _, rfl, S8.at (i := 0) rfl, T.Network.cl, T.nA_Network_n_sources, Nat.le_of_ble_eq_true rfl, ?_⟩
      have S9 := S8.set (i := 0) (o := .ins T.Network.C dx (putF "n_sources" (.ref p8) (putF "n_drifts" (.ref l) []))) rfl ⟨fun _ z => (nomatch z), fun _ z => (nomatch z)⟩
      generalize upd H8 p (HO.ins T.Network.C dx (putF "n_sources" (.ref p8) (putF "n_drifts" (.ref l) []))) = H9 at S9 ⊢
      dsimp only
      refine x_fset ?_
      fail "go"
      refine ⟨p, _, dx, _, rfl, S9.at (i := 0) rfl, T.Network.cl, T.nA_Network_n_wrong, Nat.le_of_ble_eq_true rfl, ?_⟩
      have S10 := S9.set (i := 0) (o := .ins T.Network.C dx (putF "n_wrong" (.int 0) (putF "n_sources" (.ref p8) (putF "n_drifts" (.ref l) [])))) rfl ⟨fun _ z => (nomatch z), fun _ z => (nomatch z)⟩
      refine q _ _ _ _ S10.go (S10.at (i := 0) rfl) ⟨fun _ z => (nomatch z), fun _ z => (nomatch z)⟩ ⟨rfl, lean', ?_, dx, _, l, p8, rfl, rfl, rfl, rfl, s8.to e6, e8⟩
      have hp1 : (lean'.map Prod.fst).Perm (x.1.map Prod.fst) := by rw [m1]; exact hy
      have n1 : lean'.Nodup := List.Pairwise.of_map Prod.fst (fun a b h z => h (by rw [z])) (hp1.nodup_iff.mpr hnd)
      have n2 : x.1.Nodup := List.Pairwise.of_map Prod.fst (fun a b h z => h (by rw [z])) hnd
      refine (List.perm_ext_iff_of_nodup n1 n2).mpr fun pp => ⟨m2 pp, fun hm => ?_⟩
      obtain ⟨⟨a1, z1⟩, h1, h2⟩ := List.mem_map.mp (hp1.mem_iff.mpr (List.mem_map.mpr ⟨pp, hm, rfl⟩))
      have h2 : a1 = pp.1 := h2
      have g1 := lkv_val hnd (m2 _ h1)
      have g2 := lkv_val hnd (s := pp.1) (i := pp.2) hm
      rw [h2] at g1
      have g3 := g1.symm.trans g2
      injection g3 with g3
      injection g3 with g3
      have : pp = (a1, z1) := by rw [h2, g3]
      rw [this]
      exact h1
    · obtain ⟨lean', rfl, m1, m2⟩ := hv
      rw [List.getElem?_map] at hi
      obtain ⟨w, hw2, rfl⟩ := Option.map_eq_some_iff.mp hi
      have hlt := (List.getElem?_eq_some_iff.mp hw2).1
      obtain ⟨z, hz⟩ := val w (List.mem_of_getElem? hw2)
      fail "go"
      refine l_dgS (v := .int z) (S5.isin (s5.to (s4.to ed3))) (lkv_val hnd hz) ?_
      refine dc_inS s5 S5 (by omega) (by have := lo.len; have := hy.length_eq; rw [List.length_map] at this; omega) ?_
      have tk : ys.take (i + 1) = ys.take i ++ [w] := by rw [List.take_add_one, hw2]; rfl
      have hnw : w ∉ ys.take i := fun hm => by
        rw [← List.take_append_drop (i + 1) ys, tk] at hyn
        exact (List.nodup_append.mp (List.nodup_append.mp hyn).1).2.2 w hm w (by simp) rfl
      refine ⟨lean' ++ [(w, z)], ?_, by rw [List.map_append, m1, tk]; rfl, fun p hp => ?_⟩
      · rw [putK_new (valV_none fun p hp e => ?_)]
        · unfold lkv; rw [List.map_append]; rfl
        · obtain ⟨⟨n0, z0⟩, h1, rfl⟩ := List.mem_map.mp hp
          cases e
          exact hnw (m1 ▸ List.mem_map.mpr ⟨_, h1, rfl⟩)
      · rcases List.mem_append.mp hp with hp | hp
        · exact m2 p hp
        · rw [List.mem_singleton.mp hp]
          exact hz
end
section
variable {P : Program} {w : World} {K : PySem.W.Frag} {mg : Str → Option Value} {base : Heap} [TL]
theorem Sta.callO {M : Addr → Prop} {D : Option Dr} {G0 H0 G H G' H' : Hp} {L : List (Addr × HO)} {p : Addr} {o : HO} (S : Sta M D G0 H0 G H L) (g : Go M0 G H G' H') (hn : H p = none) (e : H' p = some o) (hg : G' p = none) (hp : Pln o) : Sta M D G0 H0 G' H' ((p, o) :: L) := by
  have S1 := S.call g
  refine ⟨S1.go, fun x hx => ?_, ?_, fun d q => ?_⟩
  · rcases List.mem_cons.mp hx with rfl | hx
    · refine ⟨e, hg, .inr ?_, hp⟩
      cases e0 : H0 p with
      | none => rfl
      | some u => exact absurd hn (S.go.dm p (by rw [e0]; exact fun z => nomatch z))
    · exact S1.own x hx
  · rw [List.map_cons]
    refine List.nodup_cons.mpr ⟨fun hm => ?_, S.nd⟩
    obtain ⟨x, hx, e1⟩ := List.mem_map.mp hm
    have := (S.own x hx).1
    rw [e1, hn] at this
    cases this
  · obtain ⟨a, b, c, f⟩ := S1.dr d q
    obtain ⟨a2, _, _, _⟩ := S.dr d q
    refine ⟨a, b, c, fun x hx => ?_⟩
    rcases List.mem_cons.mp hx with rfl | hx
    · exact fun hd => a2.nn hd hn
    · exact f x hx
/-- a promise of a thing of its own -/
def PurO {α : Type} (args : Hp → List V → α → Prop) (out : Hp → α → HO → Prop) : Sp := fun vs H Q _ => ∃ (a : α) (G : Hp), Sub G H ∧ args G vs a ∧ ∀ G' H' p o, Go M0 G H G' H' → H p = none → H' p = some o → G' p = none → Pln o → out G' a o → Q (.ref p) H'
theorem c_purO {α : Type} {args : Hp → List V → α → Prop} {out : Hp → α → HO → Prop} {vs : List V} {Q : VK} {E : XK} {M : Addr → Prop} {D : Option Dr} {G0 H0 G H : Hp} {L : List (Addr × HO)} (S : Sta M D G0 H0 G H L) (a : α) (h : args G vs a) (q : ∀ G' H' p o, Sub G G' → Sta M D G0 H0 G' H' ((p, o) :: L) → out G' a o → Q (.ref p) H') : PurO args out vs H Q E :=
  ⟨a, G, S.inn, h, fun G' H' p o g hn e hg hp w => q G' H' p o g.sub (S.callO g hn e hg hp) w⟩
/-- a dict comprehension whose cells may grow in number -/
theorem dc_g {J : It} {g : TG} {tt : TT} {tk tv : TE} {vs : List Nat} {σ : L2.St} {Q : VK} {M : Addr → Prop} {D : Option Dr} {G0 H0 G H : Hp} {L : List (Addr × HO)} (S : Sta M D G0 H0 G H L) (n : Nat) (inv : Addr → Nat → Hp → Prop) (h0 : ∀ l H1, Sta M D G0 H0 G H1 ((l, .dK []) :: L) → inv l 0 H1) (stop : ∀ l H1, inv l n H1 → J.stop n H1 ∧ Q (.ref l) H1)
    (go : ∀ l i H1, i < n → inv l i H1 → J.go i H1 ∧ ∀ x H2, J.yld i H1 x H2 → g x (wipe σ vs) H2 fun σ2 H2 => wipe σ2 vs = wipe σ vs ∧ tt σ2 H2 fun b H3 =>
      if b = true then tk σ2 H3 fun y H4 => tv σ2 H4 fun z H5 => ∃ kvs k, y = kV k ∧ H5 l = some (.dK kvs) ∧ kvs.length < sizeLine ∧ inv l (i + 1) (upd H5 l (.dK (putK kvs k z))) else inv l (i + 1) H3) : DcB J g tt tk tv vs σ Q H := by
  intro l hl
  refine ⟨fun i m H1 => m = n - i ∧ i ≤ n ∧ inv l i H1, ⟨n, rfl, Nat.zero_le _, h0 l _ (S.mine hl ⟨fun _ z => (nomatch z), fun _ z => (nomatch z)⟩)⟩, ?_⟩
  rintro i m H1 ⟨rfl, hi, hv⟩
  by_cases q : i = n
  · subst q
    exact .inl (stop l H1 hv)
  · obtain ⟨h1, h2⟩ := go l i H1 (by omega) hv
    exact .inr ⟨h1, inv l (i + 1), fun H' h => ⟨n - (i + 1), by omega, rfl, by omega, h⟩, h2⟩
end
section
variable {P : Program} {w : World} {K : PySem.W.Frag} {mg : Str → Option Value} {base : Heap} [TL]
def lineOf : Nat → List (Sh.Deed Str) → Str → List (Int × Key)
  | _, [], _ => []
  | i, d :: ds, s => if d.st = s then (d.tick, .inl (i : Int)) :: lineOf (i + 1) ds s else lineOf (i + 1) ds s
theorem lineOf_snoc {d : Sh.Deed Str} {s : Str} : ∀ {i : Nat} {ds : List (Sh.Deed Str)}, lineOf i (ds ++ [d]) s = lineOf i ds s ++ (if d.st = s then [(d.tick, .inl ((i + ds.length : Nat) : Int))] else [])
  | i, [] => by
    show (if d.st = s then [(d.tick, (Sum.inl (i : Int) : Key))] else []) = _
    rw [List.length_nil, Nat.add_zero]
    rfl
  | i, e :: ds => by
    have ih := lineOf_snoc (d := d) (s := s) (i := i + 1) (ds := ds)
    have e1 : i + 1 + ds.length = i + (e :: ds).length := by rw [List.length_cons]; omega
    rw [e1] at ih
    show (if e.st = s then _ :: lineOf (i + 1) (ds ++ [d]) s else lineOf (i + 1) (ds ++ [d]) s) = (if e.st = s then _ :: lineOf (i + 1) ds s else lineOf (i + 1) ds s) ++ _
    rw [ih]
    by_cases g : e.st = s
    · rw [if_pos g, if_pos g]
      rfl
    · rw [if_neg g, if_neg g]
theorem lineOf_len {s : Str} : ∀ {i : Nat} {ds : List (Sh.Deed Str)}, (lineOf i ds s).length ≤ ds.length
  | _, [] => Nat.le_refl _
  | i, e :: ds => by
    have ih := lineOf_len (s := s) (i := i + 1) (ds := ds)
    show (if e.st = s then _ :: lineOf (i + 1) ds s else lineOf (i + 1) ds s).length ≤ _
    by_cases g : e.st = s
    · rw [if_pos g]
      exact Nat.succ_le_succ ih
    · rw [if_neg g]
      exact Nat.le_succ_of_le ih
/-- a name, its list's place, what stands in it -/
abbrev Cel := Str × Addr × List V
def celL (cs : List Cel) : List (Addr × HO) := cs.map fun c => (c.2.1, .lst c.2.2)
def celK (cs : List Cel) : List (Key × V) := cs.map fun c => (.inr c.1, .ref c.2.1)
theorem fix_cells {D : Option Dr} {G0 H0 H : Hp} {L : List (Addr × HO)} : ∀ {cs : List Cel} {G : Hp}, Sta M0 D G0 H0 G H (celL cs ++ L) → ∃ G', Sub G G' ∧ Sta M0 D G0 H0 G' H L ∧ ∀ c ∈ cs, G' c.2.1 = some (.lst c.2.2)
  | [], G, S => ⟨G, Sub.rfl' _, S, fun _ z => nomatch z⟩
  | c :: cs, G, S => by
    obtain ⟨G1, s1, S1, e1⟩ := S.fix0 0 rfl
    obtain ⟨G2, s2, S2, h2⟩ := fix_cells (cs := cs) (L := L) S1
    refine ⟨G2, s1.tr s2, S2, fun x hx => ?_⟩
    rcases List.mem_cons.mp hx with rfl | hx
    · exact s2.to e1
    · exact h2 x hx
theorem repK_cells {G : Hp} {f : Str → Da} : ∀ {cs : List Cel}, (∀ c ∈ cs, Rep G (f c.1) (.ref c.2.1)) → RepK G (cs.map fun c => (.inr c.1, f c.1)) (celK cs)
  | [], _ => rfl
  | c :: cs, h => ⟨_, _, rfl, h c List.mem_cons_self, repK_cells fun x hx => h x (List.mem_cons_of_mem _ hx)⟩
theorem nodup_get {α : Type} {l : List α} (h : l.Nodup) {i j : Nat} {x : α} (a : l[i]? = some x) (b : l[j]? = some x) : i = j := by
  obtain ⟨l1, a2⟩ := List.getElem?_eq_some_iff.mp a
  obtain ⟨l2, b2⟩ := List.getElem?_eq_some_iff.mp b
  have w := List.pairwise_iff_getElem.mp h
  rcases Nat.lt_trichotomy i j with k | k | k
  · exact absurd (a2.trans b2.symm) (w i j l1 l2 k)
  · exact k
  · exact absurd (b2.trans a2.symm) (w j i l2 l1 k)
theorem Sta.perm {M : Addr → Prop} {D : Option Dr} {G0 H0 G H : Hp} {L L' : List (Addr × HO)} (S : Sta M D G0 H0 G H L) (h : L'.Perm L) : Sta M D G0 H0 G H L' :=
  ⟨S.go, fun x hx => S.own x (h.mem_iff.mp hx), (h.map Prod.fst).nodup_iff.mpr S.nd, fun d e => let ⟨a, b, c, f⟩ := S.dr d e; ⟨a, b, c, fun x hx => f x (h.mem_iff.mp hx)⟩⟩
theorem celK_get {cs : List Cel} {k : Nat} {c : Cel} (hn : (cs.map Prod.fst).Nodup) (h : cs[k]? = some c) : valV (celK cs) (.inr c.1) = some (.ref c.2.1) := by
  refine valV_mem ?_ ?_
  · have : (celK cs).map Prod.fst = (cs.map Prod.fst).map Sum.inr := by unfold celK; rw [List.map_map, List.map_map]; rfl
    rw [this]
    exact nodup_inr hn
  · exact List.mem_map.mpr ⟨c, List.mem_of_getElem? h, rfl⟩
theorem celK_set {cs : List Cel} {k : Nat} {c : Cel} {xs : List V} (h : cs[k]? = some c) : celK (cs.set k (c.1, c.2.1, xs)) = celK cs := by
  unfold celK
  rw [List.map_set]
  refine List.ext_getElem? fun j => ?_
  rw [List.getElem?_set]
  by_cases e : k = j
  · subst e
    have hl := (List.getElem?_eq_some_iff.mp h).1
    rw [if_pos rfl, List.length_map, if_pos hl, List.getElem?_map, h]
    rfl
  · rw [if_neg e]
theorem celL_set {cs : List Cel} {k : Nat} {c : Cel} {xs : List V} : celL (cs.set k (c.1, c.2.1, xs)) = (celL cs).set k (c.2.1, .lst xs) := by
  unfold celL
  rw [List.map_set]
theorem cel_name {cs : List Cel} {k : Nat} {c : Cel} {xs : List V} (h : cs[k]? = some c) : (cs.set k (c.1, c.2.1, xs)).map Prod.fst = cs.map Prod.fst := by
  rw [List.map_set]
  refine List.ext_getElem? fun j => ?_
  rw [List.getElem?_set]
  by_cases e : k = j
  · subst e
    have hl := (List.getElem?_eq_some_iff.mp h).1
    rw [if_pos rfl, List.length_map, if_pos hl, List.getElem?_map, h]
    rfl
  · rw [if_neg e]
def dLines (lean : List (Str × Int)) (ds : List (Sh.Deed Str)) : List (Key × Da) := lean.map fun p => (.inr p.1, dLine (lineOf 0 ds p.1))
structure HisOk (x : HisX) : Prop where
  lo : LeanOk x.1.1
  nd : (x.1.1.map Prod.fst).Nodup
  evs : EvsIn x.1.1 x.1.2 x.2
  vl : x.1.2.length ≤ 6
def spLinesOf (T : Txt K mg) : Sp := PurO (fun G vs (x : HisX) => (∃ a, vs = [.ref a] ∧ HisAt T G a x.1.1 x.1.2 x.2) ∧ HisOk x) fun G x o => ∃ kvs, o = .dK kvs ∧ RepK G (dLines x.1.1 x.2) kvs
theorem ok_lines_of (T : Txt K mg) : FnOk P w K mg base CX0 4 T.lines_of.a T.lines_of.fd ["history"] (spLinesOf T) := by
  refine T.lines_of.F.ok sc_lines_of (fun vs H Q E h => ?_) (fun cdv A outer s H vs Q E hr h => ?_)
  · obtain ⟨_, _, _, ⟨⟨_, rfl, _⟩, _⟩, _⟩ := h
    rfl
  · obtain ⟨⟨⟨lean, vs'⟩, ds⟩, G, hs, ⟨⟨a, rfl, hi⟩, ok⟩, q⟩ := h
    dsimp only at hi q
    have hu := hu_of hr
    have S := Sta.start hs
    have hi' := hi
    obtain ⟨dx, fs, n, e, e1, l1, l2, hn, re⟩ := hi
    have hn' := hn
    obtain ⟨dx2, fs2, dd, ss, f1, _, _, _, _, _⟩ := hn
    have nd : (lean.map Prod.fst).Nodup := ok.nd
    have l4 : lean.length ≤ 4 := ok.lo.len
    have evs : EvsIn lean vs' ds := ok.evs
    have evl := evs.len
    refine ⟨_, (pss_cons (ps_setDc (i := 2) (own := [("station", 1)]) rfl sc_lines_of.nd rfl rfl (sw_trueD rfl rfl rfl (by decide +kernel)) (y_iT (K := K) rfl (pe_prop (pe_prop (pv 0) T.History.cl T.p_History_network.h (ok_History_network T) (hr.mono (by decide)) T.History_network.b .nil pass0n rfl) T.Network.cl T.p_Network_stations.h (ok_Network_stations T) (hr.mono (by decide)) T.Network_stations.b .nil pass0n rfl)) (blkOk_by (own := [("station", 1)]) (N := n_lines_of) (sc := defScope s_lines_of) (by decide +kernel)) (fun _ _ _ _ _ => (pg_name (i := 1) sc_lines_of.nd rfl (Or.inl rfl))) (fun _ _ _ _ _ => (pv 1)) (fun _ _ _ _ _ => (pe_lst pa_nil)))
  (pss_cons (ps_for PassesOwn.never rfl (y_iET (K := K) rfl rfl T.z_enumerate (pa_cons (pe_prop (pv 0) T.History.cl T.p_History_events.h (ok_History_events T) (hr.mono (by decide)) T.History_events.b .nil pass0n rfl) pa_nil)) (y_gTup (K := K) (n := 2) rfl rfl (pgs_cons (pg_name (i := 3) sc_lines_of.nd rfl (Or.inl rfl)) (pgs_cons (y_gTup (K := K) (n := 3) rfl rfl (pgs_cons (pg_name (i := 1) sc_lines_of.nd rfl (Or.inl rfl)) (pgs_cons (pg_name (i := 4) sc_lines_of.nd rfl (Or.inl rfl)) (pgs_cons (pg_name (i := 5) sc_lines_of.nd rfl (Or.inl rfl)) pgs_nil)))) pgs_nil)))
  (pss_one (ps_expr (y_app (K := K) rfl (pe_dget hu (pv 2) (pv 1) (fun _ _ => rfl)) (pa_cons (pe_tup (pa_cons (pv 4) (pa_cons (pv 3) pa_nil))) pa_nil)))))
  (pss_one (ps_ret (pv 2))))), ?_⟩
    fail "go"
    refine ⟨a, dx, fs, rfl, S.isin e1, ?_⟩
    refine c_pur S ((lean, vs'), ds) ⟨a, rfl, hi'⟩ fun G1 H1 v1 s1 S1 o1 => ?_
    obtain ⟨n1, rfl, hn1⟩ := o1
    have hn1' := hn1
    obtain ⟨dx3, fs3, d3, s3, f3, _⟩ := hn1
    refine ⟨n1, dx3, fs3, rfl, S1.isin f3, ?_⟩
    refine c_pur S1 (lean, vs') ⟨n1, rfl, hn1'⟩ fun G2 H2 v2 s2 S2 o2 => ?_
    obtain ⟨t2, rfl, e2⟩ := o2
    fail "go"
    refine dc_g S2 lean.length (fun l i H1 => ∃ G3 cs, Sub G2 G3 ∧ cs.map Prod.fst = (lean.map Prod.fst).take i ∧ (∀ c ∈ cs, c.2.2 = []) ∧ Sta M0 none G H G3 H1 ((l, .dK (celK cs)) :: celL cs)) ?_ ?_ ?_
    · intro l H3 S3
      exact ⟨G2, [], Sub.rfl' _, rfl, fun _ z => (nomatch z), S3⟩
    · rintro l H3 ⟨G3, cs, s3, m1, m2, S3⟩
      rw [List.take_of_length_le (by rw [List.length_map]; exact Nat.le_refl _)] at m1
      have e2' : H3 t2 = some (.tup (lean.map fun p => V.str p.1)) := S3.isin (s3.to e2)
      refine ⟨⟨_, SqT.of e2', by rw [List.length_map]; exact Nat.le_refl _⟩, ?_⟩
      fail "go"
      have s13 : Sub G1 G3 := s2.tr s3
      refine x_iEnT ?_
      fail "go"
      refine ⟨a, dx, fs, rfl, S3.isin (s3.to (s2.to (s1.to e1))), ?_⟩
      refine c_pur S3 ((lean, vs'), ds) ⟨a, rfl, hi'.mono (s1.tr (s2.tr s3))⟩ fun G4 H4 v4 s4 S4 o4 => ?_
      obtain ⟨b, bs, rfl, eb, rb⟩ := o4
      have lb : bs.length = ds.length := by have := rb.len; rw [List.length_map] at this; exact this
      fail "go"
      refine ⟨b, bs, rfl, SqT.of (S4.isin eb), ?_⟩
      refine for_eT (xs := bs) (fun i σ H1 => ∃ (G5 : Hp) (cs : List Cel) (x1 x3 x4 x5 : Option V), Sub G4 G5 ∧ σ = [some (.ref a), x1, some (.ref l), x3, x4, x5] ∧ cs.map Prod.fst = lean.map Prod.fst ∧ (∀ (k : Nat) (c : Cel), cs[k]? = some c → RepL G5 ((lineOf 0 (ds.take i) c.1).map dAt) c.2.2) ∧ Sta M0 none G H G5 H1 ((l, .dK (celK cs)) :: celL cs)) ⟨G4, cs, none, none, none, none, Sub.rfl' _, rfl, m1, fun k c hk => by rw [m2 c (List.mem_of_getElem? hk)]; rfl, S4⟩ (fun i σ H1 h => ?_) (fun σ H1 h => ?_) (fun i v T1 σ H1 H2 hv h hT e9 => ?_)
      · obtain ⟨G5, cs, x1, x3, x4, x5, s5, rfl, n1, n2, S5⟩ := h
        exact S5.isin (s5.to eb)
      · obtain ⟨G5, cs, x1, x3, x4, x5, s5, rfl, n1, n2, S5⟩ := h
        fail "go"
        have S6 : Sta M0 none G H G5 H1 (celL cs ++ [(l, .dK (celK cs))]) := S5.perm (List.perm_append_comm (l₁ := celL cs) (l₂ := [(l, HO.dK (celK cs))]))
        obtain ⟨G6, s6, S7, h7⟩ := fix_cells S6
        have hl := S7.own (l, .dK (celK cs)) (by simp)
        refine q G6 H1 l _ S7.go (hl.2.2.1.resolve_left id) hl.1 hl.2.1 hl.2.2.2 ⟨_, rfl, ?_⟩
        have : dLines lean ds = cs.map fun c => (.inr c.1, dLine (lineOf 0 ds c.1)) := by
          unfold dLines
          have z : (lean.map Prod.fst).map (fun s => ((Sum.inr s : Key), dLine (lineOf 0 ds s))) = (cs.map Prod.fst).map (fun s => ((Sum.inr s : Key), dLine (lineOf 0 ds s))) := by rw [n1]
          rw [List.map_map, List.map_map] at z
          exact z
        rw [this]
        refine repK_cells (f := fun s => dLine (lineOf 0 ds s)) fun c hc => ?_
        obtain ⟨k, hk⟩ := List.getElem?_of_mem hc
        have r := n2 k c hk
        rw [List.take_of_length_le (by rw [lb]; exact Nat.le_refl _)] at r
        exact ⟨_, _, rfl, h7 c hc, r.mono s6⟩
      · obtain ⟨G5, cs, x1, x3, x4, x5, s5, rfl, n1, n2, S5⟩ := h
        obtain ⟨G6, s6, S6, e6⟩ := S5.newE hT e9
        have hlt := (List.getElem?_eq_some_iff.mp hv).1
        obtain ⟨d1, k1, r1⟩ := rb.got hv
        rw [List.getElem?_map] at k1
        obtain ⟨d, md, rfl⟩ := Option.map_eq_some_iff.mp k1
        obtain ⟨pd, nv, rfl, ed, rn⟩ := rep_deed.mp r1
        have ed6 : G6 pd = some (.tup [.str d.st, .int d.tick, nv]) := s6.to (s5.to ed)
        have hst : d.st ∈ cs.map Prod.fst := by rw [n1]; exact (evs.ev i d md).st
        obtain ⟨c, hc, ec⟩ := List.mem_map.mp hst
        obtain ⟨k, hk⟩ := List.getElem?_of_mem hc
        have ndc : (cs.map Prod.fst).Nodup := by rw [n1]; exact nd
        refine x_gTup (S6.isin e6) rfl ?_
        fail "go"
        refine l_dgS (S6.at (i := 0) rfl) (ec ▸ celK_get ndc hk) ?_
        have hL : ((l, HO.dK (celK cs)) :: celL cs)[k + 1]? = some (c.2.1, .lst c.2.2) := by
          show (celL cs)[k]? = _
          unfold celL
          rw [List.getElem?_map, hk]
          rfl
        refine l_tyL (S6.at hL) ?_
        fail "go"
        refine n_fix S6 fun p7 G7 H7 s7 S7 e7 => ?_
        fail "go"
        have lnl : c.2.2.length ≤ 1000 := by
          have := (n2 k c hk).len
          rw [List.length_map] at this
          have h2 := lineOf_len (s := c.1) (i := 0) (ds := ds.take i)
          rw [List.length_take] at h2
          omega
        refine ls_app S7 (k + 1) hL lnl fun H8 S8 => ?_
        fail "go"
        refine ⟨G7, cs.set k (c.1, c.2.1, c.2.2 ++ [.ref p7]), _, _, _, _, s5.tr (s6.tr s7), rfl, by rw [cel_name hk]; exact n1, fun k' c' hk' => ?_, ?_⟩
        · have tk : ds.take (i + 1) = ds.take i ++ [d] := by rw [List.take_add_one, md]; rfl
          have ti : (ds.take i).length = i := by rw [List.length_take]; have := (List.getElem?_eq_some_iff.mp md).1; omega
          rw [tk, lineOf_snoc, ti, Nat.zero_add]
          rw [List.getElem?_set] at hk'
          by_cases ek : k = k'
          · subst ek
            rw [if_pos rfl, if_pos (List.getElem?_eq_some_iff.mp hk).1] at hk'
            cases hk'
            rw [if_pos ec.symm, List.map_append]
            exact ((n2 k c hk).mono (s6.tr s7)).snoc (rep_at.mpr ⟨p7, rfl, e7⟩)
          · rw [if_neg ek] at hk'
            have hne : ¬ d.st = c'.1 := fun z => ek (by
              have a1 : (cs.map Prod.fst)[k]? = some d.st := by rw [List.getElem?_map, hk, ← ec]; rfl
              have a2 : (cs.map Prod.fst)[k']? = some d.st := by rw [List.getElem?_map, hk', z]; rfl
              exact nodup_get ndc a1 a2)
            rw [if_neg hne, List.append_nil]
            exact (n2 k' c' hk').mono (s6.tr s7)
        · rw [celK_set hk, celL_set]
          exact S8
    · rintro l i H3 hi ⟨G3, cs, s3, m1, m2, S3⟩
      have e2' : H3 t2 = some (.tup (lean.map fun p => V.str p.1)) := S3.isin (s3.to e2)
      refine ⟨⟨_, lean[i].1 |> V.str, SqT.of e2', by rw [List.getElem?_map, List.getElem?_eq_getElem hi]; rfl⟩, fun x H4 y => ?_⟩
      obtain ⟨rfl, y⟩ := y
      have y := y _ (SqT.of e2')
      rw [List.getElem?_map, List.getElem?_eq_getElem hi] at y
      cases y
      fail "go"
      refine n_own S3 fun p2 H5 S5 => ?_
      have S6 : Sta M0 none G H G3 H5 ((l, .dK (celK cs)) :: celL (cs ++ [(lean[i].1, p2, [])])) := by
        refine S5.perm ?_
        have : celL (cs ++ [(lean[i].1, p2, [])]) = celL cs ++ [(p2, .lst [])] := by unfold celL; rw [List.map_append]; rfl
        rw [this]
        exact (List.perm_append_comm (l₁ := (l, HO.dK (celK cs)) :: celL cs) (l₂ := [(p2, HO.lst [])]))
      have lcs : cs.length = i := by have := congrArg List.length m1; rw [List.length_map, List.length_take, List.length_map] at this; omega
      refine ⟨_, .inr lean[i].1, rfl, S6.at (i := 0) rfl, ?_, G3, cs ++ [(lean[i].1, p2, [])], s3, ?_, fun c hc => ?_, ?_⟩
      · unfold celK
        rw [List.length_map, lcs]
        exact Nat.lt_of_lt_of_le hi (Nat.le_trans l4 (by decide))
      · rw [List.map_append, m1, List.take_add_one, List.getElem?_map, List.getElem?_eq_getElem hi]
        rfl
      · rcases List.mem_append.mp hc with hc | hc
        · exact m2 c hc
        · rw [List.mem_singleton.mp hc]
      · have ek : putK (celK cs) (.inr lean[i].1) (.ref p2) = celK (cs ++ [(lean[i].1, p2, [])]) := by
          rw [putK_new (valV_none fun pp hp e => ?_)]
          · unfold celK; rw [List.map_append]; rfl
          · obtain ⟨c, hc, rfl⟩ := List.mem_map.mp hp
            have e : c.1 = lean[i].1 := Sum.inr.inj e
            have h1 : c.1 ∈ (lean.map Prod.fst).take i := by rw [← m1]; exact List.mem_map.mpr ⟨c, hc, rfl⟩
            rw [e] at h1
            have hn2 := nd
            rw [← List.take_append_drop i (lean.map Prod.fst)] at hn2
            refine (List.nodup_append.mp hn2).2.2 _ h1 _ ?_ rfl
            rw [List.drop_eq_getElem_cons (by rw [List.length_map]; exact hi)]
            simp
        rw [ek]
        exact S6.set (i := 0) rfl ⟨fun _ z => (nomatch z), fun _ z => (nomatch z)⟩
end
section
variable {P : Program} {w : World} {K : PySem.W.Frag} {mg : Str → Option Value} {base : Heap} [TL]
def LkN (d : Addr) (od : Obj) (u : HO) (N : L2.St → Hp → Prop) : L2.St → Hp → Prop := fun σ' H' => H' d = some (.frz od u) ∧ N σ' (upd H' d u)
def LkR (d : Addr) (od : Obj) (u : HO) (N : V → Hp → Prop) : V → Hp → Prop := fun σ' H' => H' d = some (.frz od u) ∧ N σ' (upd H' d u)
section
variable {M : Addr → Prop} {D : Option Dr} {G0 H0 G H : Hp} {L : List (Addr × HO)} {d : Addr} {od : Obj} {u : HO} {σ : L2.St} {t : TS} {N : L2.St → Hp → Prop} {R : V → Hp → Prop} {v : V}
theorem xs_lockS {E : Ends} (S : Sta M D G0 H0 G H L) (i : Nat) (hi : L[i]? = some (d, u)) (hm : L2.Mut (some u)) (h : ∀ od H', Sta M D G0 H0 G H' (L.set i (d, .frz od u)) → t ⟨LkN d od u E.nx, LkR d od u E.rt, LkN d od u E.bk, LkN d od u E.ct⟩ σ H') : tLock t E σ H :=
  ⟨d, u, S.at hi, hm, fun od => h od _ (S.set hi (frz_pln od u))⟩
theorem lk_end (S : Sta M D G0 H0 G H L) (i : Nat) (hi : L[i]? = some (d, .frz od u)) (hp : Pln u) (q : ∀ H', Sta M D G0 H0 G H' (L.set i (d, u)) → N σ H') : LkN d od u N σ H := ⟨S.at hi, q _ (S.set hi hp)⟩
theorem lk_ret (S : Sta M D G0 H0 G H L) (i : Nat) (hi : L[i]? = some (d, .frz od u)) (hp : Pln u) (q : ∀ H', Sta M D G0 H0 G H' (L.set i (d, u)) → R v H') : LkR d od u R v H := ⟨S.at hi, q _ (S.set hi hp)⟩
theorem x_sqL {U : TS} {E : Ends} (h : tLock t { E with nx := U E } σ H) : tSeq (tLock t) U E σ H := h
end
theorem pln_lst {xs : List V} : Pln (.lst xs) := ⟨fun _ z => (nomatch z), fun _ z => (nomatch z)⟩
theorem pln_dK {xs : List (Key × V)} : Pln (.dK xs) := ⟨fun _ z => (nomatch z), fun _ z => (nomatch z)⟩
theorem pln_dT {xs : List (List Key × V)} : Pln (.dT xs) := ⟨fun _ z => (nomatch z), fun _ z => (nomatch z)⟩
abbrev Lns := List (Str × List (Int × Key))
def lk (lean : List (Str × Int)) (s : Str) : Int := ((lean.find? fun p => decide (p.1 = s)).map (·.2)).getD 0
def lget (l : Lns) (s : Str) : List (Int × Key) := ((l.find? fun p => decide (p.1 = s)).map (·.2)).getD []
def lset (l : Lns) (s : Str) (x : List (Int × Key)) : Lns := l.map fun p => if p.1 = s then (p.1, x) else p
def lns0 (lean : List (Str × Int)) (ds : List (Sh.Deed Str)) : Lns := lean.map fun p => (p.1, lineOf 0 ds p.1)
abbrev Mom := Str × Str × Int
def momStep (tl : Tb × Lns) (m : Mom) : Tb × Lns := ((pmom tl.1 (lget tl.2 m.2.1) (.inr m.1) m.2.2).1, lset tl.2 m.2.1 (pmom tl.1 (lget tl.2 m.2.1) (.inr m.1) m.2.2).2)
def pmoms (lean : List (Str × Int)) (ds : List (Sh.Deed Str)) (ms : List Mom) : Tb × Lns := ms.foldl momStep ([], lns0 lean ds)
def driftAll (lean : List (Str × Int)) (t : Tb) (l : Lns) : Tb := l.foldl (fun t p => pdrift (lk lean p.1) t p.2) t
def factsFrom : Nat → List (Sh.Deed Str) → Tb → Tb
  | _, [], t => t
  | i, d :: ds, t => factsFrom (i + 1) ds (pfacts (i : Int) t d.notes)
def ptable (lean : List (Str × Int)) (ds : List (Sh.Deed Str)) (ms : List Mom) : Tb := factsFrom 0 ds (driftAll lean (pmoms lean ds ms).1 (pmoms lean ds ms).2)
theorem factsFrom_snoc {d : Sh.Deed Str} : ∀ {i : Nat} {ds : List (Sh.Deed Str)} {t : Tb}, factsFrom i (ds ++ [d]) t = pfacts ((i + ds.length : Nat) : Int) (factsFrom i ds t) d.notes
  | i, [], t => rfl
  | i, e :: ds, t => by
    have e1 : i + 1 + ds.length = i + (e :: ds).length := by rw [List.length_cons]; omega
    have := factsFrom_snoc (d := d) (i := i + 1) (ds := ds) (t := pfacts (i : Int) t e.notes)
    rw [e1] at this
    exact this
theorem lset_names (l : Lns) (s : Str) (x : List (Int × Key)) : (lset l s x).map Prod.fst = l.map Prod.fst := by
  unfold lset
  rw [List.map_map]
  refine List.map_congr_left fun p _ => ?_
  show (if p.1 = s then (p.1, x) else p).1 = p.1
  split <;> rfl
theorem pmoms_names {ms : List Mom} : ∀ {tl : Tb × Lns}, ((ms.foldl momStep tl).2).map Prod.fst = tl.2.map Prod.fst := by
  induction ms with
  | nil => intro tl; rfl
  | cons m ms ih => intro tl; rw [List.foldl_cons, ih]; exact lset_names _ _ _
def LLe (n : Nat) (l : Lns) : Prop := ∀ p ∈ l, p.2.length ≤ n
theorem lget_le {n : Nat} {l : Lns} (h : LLe n l) (s : Str) : (lget l s).length ≤ n := by
  unfold lget
  cases e : l.find? fun p => decide (p.1 = s) with
  | none => exact Nat.zero_le _
  | some p => exact h p (List.mem_of_find?_eq_some e)
theorem pmom_le (t : Tb) (l : List (Int × Key)) (k : Key) (r : Int) : (pmom t l k r).1.length ≤ t.length + 2 ∧ (pmom t l k r).2.length ≤ l.length + 1 := by
  unfold pmom
  split
  · exact ⟨Nat.le_trans tput_len (Nat.succ_le_succ tput_len), Nat.le_succ _⟩
  · refine ⟨Nat.le_add_right _ _, ?_⟩
    rw [List.length_append, List.length_append, List.length_take, List.length_drop]
    show min _ _ + 1 + _ ≤ _
    omega
theorem lset_le {n : Nat} {l : Lns} {s : Str} {x : List (Int × Key)} (h : LLe n l) (hx : x.length ≤ n) : LLe n (lset l s x) := fun p hp => by
  obtain ⟨q, hq, rfl⟩ := List.mem_map.mp hp
  split
  · exact hx
  · exact h q hq
theorem LLe.mono {n m : Nat} {l : Lns} (h : LLe n l) (hn : n ≤ m) : LLe m l := fun p hp => Nat.le_trans (h p hp) hn
theorem momStep_le {n : Nat} {tl : Tb × Lns} {m : Mom} (h : LLe n tl.2) : (momStep tl m).1.length ≤ tl.1.length + 2 ∧ LLe (n + 1) (momStep tl m).2 := by
  obtain ⟨a, b⟩ := pmom_le tl.1 (lget tl.2 m.2.1) (.inr m.1) m.2.2
  exact ⟨a, lset_le (h.mono (Nat.le_succ _)) (Nat.le_trans b (Nat.succ_le_succ (lget_le h _)))⟩
theorem pmoms_le {ms : List Mom} : ∀ {tl : Tb × Lns} {n : Nat}, LLe n tl.2 → (ms.foldl momStep tl).1.length ≤ tl.1.length + 2 * ms.length ∧ LLe (n + ms.length) (ms.foldl momStep tl).2 := by
  induction ms with
  | nil => intro tl n h; exact ⟨Nat.le_refl _, h⟩
  | cons m ms ih =>
    intro tl n h
    obtain ⟨a, b⟩ := momStep_le (m := m) h
    obtain ⟨c, d⟩ := ih b
    rw [List.foldl_cons, List.length_cons]
    exact ⟨by omega, d.mono (by omega)⟩
theorem lns0_le (lean : List (Str × Int)) (ds : List (Sh.Deed Str)) : LLe ds.length (lns0 lean ds) := fun p hp => by
  obtain ⟨q, _, rfl⟩ := List.mem_map.mp hp
  exact lineOf_len
theorem driftAll_le {n : Nat} {lean : List (Str × Int)} : ∀ {l : Lns} {t : Tb}, LLe n l → (driftAll lean t l).length ≤ t.length + 2 * n * l.length
  | [], t, _ => Nat.le_refl _
  | p :: l, t, h => by
    have := driftAll_le (n := n) (lean := lean) (l := l) (t := pdrift (lk lean p.1) t p.2) fun q hq => h q (List.mem_cons_of_mem _ hq)
    have h1 : (pdrift (lk lean p.1) t p.2).length ≤ t.length + 2 * p.2.length := by
      unfold pdrift
      refine Nat.le_trans fold_len ?_
      rw [List.length_zip, List.length_drop]
      omega
    have h2 := h p List.mem_cons_self
    show (driftAll lean (pdrift (lk lean p.1) t p.2) l).length ≤ _
    rw [List.length_cons, Nat.mul_succ]
    omega
theorem factsFrom_le : ∀ {ds : List (Sh.Deed Str)} {i : Nat} {t : Tb}, (∀ d ∈ ds, d.notes.length ≤ 3) → (factsFrom i ds t).length ≤ t.length + 6 * ds.length
  | [], _, _, _ => Nat.le_refl _
  | d :: ds, i, t, h => by
    have := factsFrom_le (ds := ds) (i := i + 1) (t := pfacts (i : Int) t d.notes) fun e he => h e (List.mem_cons_of_mem _ he)
    have h1 := pfacts_len (i := (i : Int)) (ns := d.notes) (t := t)
    have h2 := h d List.mem_cons_self
    show (factsFrom (i + 1) ds (pfacts (i : Int) t d.notes)).length ≤ _
    rw [List.length_cons]
    omega
def dLns (l : Lns) : List (Key × Da) := l.map fun p => (.inr p.1, dLine p.2)
theorem lns_get {G : Hp} {s : Str} : ∀ {l : Lns} {kvs : List (Key × V)}, RepK G (dLns l) kvs → s ∈ l.map Prod.fst → ∃ v, valV kvs (.inr s) = some v ∧ Rep G (dLine (lget l s)) v
  | [], _, _, h => (nomatch h)
  | p :: l, kvs, r, h => by
    obtain ⟨v, kvs', rfl, r1, r2⟩ := r
    by_cases e : p.1 = s
    · subst e
      refine ⟨v, valV_pos rfl, ?_⟩
      unfold lget
      rw [List.find?_cons_of_pos (by simp)]
      exact r1
    · have h : s ∈ l.map Prod.fst := by
        rcases List.mem_cons.mp h with h | h
        · exact absurd h.symm e
        · exact h
      obtain ⟨u, h1, h2⟩ := lns_get r2 h
      refine ⟨u, (valV_neg fun z => e (Sum.inr.inj z)).trans h1, ?_⟩
      unfold lget
      rw [List.find?_cons_of_neg (by simpa using e)]
      exact h2
theorem lns_map {G : Hp} {s : Str} {x : List (Int × Key)} {v : V} (r : Rep G (dLine x) v) : ∀ {l : Lns} {kvs : List (Key × V)}, RepK G (dLns l) kvs → RepK G (dLns (lset l s x)) (kvs.map fun kv => if kv.1 = .inr s then (kv.1, v) else kv)
  | [], kvs, h => by rw [show kvs = [] from h]; exact rfl
  | p :: l, kvs, h => by
    obtain ⟨u, kvs', rfl, r1, r2⟩ := h
    have ih := lns_map (s := s) (x := x) r (l := l) r2
    by_cases e : p.1 = s
    · refine ⟨v, kvs'.map fun kv => if kv.1 = .inr s then (kv.1, v) else kv, ?_, ?_, ?_⟩
      · rw [List.map_cons]
        congr 1
        · show (if (Sum.inr p.1 : Key) = .inr s then (Sum.inr p.1, v) else (Sum.inr p.1, u)) = (Sum.inr (if p.1 = s then (p.1, x) else p).1, v)
          rw [if_pos (by rw [e]), if_pos e]
      · show Rep G (dLine (if p.1 = s then (p.1, x) else p).2) v
        rw [if_pos e]
        exact r
      · exact ih
    · refine ⟨u, kvs'.map fun kv => if kv.1 = .inr s then (kv.1, v) else kv, ?_, ?_, ?_⟩
      · rw [List.map_cons]
        congr 1
        · show (if (Sum.inr p.1 : Key) = .inr s then (Sum.inr p.1, v) else (Sum.inr p.1, u)) = (Sum.inr (if p.1 = s then (p.1, x) else p).1, u)
          rw [if_neg (fun z => e (Sum.inr.inj z)), if_neg e]
      · show Rep G (dLine (if p.1 = s then (p.1, x) else p).2) u
        rw [if_neg e]
        exact r1
      · exact ih
theorem lns_put {G : Hp} {s : Str} {x : List (Int × Key)} {v : V} {l : Lns} {kvs : List (Key × V)} (h : RepK G (dLns l) kvs) (hs : s ∈ l.map Prod.fst) (r : Rep G (dLine x) v) : RepK G (dLns (lset l s x)) (putK kvs (.inr s) v) := by
  obtain ⟨u, h1, _⟩ := lns_get h hs
  rw [put_there v (by rw [h1]; rfl)]
  exact lns_map r h
theorem repK_len {G : Hp} : ∀ {ds : List (Key × Da)} {kvs : List (Key × V)}, RepK G ds kvs → kvs.length = ds.length
  | [], kvs, h => by rw [show kvs = [] from h]; rfl
  | (k, d) :: ds, kvs, h => by
    obtain ⟨u, kvs', rfl, r1, r2⟩ := h
    rw [List.length_cons, List.length_cons, repK_len r2]
theorem repK_at {G : Hp} : ∀ {ds : List (Key × Da)} {kvs : List (Key × V)} {i : Nat} {k : Key} {v : V}, RepK G ds kvs → kvs[i]? = some (k, v) → ∃ d, ds[i]? = some (k, d) ∧ Rep G d v
  | [], kvs, i, k, v, h, e => by rw [show kvs = [] from h] at e; simp at e
  | (k', d) :: ds, kvs, i, k, v, h, e => by
    obtain ⟨u, kvs', rfl, r1, r2⟩ := h
    cases i with
    | zero =>
      simp at e
      obtain ⟨rfl, rfl⟩ := e
      exact ⟨d, rfl, r1⟩
    | succ i =>
      obtain ⟨d2, h1, h2⟩ := repK_at (i := i) r2 (by simpa using e)
      exact ⟨d2, by simpa using h1, h2⟩
theorem lk_val {lean : List (Str × Int)} {s : Str} (h : s ∈ lean.map Prod.fst) : valV (lkv lean) (.inr s) = some (.int (lk lean s)) := by
  induction lean with
  | nil => exact nomatch h
  | cons p lean ih =>
    by_cases e : p.1 = s
    · subst e
      refine (valV_pos rfl).trans ?_
      unfold lk
      rw [List.find?_cons_of_pos (by simp)]
      rfl
    · have h : s ∈ lean.map Prod.fst := by
        rcases List.mem_cons.mp h with h | h
        · exact absurd h.symm e
        · exact h
      refine (valV_neg fun z => e (Sum.inr.inj z)).trans ((ih h).trans ?_)
      unfold lk
      rw [List.find?_cons_of_neg (by simpa using e)]
theorem lk_mem {lean : List (Str × Int)} {s : Str} (h : s ∈ lean.map Prod.fst) : (s, lk lean s) ∈ lean := by
  induction lean with
  | nil => exact nomatch h
  | cons p lean ih =>
    by_cases e : p.1 = s
    · subst e
      unfold lk
      rw [List.find?_cons_of_pos (by simp)]
      exact List.mem_cons_self
    · have h : s ∈ lean.map Prod.fst := by
        rcases List.mem_cons.mp h with h | h
        · exact absurd h.symm e
        · exact h
      unfold lk
      rw [List.find?_cons_of_neg (by simpa using e)]
      exact List.mem_cons_of_mem _ (ih h)
end
section
variable {P : Program} {w : World} {K : PySem.W.Frag} {mg : Str → Option Value} {base : Heap} [TL]
def dMom (m : Mom) : Da := .tup [.str m.1, dSpot m.2]
theorem rep_mom {G : Hp} {m : Mom} {v : V} : Rep G (dMom m) v ↔ ∃ a b, v = .ref a ∧ G a = some (.tup [.str m.1, .ref b]) ∧ G b = some (.tup [.str m.2.1, .int m.2.2]) := by
  constructor
  · rintro ⟨a, vs, rfl, e, v1, r1, rfl, h1, v2, r2, rfl, h2, rfl⟩
    obtain rfl : v1 = .str m.1 := h1
    obtain ⟨b, rfl, eb⟩ := rep_spot.mp h2
    exact ⟨a, b, rfl, e, eb⟩
  · rintro ⟨a, b, rfl, e, eb⟩
    exact ⟨a, _, rfl, e, _, _, rfl, rfl, _, _, rfl, rep_spot.mpr ⟨b, rfl, eb⟩, rfl⟩
structure MomOk (lean : List (Str × Int)) (ms : List Mom) : Prop where
  len : ms.length ≤ 2
  st : ∀ m ∈ ms, m.2.1 ∈ lean.map Prod.fst
def spTableWith (T : Txt K mg) : Sp := PurO (fun G vs (x : HisX × List Mom) => (∃ a c v, vs = [.ref a, .ref c, v] ∧ HisAt T G a x.1.1.1 x.1.1.2 x.1.2 ∧ G c = some (.tup []) ∧ Rep G (.lst (x.2.map dMom)) v) ∧ HisOk x.1 ∧ MomOk x.1.1.1 x.2) fun G x o => o = .dT (tvl (ptable x.1.1.1 x.1.2 x.2))
theorem ok_table_with (T : Txt K mg) : FnOk P w K mg base CX0 5 T.table_with.a T.table_with.fd ["history", "choice", "moments"] (spTableWith T) := by
  refine T.table_with.F.ok sc_table_with (fun vs H Q E h => ?_) (fun cdv A outer s H vs Q E hr h => ?_)
  · obtain ⟨_, _, _, ⟨⟨_, _, _, rfl, _⟩, _⟩, _⟩ := h
    rfl
  · obtain ⟨⟨⟨⟨lean, vs'⟩, ds⟩, ms⟩, G, hs, ⟨⟨a, c, v, rfl, hi, ec, rm⟩, ok, mo⟩, q⟩ := h
    dsimp only at hi rm q
    have hu := hu_of hr
    have S := Sta.start hs
    have hi' := hi
    obtain ⟨dx, fs, n, e, e1, l1, l2, hn, re⟩ := hi
    obtain ⟨m, bm, rfl, em, rbm⟩ := rm
    have lbm : bm.length = ms.length := by have := rbm.len; rw [List.length_map] at this; exact this
    have m2 : ms.length ≤ 2 := mo.len
    have mst : ∀ m ∈ ms, m.2.1 ∈ lean.map Prod.fst := mo.st
    have nd : (lean.map Prod.fst).Nodup := ok.nd
    have l4 : lean.length ≤ 4 := ok.lo.len
    have evs : EvsIn lean vs' ds := ok.evs
    have evl := evs.len
    refine ⟨_, (pss_cons (ps_par (i := 3) (j := 4) rfl sc_table_with.nd rfl rfl (by decide) rfl rfl (pa_cons pe_dnewT (pa_cons (pe_call (ok_lines_of T) (hr.mono (by decide)) rfl T.lines_of.g T.lines_of.F.kp T.lines_of.b .nil pass0 (pa_cons (pv 0) pa_nil)) pa_nil)) (by rfl))
  (pss_cons (ps_for PassesOwn.never rfl (y_iL (K := K) rfl (pv 2)) (y_gTup (K := K) (n := 2) rfl rfl (pgs_cons (pg_name (i := 5) sc_table_with.nd rfl (Or.inl rfl)) (pgs_cons (y_gTup (K := K) (n := 2) rfl rfl (pgs_cons (pg_name (i := 6) sc_table_with.nd rfl (Or.inl rfl)) (pgs_cons (pg_name (i := 7) sc_table_with.nd rfl (Or.inl rfl)) pgs_nil))) pgs_nil)))
  (pss_one (ps_dput hu (pv 4) (pv 6) (pe_call (ok_put_moment T) (hr.mono (by decide)) rfl T.put_moment.g T.put_moment.F.kp T.put_moment.b .nil pass0 (pa_cons (pv 3) (pa_cons (pe_dget hu (pv 4) (pv 6) (fun _ _ => rfl)) (pa_cons (pv 5) (pa_cons (pv 7) pa_nil))))) rfl)))
  (pss_cons (ps_lock (ps_for PassesOwn.never rfl (pi_items (pv 4)) (y_gTup (K := K) (n := 2) rfl rfl (pgs_cons (pg_name (i := 6) sc_table_with.nd rfl (Or.inl rfl)) (pgs_cons (pg_name (i := 8) sc_table_with.nd rfl (Or.inl rfl)) pgs_nil)))
  (pss_one (ps_expr (pe_call (ok_put_drift T) (hr.mono (by decide)) rfl T.put_drift.g T.put_drift.F.kp T.put_drift.b .nil pass0 (pa_cons (pv 3) (pa_cons (pv 8) (pa_cons (pe_dget hu (pe_prop (pe_prop (pv 0) T.History.cl T.p_History_network.h (ok_History_network T) (hr.mono (by decide)) T.History_network.b .nil pass0n rfl) T.Network.cl T.p_Network_drifts.h (ok_Network_drifts T) (hr.mono (by decide)) T.Network_drifts.b .nil pass0n rfl) (pv 6) (fun _ _ => rfl)) pa_nil))))))))
  (pss_cons (ps_for PassesOwn.never rfl (y_iET (K := K) rfl rfl T.z_enumerate (pa_cons (pe_prop (pv 0) T.History.cl T.p_History_events.h (ok_History_events T) (hr.mono (by decide)) T.History_events.b .nil pass0n rfl) pa_nil)) (y_gTup (K := K) (n := 2) rfl rfl (pgs_cons (pg_name (i := 9) sc_table_with.nd rfl (Or.inl rfl)) (pgs_cons (y_gTup (K := K) (n := 3) rfl rfl (pgs_cons (pg_name (i := 6) sc_table_with.nd rfl (Or.inl rfl)) (pgs_cons (pg_name (i := 7) sc_table_with.nd rfl (Or.inl rfl)) (pgs_cons (pg_name (i := 10) sc_table_with.nd rfl (Or.inl rfl)) pgs_nil)))) pgs_nil)))
  (pss_one (ps_expr (pe_call (ok_put_facts T) (hr.mono (by decide)) rfl T.put_facts.g T.put_facts.F.kp T.put_facts.b .nil pass0 (pa_cons (pv 3) (pa_cons (pv 9) (pa_cons (pv 10) (pa_cons (pv 1) pa_nil))))))))
  (pss_one (ps_ret (pv 3))))))), ?_⟩
    fail "go"
    refine n_own S fun p1 H1 S1 => ?_
    fail "go"
    refine c_purO S1 ((lean, vs'), ds) ⟨⟨a, rfl, hi'⟩, ok⟩ fun G2 H2 p2 o2 s2 S2 w2 => ?_
    obtain ⟨kvs0, rfl, rk0⟩ := w2
    fail "go"
    refine for_l (xs := bm) (fun i σ H3 => ∃ (G3 : Hp) (kvs : List (Key × V)) (x5 x6 x7 x8 x9 x10 : Option V), Sub G2 G3 ∧ σ = [some (.ref a), some (.ref c), some (.ref m), some (.ref p1), some (.ref p2), x5, x6, x7, x8, x9, x10] ∧ Sta M0 none G H G3 H3 [(p2, .dK kvs), (p1, .dT (tvl ((ms.take i).foldl momStep ([], lns0 lean ds)).1))] ∧ RepK G3 (dLns ((ms.take i).foldl momStep ([], lns0 lean ds)).2) kvs) ⟨G2, kvs0, none, none, none, none, none, none, Sub.rfl' _, rfl, S2, ?_⟩ (fun i σ H1 h => ?_) (fun σ H1 h => ?_) (fun i v σ H1 hv h => ?_)
    · show RepK G2 (dLns (lns0 lean ds)) kvs0
      unfold dLns lns0
      rw [List.map_map]
      exact rk0
    · obtain ⟨G3, kvs, x5, x6, x7, x8, x9, x10, s3, rfl, S3, rk3⟩ := h
      exact S3.isin (s3.to (s2.to em))
    · obtain ⟨G3, kvs, x5, x6, x7, x8, x9, x10, s3, rfl, S3, rk3⟩ := h
      fail "go"
      have le := pmoms_le (ms := ms) (tl := ([], lns0 lean ds)) (lns0_le lean ds)
      have nm := pmoms_names (ms := ms) (tl := ([], lns0 lean ds))
      have n0 : (lns0 lean ds).map Prod.fst = lean.map Prod.fst := by unfold lns0; rw [List.map_map]; rfl
      rw [List.take_of_length_le (by rw [lbm]; exact Nat.le_refl _)] at S3 rk3
      have tg : ptable lean ds ms = factsFrom 0 ds (driftAll lean (ms.foldl momStep ([], lns0 lean ds)).1 (ms.foldl momStep ([], lns0 lean ds)).2) := rfl
      rw [tg] at q
      clear tg
      generalize ms.foldl momStep ([], lns0 lean ds) = tl at S3 rk3 le nm q
      have le1 : tl.1.length ≤ 2 * ms.length := by have := le.1; simpa using this
      have le2 : LLe 32 tl.2 := le.2.mono (by omega)
      have ln4 : tl.2.length ≤ 4 := by
        have := congrArg List.length nm
        rw [List.length_map, List.length_map] at this
        unfold lns0 at this
        rw [List.length_map] at this
        omega
      refine x_sqL ?_
      refine xs_lockS S3 0 rfl trivial fun od H4 S4 => ?_
      fail "go"
      refine ⟨p2, od, kvs, rfl, S4.at (i := 0) rfl, ?_⟩
      have lkv : kvs.length = tl.2.length := by have := repK_len rk3; unfold dLns at this; rw [List.length_map] at this; exact this
      refine for_i (fun i σ H5 => ∃ (G5 : Hp) (x6 x8 : Option V), Sub G3 G5 ∧ σ = [some (.ref a), some (.ref c), some (.ref m), some (.ref p1), some (.ref p2), x5, x6, x7, x8, x9, x10] ∧ Sta M0 none G H G5 H5 [(p2, .frz od (.dK kvs)), (p1, .dT (tvl (driftAll lean tl.1 (tl.2.take i))))]) ⟨G3, x6, x8, Sub.rfl' _, rfl, S4⟩ (fun i σ H1 h => ?_) (fun σ H1 h => ?_) (fun i k v T1 σ H1 H2 hv h hT e9 => ?_)
      · obtain ⟨G5, x6, x8, s5, rfl, S5⟩ := h
        exact S5.at (i := 0) rfl
      · obtain ⟨G5, x6, x8, s5, rfl, S5⟩ := h
        rw [lkv, List.take_of_length_le (Nat.le_refl _)] at S5
        have le3 := driftAll_le (lean := lean) (t := tl.1) le2
        have le4 : 2 * 32 * tl.2.length ≤ 2 * 32 * 4 := Nat.mul_le_mul_left _ ln4
        have le5 : (driftAll lean tl.1 tl.2).length ≤ 260 := by omega
        generalize driftAll lean tl.1 tl.2 = dt at S5 le5 q
        refine lk_end S5 0 rfl pln_dK fun H6 S6 => ?_
        fail "go"
        refine x_iEnT ?_
        fail "go"
        refine ⟨a, dx, fs, rfl, S6.isin (s5.to (s3.to (s2.to e1))), ?_⟩
        refine c_pur S6 ((lean, vs'), ds) ⟨a, rfl, hi'.mono (s2.tr (s3.tr s5))⟩ fun G7 H7 v7 s7 S7 o7 => ?_
        obtain ⟨b, bs, rfl, eb, rb⟩ := o7
        have lb : bs.length = ds.length := by have := rb.len; rw [List.length_map] at this; exact this
        fail "go"
        refine ⟨b, bs, rfl, SqT.of (S7.isin eb), ?_⟩
        refine for_eT (xs := bs) (fun i σ H1 => ∃ (G8 : Hp) (x6 x7 x9 x10 : Option V), Sub G7 G8 ∧ σ = [some (.ref a), some (.ref c), some (.ref m), some (.ref p1), some (.ref p2), x5, x6, x7, x8, x9, x10] ∧ Sta M0 none G H G8 H1 [(p2, .dK kvs), (p1, .dT (tvl (factsFrom 0 (ds.take i) dt)))]) ⟨G7, x6, x7, x9, x10, Sub.rfl' _, rfl, S7⟩ (fun i σ H1 h => ?_) (fun σ H1 h => ?_) (fun i v T1 σ H1 H2 hv h hT e9 => ?_)
        · obtain ⟨G8, x6, x7, x9, x10, s8, rfl, S8⟩ := h
          exact S8.isin (s8.to eb)
        · obtain ⟨G8, x6, x7, x9, x10, s8, rfl, S8⟩ := h
          rw [List.take_of_length_le (by rw [lb]; exact Nat.le_refl _)] at S8
          fail "go"
          have hl := S8.own (p1, .dT (tvl (factsFrom 0 ds dt))) (by simp)
          exact q G8 H1 p1 _ S8.go (hl.2.2.1.resolve_left id) hl.1 hl.2.1 hl.2.2.2 rfl
        · obtain ⟨G8, x6, x7, x9, x10, s8, rfl, S8⟩ := h
          obtain ⟨G9, s9, S9, e10⟩ := S8.newE hT e9
          have hlt := (List.getElem?_eq_some_iff.mp hv).1
          obtain ⟨d1, k1, r1⟩ := rb.got hv
          rw [List.getElem?_map] at k1
          obtain ⟨d, md, rfl⟩ := Option.map_eq_some_iff.mp k1
          obtain ⟨pd, nv, rfl, ed, rn⟩ := rep_deed.mp r1
          have ed9 : G9 pd = some (.tup [.str d.st, .int d.tick, nv]) := s9.to (s8.to ed)
          have tk : ds.take (i + 1) = ds.take i ++ [d] := by rw [List.take_add_one, md]; rfl
          have ti : (ds.take i).length = i := by rw [List.length_take]; have := (List.getElem?_eq_some_iff.mp md).1; omega
          rw [tk, factsFrom_snoc, ti, Nat.zero_add]
          have le6 := factsFrom_le (ds := ds.take i) (i := 0) (t := dt) fun e he => by
            obtain ⟨j, hj⟩ := List.getElem?_of_mem (List.mem_of_mem_take he)
            exact (evs.ev j e hj).few
          rw [List.length_take] at le6
          have few := (evs.ev i d md).few
          generalize factsFrom 0 (ds.take i) dt = ft at S9 le6 ⊢
          refine x_gTup (S9.isin e10) rfl ?_
          fail "go"
          refine c_mut S9 1 rfl (ft, (i : Int), d.notes) ⟨⟨nv, c, rfl, rn.mono (s8.tr s9), s9.to (s8.to (s7.to (s5.to (s3.to (s2.to ec)))))⟩, rfl, by show ft.length + 2 * d.notes.length ≤ 1000; omega⟩ fun G10 H10 v10 o10 s10 S10 w10 => ?_
          subst w10
          exact ⟨G10, _, _, _, _, s8.tr (s9.tr s10), rfl, S10⟩
      · obtain ⟨G5, x6, x8, s5, rfl, S5⟩ := h
        obtain ⟨G6, s6, S6, e6⟩ := S5.newE hT e9
        have hlt := (List.getElem?_eq_some_iff.mp hv).1
        obtain ⟨d1, k1, r1⟩ := repK_at rk3 hv
        unfold dLns at k1
        rw [List.getElem?_map] at k1
        obtain ⟨⟨st, ln⟩, mi, ep⟩ := Option.map_eq_some_iff.mp k1
        cases ep
        have hst : st ∈ lean.map Prod.fst := by
          rw [← n0, ← nm]
          exact List.mem_map.mpr ⟨_, List.mem_of_getElem? mi, rfl⟩
        have ldr := ok.lo.b _ (lk_mem hst)
        dsimp only at ldr
        have lln : ln.length ≤ 32 := le2 _ (List.mem_of_getElem? mi)
        have tk : driftAll lean tl.1 (tl.2.take (i + 1)) = pdrift (lk lean st) (driftAll lean tl.1 (tl.2.take i)) ln := by
          unfold driftAll
          rw [List.take_add_one, mi, List.foldl_append]
          rfl
        have le3 := driftAll_le (lean := lean) (l := tl.2.take i) (t := tl.1) fun p hp => le2 p (List.mem_of_mem_take hp)
        rw [List.length_take] at le3
        have le4 : 2 * 32 * min i tl.2.length ≤ 2 * 32 * 4 := Nat.mul_le_mul_left _ (by omega)
        rw [tk]
        generalize driftAll lean tl.1 (tl.2.take i) = dt at S6 le3 ⊢
        refine x_gTup (S6.isin e6) rfl ?_
        fail "go"
        refine ⟨a, dx, fs, rfl, S6.isin (s6.to (s5.to (s3.to (s2.to e1)))), ?_⟩
        refine c_pur S6 ((lean, vs'), ds) ⟨a, rfl, hi'.mono (s2.tr (s3.tr (s5.tr s6)))⟩ fun G7 H7 v7 s7 S7 o7 => ?_
        obtain ⟨n7, rfl, hn7⟩ := o7
        have hn7' := hn7
        obtain ⟨dx3, fs3, d3, s3', f3, _⟩ := hn7
        refine ⟨n7, dx3, fs3, rfl, S7.isin f3, ?_⟩
        refine c_pur S7 (lean, vs') ⟨n7, rfl, hn7'⟩ fun G8 H8 v8 s8 S8 o8 => ?_
        obtain ⟨d8, rfl, e8⟩ := o8
        fail "go"
        refine l_dgS (S8.isin e8) (lk_val hst) ?_
        fail "go"
        refine c_mut S8 1 rfl (dt, ln, lk lean st) ⟨⟨v, rfl, r1.mono (s5.tr (s6.tr (s7.tr s8)))⟩, rfl, ldr.1, ldr.2, by show dt.length + 2 * ln.length ≤ 1000; omega⟩ fun G10 H10 v10 o10 s10 S10 w10 => ?_
        subst w10
        exact ⟨G10, _, _, s5.tr (s6.tr (s7.tr (s8.tr s10))), rfl, S10⟩
    · obtain ⟨G3, kvs, x5, x6, x7, x8, x9, x10, s3, rfl, S3, rk3⟩ := h
      have hlt := (List.getElem?_eq_some_iff.mp hv).1
      obtain ⟨d1, k1, r1⟩ := rbm.got hv
      rw [List.getElem?_map] at k1
      obtain ⟨mm, mi, rfl⟩ := Option.map_eq_some_iff.mp k1
      obtain ⟨pm, ps, rfl, epm, eps⟩ := rep_mom.mp r1
      have epm3 : G3 pm = some (.tup [.str mm.1, .ref ps]) := s3.to (s2.to epm)
      have eps3 : G3 ps = some (.tup [.str mm.2.1, .int mm.2.2]) := s3.to (s2.to eps)
      have tk : (ms.take (i + 1)).foldl momStep ([], lns0 lean ds) = momStep ((ms.take i).foldl momStep ([], lns0 lean ds)) mm := by rw [List.take_add_one, mi, List.foldl_append]; rfl
      have le := pmoms_le (ms := ms.take i) (tl := ([], lns0 lean ds)) (lns0_le lean ds)
      have nm := pmoms_names (ms := ms.take i) (tl := ([], lns0 lean ds))
      rw [tk]
      generalize (ms.take i).foldl momStep ([], lns0 lean ds) = tl at S3 rk3 le nm ⊢
      have hst : mm.2.1 ∈ tl.2.map Prod.fst := by
        rw [nm]
        have : (lns0 lean ds).map Prod.fst = lean.map Prod.fst := by unfold lns0; rw [List.map_map]; rfl
        rw [this]
        exact mst mm (List.mem_of_getElem? mi)
      obtain ⟨lv, g1, g2⟩ := lns_get rk3 hst
      rw [List.length_take] at le
      have le1 : tl.1.length ≤ 2 * min i ms.length := by have := le.1; simpa using this
      refine x_gTup (S3.isin epm3) rfl ?_
      fail "go"
      refine l_dgS (S3.at (i := 0) rfl) g1 ?_
      fail "go"
      refine c_mut S3 1 rfl (tl.1, lget tl.2 mm.2.1, .inr mm.1, mm.2.2) ⟨⟨lv, rfl, g2⟩, rfl, ?_, ?_⟩ fun G4 H4 v4 o4 s4 S4 w4 => ?_
      · show tl.1.length + 2 ≤ 1000
        omega
      · have := lget_le le.2 mm.2.1
        show (lget tl.2 mm.2.1).length ≤ 900
        omega
      obtain ⟨rfl, rv4⟩ := w4
      fail "go"
      have lkv4 : kvs.length ≤ 1000 := by
        rw [repK_len rk3]
        unfold dLns
        rw [List.length_map, ← List.length_map (f := Prod.fst), nm]
        unfold lns0
        rw [List.length_map, List.length_map]
        omega
      refine ls_putS S4 0 rfl lkv4 fun H5 S5 => ?_
      exact ⟨G4, _, _, _, _, _, _, _, s3.tr s4, rfl, S5, lns_put (rk3.mono s4) hst rv4⟩
end
section
variable {P : Program} {w : World} {K : PySem.W.Frag} {mg : Str → Option Value} {base : Heap} [TL]
def addN (l : List Key) (k : Key) : List Key := if (l.any fun x => decide (x = k)) = true then l else l ++ [k]
theorem any_mem {l : List Key} {k : Key} : (l.any fun x => decide (x = k)) = true ↔ k ∈ l := by
  rw [List.any_eq_true]
  exact ⟨fun ⟨x, h, e⟩ => by rw [← of_decide_eq_true e]; exact h, fun h => ⟨k, h, decide_eq_true rfl⟩⟩
def nodesOf (t : Tb) : List Key := t.foldl (fun l e => addN (addN l e.1.1) e.1.2) []
def nk (l : List Key) : List (Key × V) := l.map fun k => (k, .bl true)
theorem nk_put (l : List Key) (k : Key) : putK (nk l) k (.bl true) = nk (addN l k) := by
  unfold addN
  by_cases h : k ∈ l
  · rw [if_pos (any_mem.mpr h)]
    have : (valV (nk l) k).isSome = true := by
      rw [← valV_any]
      exact List.any_eq_true.mpr ⟨(k, .bl true), List.mem_map.mpr ⟨k, h, rfl⟩, decide_eq_true rfl⟩
    rw [put_there _ this]
    unfold nk
    rw [List.map_map]
    refine List.map_congr_left fun x _ => ?_
    show (if x = k then (x, V.bl true) else (x, V.bl true)) = _
    split <;> rfl
  · rw [if_neg (fun z => h (any_mem.mp z)), putK_new (valV_none fun p hp e => ?_)]
    · unfold nk
      rw [List.map_append]
      rfl
    · obtain ⟨x, hx, rfl⟩ := List.mem_map.mp hp
      exact h (e ▸ hx)
theorem addN_mem {l : List Key} {k x : Key} : x ∈ addN l k ↔ x ∈ l ∨ x = k := by
  unfold addN
  split
  · rename_i h
    constructor
    · exact .inl
    · rintro (h' | rfl)
      · exact h'
      · exact any_mem.mp h
  · rw [List.mem_append, List.mem_singleton]
theorem addN_nodup {l : List Key} {k : Key} (h : l.Nodup) : (addN l k).Nodup := by
  unfold addN
  split
  · exact h
  · rename_i hk
    exact List.nodup_append.mpr ⟨h, by simp, fun a ha b hb e => by rw [List.mem_singleton.mp hb] at e; exact hk (any_mem.mpr (e ▸ ha))⟩
theorem addN_len (l : List Key) (k : Key) : (addN l k).length ≤ l.length + 1 := by
  unfold addN
  split
  · exact Nat.le_succ _
  · rw [List.length_append]; exact Nat.le_refl _
theorem nodes_all (t : Tb) : ∀ l : List Key, l.Nodup → (t.foldl (fun l e => addN (addN l e.1.1) e.1.2) l).Nodup ∧ (∀ x, x ∈ t.foldl (fun l e => addN (addN l e.1.1) e.1.2) l ↔ x ∈ l ∨ ∃ e ∈ t, x = e.1.1 ∨ x = e.1.2) ∧ (t.foldl (fun l e => addN (addN l e.1.1) e.1.2) l).length ≤ l.length + 2 * t.length := by
  induction t with
  | nil => exact fun l h => ⟨h, fun x => ⟨.inl, fun z => z.elim id fun ⟨_, h, _⟩ => (nomatch h)⟩, Nat.le_refl _⟩
  | cons e t ih =>
    intro l h
    obtain ⟨a, b, c⟩ := ih (addN (addN l e.1.1) e.1.2) (addN_nodup (addN_nodup h))
    refine ⟨a, fun x => ?_, ?_⟩
    · rw [List.foldl_cons, b, addN_mem, addN_mem]
      constructor
      · rintro (((h | h) | h) | ⟨f, hf, h⟩)
        · exact .inl h
        · exact .inr ⟨e, List.mem_cons_self, .inl h⟩
        · exact .inr ⟨e, List.mem_cons_self, .inr h⟩
        · exact .inr ⟨f, List.mem_cons_of_mem _ hf, h⟩
      · rintro (h | ⟨f, hf, h⟩)
        · exact .inl (.inl (.inl h))
        · rcases List.mem_cons.mp hf with rfl | hf
          · exact .inl (h.elim (fun h => .inl (.inr h)) .inr)
          · exact .inr ⟨f, hf, h⟩
    · have h1 := addN_len l e.1.1
      have h2 := addN_len (addN l e.1.1) e.1.2
      rw [List.foldl_cons, List.length_cons]
      omega
theorem nodes_nodup (t : Tb) : (nodesOf t).Nodup := (nodes_all t [] .nil).1
theorem nodes_mem {t : Tb} {x : Key} : x ∈ nodesOf t ↔ ∃ e ∈ t, x = e.1.1 ∨ x = e.1.2 := ((nodes_all t [] .nil).2.1 x).trans ⟨fun h => h.elim (fun z => (nomatch z)) id, .inr⟩
theorem nodes_len (t : Tb) : (nodesOf t).length ≤ 2 * t.length := by
  have := (nodes_all t [] .nil).2.2
  rw [List.length_nil, Nat.zero_add] at this
  exact this
theorem nodes_snoc (t : Tb) (e : (Key × Key) × Int) : nodesOf (t ++ [e]) = addN (addN (nodesOf t) e.1.1) e.1.2 := by unfold nodesOf; rw [List.foldl_append]; rfl
def spNodesOf : Sp := Mut (fun _ vs p o (t : Tb) => vs = [.ref p] ∧ o = .dT (tvl t) ∧ t.length ≤ 450) fun G t v o' => o' = .dT (tvl t) ∧ ∃ l, v = .ref l ∧ G l = some (.lst ((nodesOf t).map kV))
theorem ok_nodes_of (T : Txt K mg) : FnOk P w K mg base CX0 1 T.nodes_of.a T.nodes_of.fd ["table"] spNodesOf := by
  refine T.nodes_of.F.ok sc_nodes_of (fun vs H Q E h => ?_) (fun cdv A outer s H vs Q E hr h => ?_)
  · obtain ⟨_, _, _, _, _, _, _, _, ⟨rfl, _⟩, _⟩ := h
    rfl
  · obtain ⟨t, G, p, o, hs, hp, hg, hpl, ⟨rfl, rfl, hl⟩, q⟩ := h
    have hu := hu_of hr
    have S := Sta.startM hs hp hg hpl
    refine ⟨_, (pss_one (ps_ret (pe_callTy (k_lstD rfl) rfl T.z_list (by decide +kernel) (pa_cons (pe_lock (pe_dc2 (own := [("pair", 1), ("node", 2)]) (vs1 := [2]) rfl sc_nodes_of.nd (pi_keys (pv 0)) (blkOk_by (own := [("pair", 1), ("node", 2)]) (N := n_nodes_of) (sc := defScope s_nodes_of) (by decide +kernel)) (by decide) (fun _ _ _ _ _ => (pg_name (i := 1) sc_nodes_of.nd rfl (Or.inl rfl))) (fun _ _ _ _ _ => (y_iT (K := K) rfl (pv 1))) (fun _ _ _ _ _ => (pg_name (i := 2) sc_nodes_of.nd rfl (Or.inl rfl))) (fun _ _ _ _ _ => (pv 2)) (fun _ _ _ _ _ => pe_bl))) pa_nil)))), ?_⟩
    fail "go"
    refine xs_lockO S 0 rfl trivial fun od H1 S1 => ?_
    show tDc2 _ _ _ _ _ _ _ _ _ _ _
    refine x_iKeys ?_
    fail "go"
    refine ⟨p, od, rfl, .inr ⟨tvl t, S1.at (i := 0) rfl, fun l hl => ?_⟩⟩
    have tl : (tvl t).length = t.length := by unfold tvl; rw [List.length_map]
    have S2 := S1.mine hl (o := .dK []) pln_dK
    refine ⟨fun i m H1 => m = t.length - i ∧ i ≤ t.length ∧ Sta (· = p) none G H G H1 [(l, .dK (nk (nodesOf (t.take i)))), (p, .frz od (.dT (tvl t)))], ⟨t.length, rfl, Nat.zero_le _, S2⟩, ?_⟩
    rintro i m H1 ⟨rfl, hi, S3⟩
    by_cases hq : i = t.length
    · subst hq
      refine .inl ⟨⟨S3.at (i := 1) rfl, by rw [tl]; exact Nat.le_refl _⟩, ?_⟩
      rw [List.take_of_length_le (Nat.le_refl _)] at S3
      refine lock_endO S3 1 rfl pln_dT fun H4 S4 => ?_
      fail "go"
      refine n_fix S4 fun p5 G5 H5 s5 S5 e5 => ?_
      refine q _ _ _ _ S5.go (S5.at (i := 1) rfl) pln_dT ⟨rfl, p5, rfl, ?_⟩
      unfold nk at e5
      rw [List.map_map] at e5
      exact e5
    · have hi' : i < t.length := by omega
      refine .inr ⟨⟨S3.at (i := 1) rfl, by rw [tl]; exact hi'⟩, fun H' => Sta (· = p) none G H G H' [(l, .dK (nk (nodesOf (t.take (i + 1))))), (p, .frz od (.dT (tvl t)))], fun H' h => ⟨t.length - (i + 1), by omega, rfl, hi', h⟩, ?_⟩
      rintro x H4 ⟨rfl, k, v, pq, e1, rfl, e2⟩
      have ge : (tvl t)[i]? = some ([t[i].1.1, t[i].1.2], V.int t[i].2) := by unfold tvl; rw [List.getElem?_map, List.getElem?_eq_getElem hi']; rfl
      rw [ge] at e1
      cases e1
      have e2 : H4 pq = some (.tup [kV t[i].1.1, kV t[i].1.2]) := e2
      have tk : t.take (i + 1) = t.take i ++ [t[i]] := by rw [List.take_add_one, List.getElem?_eq_getElem hi']; rfl
      rw [tk, nodes_snoc]
      have ln : (nodesOf (t.take i)).length ≤ 2 * i := by have := nodes_len (t.take i); rw [List.length_take] at this; omega
      generalize nodesOf (t.take i) = ns at S3 ln ⊢
      generalize ha : t[i].1.1 = a at e2 ⊢
      generalize hb : t[i].1.2 = b at e2 ⊢
      have ln2 := addN_len ns a
      have nkl : ∀ z : List Key, (nk z).length = z.length := fun z => by unfold nk; rw [List.length_map]
      fail "go"
      refine ⟨fun j k H5 => k = 2 - j ∧ j ≤ 2 ∧ H5 pq = some (.tup [kV a, kV b]) ∧ Sta (· = p) none G H G H5 [(l, .dK (nk (if j = 0 then ns else if j = 1 then addN ns a else addN (addN ns a) b))), (p, .frz od (.dT (tvl t)))], ⟨2, rfl, Nat.zero_le _, e2, S3⟩, ?_⟩
      have turn : ∀ (j : Nat) (H5 : Hp) (u u' : List Key) (c : Key), u.length ≤ 1000 → addN u c = u' → H5 pq = some (.tup [kV a, kV b]) → Sta (· = p) none G H G H5 [(l, .dK (nk u)), (p, .frz od (.dT (tvl t)))] → ∃ kvs k, kV c = kV k ∧ H5 l = some (.dK kvs) ∧ kvs.length < sizeLine ∧
          (upd H5 l (.dK (putK kvs k (.bl true)))) pq = some (.tup [kV a, kV b]) ∧ Sta (· = p) none G H G (upd H5 l (.dK (putK kvs k (.bl true)))) [(l, .dK (nk u')), (p, .frz od (.dT (tvl t)))] := fun j H5 u u' c hu e hq S5 => by
        refine ⟨nk u, c, rfl, S5.at (i := 0) rfl, by rw [nkl]; exact Nat.lt_of_le_of_lt hu (by decide), ?_, ?_⟩
        · have hne : pq ≠ l := fun z => by rw [z, S5.at (i := 0) rfl] at hq; cases hq
          rw [upd_ne hne]
          exact hq
        · rw [nk_put, e]
          exact S5.set (i := 0) rfl pln_dK
      rintro j k H5 ⟨rfl, hj, hq5, S5⟩
      by_cases hj2 : j = 2
      · subst hj2
        exact .inl ⟨⟨_, SqT.of hq5, Nat.le_refl _⟩, S5⟩
      · have hj1 : j = 0 ∨ j = 1 := by omega
        refine .inr ⟨⟨[kV a, kV b], if j = 0 then kV a else kV b, SqT.of hq5, by rcases hj1 with rfl | rfl <;> rfl⟩, fun H' => H' pq = some (.tup [kV a, kV b]) ∧ Sta (· = p) none G H G H' [(l, .dK (nk (if j + 1 = 0 then ns else if j + 1 = 1 then addN ns a else addN (addN ns a) b))), (p, .frz od (.dT (tvl t)))], fun H' h => ⟨2 - (j + 1), by omega, rfl, by omega, h⟩, ?_⟩
        rintro x H6 ⟨rfl, y⟩
        have y := y _ (SqT.of hq5)
        rcases hj1 with rfl | rfl
        · cases y
          fail "go"
          exact turn 0 _ _ _ a (by show ns.length ≤ 1000; omega) rfl hq5 S5
        · cases y
          fail "go"
          exact turn 1 _ _ _ b (by show (addN ns a).length ≤ 1000; omega) rfl hq5 S5
end
section
variable {P : Program} {w : World} {K : PySem.W.Frag} {mg : Str → Option Value} {base : Heap} [TL]
def tmK (N : List Key) (f : Key → Int) : List (Key × V) := N.map fun k => (k, .int (f k))
def optK : Option Key → V
  | none => .non
  | some k => kV k
theorem kV_non (k : Key) : kV k ≠ .non := by rcases k with _ | _ <;> exact fun z => nomatch z
theorem optK_non {o : Option Key} : optK o = .non ↔ o = none := by
  cases o with
  | none => exact ⟨fun _ => rfl, fun _ => rfl⟩
  | some k => exact ⟨fun z => absurd z (kV_non k), fun z => nomatch z⟩
theorem tmK_get {N : List Key} {f : Key → Int} {k : Key} (h : k ∈ N) : valV (tmK N f) k = some (.int (f k)) := by
  induction N with
  | nil => exact nomatch h
  | cons a N ih =>
    by_cases e : a = k
    · subst e
      exact valV_pos rfl
    · refine (valV_neg e).trans (ih ?_)
      rcases List.mem_cons.mp h with h | h
      · exact absurd h.symm e
      · exact h
theorem tmK_put {N : List Key} {f : Key → Int} {k : Key} {n : Int} (h : k ∈ N) : putK (tmK N f) k (.int n) = tmK N (Sh.upf f k n) := by
  rw [put_there _ (by rw [tmK_get h]; rfl)]
  unfold tmK
  rw [List.map_map]
  refine List.map_congr_left fun x _ => ?_
  show (if x = k then (x, V.int n) else (x, V.int (f x))) = (x, V.int (Sh.upf f k n x))
  by_cases e : x = k
  · rw [if_pos e, e, Sh.upf_same]
  · rw [if_neg e, Sh.upf_ne _ _ e]
theorem putK_keys (kvs : List (Key × V)) (k : Key) (v : V) : (k ∈ kvs.map Prod.fst → (putK kvs k v).map Prod.fst = kvs.map Prod.fst) ∧ (k ∉ kvs.map Prod.fst → (putK kvs k v).map Prod.fst = kvs.map Prod.fst ++ [k]) := by
  unfold putK
  refine ⟨fun h => ?_, fun h => ?_⟩
  · rw [if_pos]
    · rw [List.map_map]
      refine List.map_congr_left fun x _ => ?_
      show (if x.1 = k then (x.1, v) else x).1 = x.1
      split <;> rfl
    · obtain ⟨x, hx, rfl⟩ := List.mem_map.mp h
      exact List.any_eq_true.mpr ⟨x, hx, decide_eq_true rfl⟩
  · rw [if_neg]
    · rw [List.map_append]
      rfl
    · intro z
      obtain ⟨x, hx, e⟩ := List.any_eq_true.mp z
      exact h (List.mem_map.mpr ⟨x, hx, of_decide_eq_true e⟩)
structure KeysIn (N : List Key) (kvs : List (Key × V)) : Prop where
  nd : (kvs.map Prod.fst).Nodup
  sub : ∀ k ∈ kvs.map Prod.fst, k ∈ N
theorem KeysIn.nil (N : List Key) : KeysIn N [] := ⟨.nil, fun _ h => nomatch h⟩
theorem KeysIn.put {N : List Key} {kvs : List (Key × V)} (h : KeysIn N kvs) {k : Key} (hk : k ∈ N) (v : V) : KeysIn N (putK kvs k v) := by
  by_cases c : k ∈ kvs.map Prod.fst
  · have e := (putK_keys kvs k v).1 c
    exact ⟨by rw [e]; exact h.nd, by rw [e]; exact h.sub⟩
  · have e := (putK_keys kvs k v).2 c
    refine ⟨?_, ?_⟩
    · rw [e]
      exact List.nodup_append.mpr ⟨h.nd, by simp, fun a ha b hb z => by rw [List.mem_singleton.mp hb] at z; exact c (z ▸ ha)⟩
    · rw [e]
      intro x hx
      rcases List.mem_append.mp hx with hx | hx
      · exact h.sub x hx
      · rw [List.mem_singleton.mp hx]; exact hk
theorem KeysIn.len {N : List Key} {kvs : List (Key × V)} (h : KeysIn N kvs) : kvs.length ≤ N.length := by
  have := Sh.nodup_sub _ N h.nd h.sub
  rwa [List.length_map] at this
/-- what relaxed leaves -/
structure RelAt (G : Hp) (t : Tb) (bf : Sh.BF Key) (tp bp : Addr) : Prop where
  tm : G tp = some (.dK (tmK (nodesOf t) bf.tm))
  bfs : ∃ kb, G bp = some (.dK kb) ∧ ∀ k, valV kb k = (bf.bf k).map kV
  ok : (bf.fd = none ∧ ∃ r, Sh.BF.Ok t (nodesOf t) r t [] bf) ∨ ((∃ x, bf.fd = some x) ∧ Sh.BF.Ok t (nodesOf t) ((nodesOf t).length + 1) t [] bf)
def spRelaxed : Sp := Mut (fun _ vs p o (t : Tb) => vs = [.ref p] ∧ o = .dT (tvl t) ∧ t.length ≤ 450) fun G t v o' => o' = .dT (tvl t) ∧ ∃ a tp bp bf, v = .ref a ∧ G a = some (.tup [.ref tp, .ref bp, optK bf.fd]) ∧ RelAt G t bf tp bp
theorem ok_relaxed (T : Txt K mg) : FnOk P w K mg base CX0 2 T.relaxed.a T.relaxed.fd ["table"] spRelaxed := by
  refine T.relaxed.F.ok sc_relaxed (fun vs H Q E h => ?_) (fun cdv A outer s H vs Q E hr h => ?_)
  · obtain ⟨_, _, _, _, _, _, _, _, ⟨rfl, _⟩, _⟩ := h
    rfl
  · obtain ⟨t, G, p, o, hs, hp, hg, hpl, ⟨rfl, rfl, hl⟩, q⟩ := h
    have hu := hu_of hr
    have S := Sta.startM hs hp hg hpl
    refine ⟨_, (pss_cons (ps_set (i := 1) sc_relaxed.nd rfl (Or.inl rfl) (pe_call (ok_nodes_of T) (hr.mono (by decide)) rfl T.nodes_of.g T.nodes_of.F.kp T.nodes_of.b .nil pass0 (pa_cons (pv 0) pa_nil)))
  (pss_cons (ps_setDc (i := 2) (own := [("node", 9)]) rfl sc_relaxed.nd rfl rfl (sw_trueD rfl rfl rfl (by decide +kernel)) (y_iL (K := K) rfl (pv 1)) (blkOk_by (own := [("node", 9)]) (N := n_relaxed) (sc := defScope s_relaxed) (by decide +kernel)) (fun _ _ _ _ _ => (pg_name (i := 9) sc_relaxed.nd rfl (Or.inl rfl))) (fun _ _ _ _ _ => (pv 9)) (fun _ _ _ _ _ => pe_int))
  (pss_cons (ps_set (i := 3) sc_relaxed.nd rfl (Or.inl rfl) pe_dnewK)
  (pss_cons (ps_set (i := 4) sc_relaxed.nd rfl (Or.inl rfl) pe_non)
  (pss_cons (ps_for PassesOwn.never rfl (pi_range1 rfl T.z_range (pa_cons (pe_op op_add (pe_callB (y_len (K := K) rfl) rfl T.z_len (by decide +kernel) (pa_cons (pv 1) pa_nil)) pe_int) pa_nil)) (pg_name (i := 5) sc_relaxed.nd rfl (Or.inl rfl))
  (pss_cons (ps_set (i := 4) sc_relaxed.nd rfl (Or.inl rfl) pe_non)
  (pss_cons (ps_lock (ps_for PassesOwn.never rfl (pi_itemsT (pv 0)) (y_gTup (K := K) (n := 2) rfl rfl (pgs_cons (y_gTup (K := K) (n := 2) rfl rfl (pgs_cons (pg_name (i := 6) sc_relaxed.nd rfl (Or.inl rfl)) (pgs_cons (pg_name (i := 7) sc_relaxed.nd rfl (Or.inl rfl)) pgs_nil))) (pgs_cons (pg_name (i := 8) sc_relaxed.nd rfl (Or.inl rfl)) pgs_nil)))
  (pss_one (ps_if (pt_cmpR op_lt (pe_op op_add (pe_dget hu (pv 2) (pv 6) (fun _ _ => rfl)) (pv 8)) (pe_dget hu (pv 2) (pv 7) (fun _ _ => rfl)) (nomark _))
  (pss_cons (ps_dput hu (pv 2) (pv 7) (pe_op op_add (pe_dget hu (pv 2) (pv 6) (fun _ _ => rfl)) (pv 8)) rfl)
  (pss_cons (ps_dput hu (pv 3) (pv 7) (pv 6) rfl)
  (pss_one (ps_set (i := 4) sc_relaxed.nd rfl (Or.inl rfl) (pv 7)))))
  pss_nil))))
  (pss_one (ps_if (pt_cmpR k_isN (pv 4) pe_non (nomark _))
  (pss_one ps_break)
  pss_nil)))))
  (pss_one (ps_ret (pe_tup (pa_cons (pv 2) (pa_cons (pv 3) (pa_cons (pv 4) pa_nil))))))))))), ?_⟩
    fail "go"
    refine c_mut S 0 rfl t ⟨rfl, rfl, hl⟩ fun G1 H1 v1 o1 s1 S1 w1 => ?_
    obtain ⟨rfl, l, rfl, e1⟩ := w1
    have nn : (nodesOf t).Nodup := nodes_nodup t
    have nl := nodes_len t
    have nm : ∀ e ∈ t, e.1.1 ∈ nodesOf t ∧ e.1.2 ∈ nodesOf t := fun e he => ⟨nodes_mem.mpr ⟨e, he, .inl rfl⟩, nodes_mem.mpr ⟨e, he, .inr rfl⟩⟩
    have q' : ∀ (G' H' : Hp) (v : V), Go (· = p) G H G' H' → H' p = some (.dT (tvl t)) → (∃ a tp bp bf, v = .ref a ∧ G' a = some (.tup [.ref tp, .ref bp, optK bf.fd]) ∧ RelAt G' t bf tp bp) → Q v H' := fun G' H' v g h z => q G' H' v _ g h pln_dT ⟨rfl, z⟩
    clear q
    have rel : ∀ G bf tp bp, RelAt G t bf tp bp ↔ (G tp = some (.dK (tmK (nodesOf t) bf.tm)) ∧ (∃ kb, G bp = some (.dK kb) ∧ ∀ k, valV kb k = (bf.bf k).map kV) ∧ ((bf.fd = none ∧ ∃ r, Sh.BF.Ok t (nodesOf t) r t [] bf) ∨ ((∃ x, bf.fd = some x) ∧ Sh.BF.Ok t (nodesOf t) ((nodesOf t).length + 1) t [] bf))) := fun G bf tp bp => ⟨fun h => ⟨h.1, h.2, h.3⟩, fun h => ⟨h.1, h.2.1, h.2.2⟩⟩
    generalize hN : nodesOf t = N at e1 nn nl nm rel
    fail "go"
    refine dc_l (xs := N.map kV) S1 (fun i _ acc => acc = tmK (N.take i) fun _ => 0) rfl (fun G2 H2 x s2 S2 => S2.isin (s2.to e1)) (fun tp G2 H2 acc s2 S2 hl2 hv => ?_) (fun i v tp G2 H2 acc hi s2 S2 hl2 hv => ?_)
    · rw [List.length_map, List.take_of_length_le (Nat.le_refl _)] at hv
      subst hv
      fail "go"
      refine n_own S2 fun bp H3 S3 => ?_
      with_reducible apply x_gName
      with_reducible apply x_sqA
      with_reducible apply x_asg
      with_reducible apply x_c
      with_reducible apply x_gName
      with_reducible apply x_show
      with_reducible refine x_seqC (fun σ H4 => ∃ (G4 : Hp) (bf : Sh.BF Key) (kb : List (Key × V)) (x5 x6 x7 x8 x9 : Option V), Sub G1 G4 ∧ σ = [some (.ref p), some (.ref l), some (.ref tp), some (.ref bp), some (optK bf.fd), x5, x6, x7, x8, x9] ∧ Sta (· = p) none G H G4 H4 [(bp, .dK kb), (tp, .dK (tmK N bf.tm)), (p, .dT (tvl t))] ∧ (∀ k, valV kb k = (bf.bf k).map kV) ∧
        ((bf.fd = none ∧ ∃ r, Sh.BF.Ok t N r t [] bf) ∨ ((∃ x, bf.fd = some x) ∧ Sh.BF.Ok t N (N.length + 1) t [] bf))) ?_ ?_
      · rintro σ H4 ⟨G4, bf, kb, x5, x6, x7, x8, x9, s4, rfl, S4, hkb, hok⟩
        fail "go"
        obtain ⟨G5, s5, S5, e5⟩ := S4.fixM 0 rfl (fun z => S4.ne (i := 0) (j := 2) rfl rfl (by decide) z)
        obtain ⟨G6, s6, S6, e6⟩ := S5.fixM 0 rfl (fun z => S5.ne (i := 0) (j := 1) rfl rfl (by decide) z)
        refine n_fix S6 fun p7 G7 H7 s7 S7 e7 => ?_
        exact q' _ _ _ S7.go (S7.at (i := 0) rfl) ⟨p7, tp, bp, bf, rfl, e7, (rel _ _ _ _).mpr ⟨s7.to e6, ⟨kb, s7.to (s6.to e5), hkb⟩, hok⟩⟩
      · intro beh
        fail "go"
        show RngJ _ [V.int ((((N.map kV).length : Int)) + 1)] _
        have eN : (((N.map kV).length : Int)) + 1 = ((N.length + 1 : Nat) : Int) := by rw [List.length_map]; rfl
        rw [eN]
        refine l_rng (N.length + 1) (by omega) ?_
        refine for_r (fun i σ H4 => ∃ (G4 : Hp) (bf : Sh.BF Key) (kb : List (Key × V)) (x5 x6 x7 x8 x9 : Option V), Sub G1 G4 ∧ σ = [some (.ref p), some (.ref l), some (.ref tp), some (.ref bp), some (optK bf.fd), x5, x6, x7, x8, x9] ∧ Sta (· = p) none G H G4 H4 [(bp, .dK kb), (tp, .dK (tmK N bf.tm)), (p, .dT (tvl t))] ∧ (∀ k, valV kb k = (bf.bf k).map kV) ∧ KeysIn N kb ∧
          Sh.BF.At t N i bf ∧ (0 < i → ∃ x, bf.fd = some x)) ⟨G2, .init, [], none, none, none, none, none, s2, rfl, S3, fun _ => rfl, .nil N, .inl ⟨rfl, rfl⟩, fun z => absurd z (by decide)⟩ (fun σ H4 h => ?_) (fun i σ H4 hi h => ?_)
        · obtain ⟨G4, bf, kb, x5, x6, x7, x8, x9, s4, rfl, S4, hkb, hki, hat, hfd⟩ := h
          refine beh _ _ ⟨G4, bf, kb, x5, x6, x7, x8, x9, s4, rfl, S4, hkb, .inr ⟨hfd (Nat.succ_pos _), ?_⟩⟩
          rcases hat with ⟨z, _⟩ | h
          · exact absurd z (Nat.succ_ne_zero _)
          · exact h
        · obtain ⟨G4, bf, kb, x5, x6, x7, x8, x9, s4, rfl, S4, hkb, hki, hat, hfd⟩ := h
          have ok0 := hat.turn
          fail "go"
          refine x_sqL ?_
          refine xs_lockS S4 2 rfl trivial fun od H5 S5 => ?_
          fail "go"
          refine x_iItT ?_
          fail "go"
          refine ⟨p, od, tvl t, rfl, S5.at (i := 2) rfl, ?_⟩
          have tl : (tvl t).length = t.length := by unfold tvl; rw [List.length_map]
          refine for_iT (fun j σ H6 => ∃ (G6 : Hp) (b6 : Sh.BF Key) (kb : List (Key × V)) (x6 x7 x8 : Option V), Sub G1 G6 ∧ σ = [some (.ref p), some (.ref l), some (.ref tp), some (.ref bp), some (optK b6.fd), some (.int (0 + (i : Int))), x6, x7, x8, x9] ∧ Sta (· = p) none G H G6 H6 [(bp, .dK kb), (tp, .dK (tmK N b6.tm)), (p, .frz od (.dT (tvl t)))] ∧ (∀ k, valV kb k = (b6.bf k).map kV) ∧ KeysIn N kb ∧
            Sh.BF.Ok t N (i + 1) (t.take j) (t.drop j) b6) ⟨G4, bf.clear, kb, x6, x7, x8, s4, rfl, S5, hkb, hki, ok0⟩ (fun j σ H6 h => ?_) (fun σ H6 h => ?_) (fun j k v pq T1 σ H6 H7 hj h hpq hT e9 => ?_)
          · obtain ⟨G6, b6, kb, x6, x7, x8, s6, rfl, S6, _⟩ := h
            exact S6.at (i := 2) rfl
          · obtain ⟨G6, b6, kb, x6, x7, x8, s6, rfl, S6, hkb, hki, ok6⟩ := h
            rw [tl, List.take_of_length_le (Nat.le_refl _), List.drop_of_length_le (Nat.le_refl _)] at ok6
            refine lk_end S6 2 rfl pln_dT fun H7 S7 => ?_
            fail "go"
            refine l_ifd (fun z => ?_) (fun z => ?_)
            · fail "go"
              have z := optK_non.mp z
              exact beh _ _ ⟨G6, b6, kb, _, _, _, _, _, s6, rfl, S7, hkb, .inl ⟨z, _, ok6⟩⟩
            · fail "go"
              refine ⟨G6, b6, kb, _, _, _, _, _, s6, rfl, S7, hkb, hki, .inr ok6, fun _ => ?_⟩
              cases e : b6.fd with
              | none => exact absurd (optK_non.mpr e) z
              | some x => exact ⟨x, rfl⟩
          · obtain ⟨G6, b6, kb, x6, x7, x8, s6, rfl, S6, hkb, hki, ok6⟩ := h
            have hjl : j < t.length := by have := (List.getElem?_eq_some_iff.mp hj).1; omega
            have ge : (tvl t)[j]? = some ([t[j].1.1, t[j].1.2], V.int t[j].2) := by unfold tvl; rw [List.getElem?_map, List.getElem?_eq_getElem hjl]; rfl
            rw [ge] at hj
            cases hj
            have tk : t.take (j + 1) = t.take j ++ [t[j]] := by rw [List.take_add_one, List.getElem?_eq_getElem hjl]; rfl
            have td : t.drop j = t[j] :: t.drop (j + 1) := List.drop_eq_getElem_cons hjl
            have hm : t[j] ∈ t := List.getElem_mem hjl
            obtain ⟨m1, m2⟩ := nm _ hm
            rw [td] at ok6
            have ok7 := ok6.step (Nat.succ_pos i) hm m1 m2
            rw [tk]
            have hne : pq ≠ T1 := ne_of_none hpq hT
            have hpq7 : H7 pq = some (.tup [kV t[j].1.1, kV t[j].1.2]) := by rw [e9, upd_ne hne]; exact hpq
            obtain ⟨G7, s7, S7, e7⟩ := S6.newE hT e9
            generalize t[j] = e at hpq7 e7 m1 m2 ok7 hm
            obtain ⟨⟨a, b⟩, d⟩ := e
            dsimp only at hpq7 e7 m1 m2
            refine x_gTup (S7.isin e7) rfl ?_
            fail "go"
            have tml : ∀ f : Key → Int, (tmK N f).length = N.length := fun f => by unfold tmK; rw [List.length_map]
            have kl := hki.len
            refine l_dgK (k := a) (S7.at (i := 1) rfl) (tmK_get m1) ?_
            fail "go"
            refine l_dgK (k := b) (S7.at (i := 1) rfl) (tmK_get m2) ?_
            fail "go"
            refine l_ifd (fun z => ?_) (fun z => ?_)
            · have st : Sh.BF.step i.succ b6 ((a, b), d) = ⟨Sh.upf b6.tm b (b6.tm a + d), Sh.upf b6.bf b (some a), some b, Sh.upf b6.ch b i.succ, Sh.upf b6.ts b (b6.ck + 1), b6.ck + 1⟩ := if_pos z
              rw [st] at ok7
              fail "go"
              refine l_dgK (k := a) (S7.at (i := 1) rfl) (tmK_get m1) ?_
              fail "go"
              refine ls_putK (k := b) S7 1 rfl (by rw [tml]; omega) fun H8 S8 => ?_
              rw [tmK_put m2] at S8
              fail "go"
              refine ls_putK (k := b) S8 0 rfl (by omega) fun H9 S9 => ?_
              fail "go"
              refine ⟨G7, (⟨Sh.upf b6.tm b (b6.tm a + d), Sh.upf b6.bf b (some a), some b, Sh.upf b6.ch b i.succ, Sh.upf b6.ts b (b6.ck + 1), b6.ck + 1⟩ : Sh.BF Key), putK kb b (kV a), _, _, _, s6.tr s7, rfl, S9, fun k => ?_, hki.put m2 _, ok7⟩
              rw [valV_putK]
              show _ = (Sh.upf b6.bf b (some a) k).map kV
              by_cases e : k = b
              · rw [if_pos e, e, Sh.upf_same]
                rfl
              · rw [if_neg e, Sh.upf_ne _ _ e]
                exact hkb k
            · have st : Sh.BF.step i.succ b6 ((a, b), d) = b6 := if_neg z
              rw [st] at ok7
              fail "go"
              exact ⟨G7, b6, kb, _, _, _, s6.tr s7, rfl, S7, hkb, hki, ok7⟩
    · subst hv
      rw [List.getElem?_map] at hi
      obtain ⟨k, hk, rfl⟩ := Option.map_eq_some_iff.mp hi
      have hlt := (List.getElem?_eq_some_iff.mp hk).1
      fail "go"
      refine dc_in s2 S2 (by omega) (by omega) ?_
      have tk : N.take (i + 1) = N.take i ++ [k] := by rw [List.take_add_one, hk]; rfl
      rw [tk, putK_new (valV_none fun pp hp e => ?_)]
      · unfold tmK
        rw [List.map_append]
        rfl
      · obtain ⟨x, hx, rfl⟩ := List.mem_map.mp hp
        have e : x = k := e
        rw [← List.take_append_drop (i + 1) N, tk] at nn
        exact (List.nodup_append.mp (List.nodup_append.mp nn).1).2.2 x hx k (by simp) e
end
section
variable {P : Program} {w : World} {K : PySem.W.Frag} {mg : Str → Option Value} {base : Heap} [TL]
theorem ring_le {E : List (Sh.Con Key)} {N : List Key} {pre post : List (Sh.Con Key)} {s : Sh.BF Key} (k : Sh.BF.Ok E N (N.length + 1) pre post s) {x z : Key} {m : Nat} (hx : s.fd = some x) (hz : Sh.follow s.bf N.length x = some z) (hmin : ∀ j, 1 ≤ j → j < m → Sh.follow s.bf j z ≠ some z) : m ≤ N.length := by
  obtain ⟨i, d, y, h1, h2, h3, h4⟩ := k.again hx
  have e1 := Sh.follow_add s.bf x i (N.length - i)
  rw [show i + (N.length - i) = N.length by omega, h3, hz] at e1
  have e1 : Sh.follow s.bf (N.length - i) y = some z := e1.symm
  have back : Sh.follow s.bf d z = some z := by
    have a1 := Sh.follow_add s.bf y (N.length - i) d
    rw [e1] at a1
    have a2 := Sh.follow_add s.bf y d (N.length - i)
    rw [h4] at a2
    have a2 : Sh.follow s.bf (d + (N.length - i)) y = Sh.follow s.bf (N.length - i) y := a2
    have a1 : Sh.follow s.bf (N.length - i + d) y = Sh.follow s.bf d z := a1
    rw [Nat.add_comm] at a2
    rw [← a1, a2, e1]
  by_cases hm : m ≤ N.length
  · exact hm
  · exact absurd back (hmin d h1 (by omega))
def spNegRing : Sp := Mut (fun _ vs p o (t : Tb) => vs = [.ref p] ∧ o = .dT (tvl t) ∧ t.length ≤ 450) fun _ t v o' => o' = .dT (tvl t) ∧ ((v = .non ∧ ∃ r, Sh.Runs t r) ∨ (v ≠ .non ∧ ∀ r, ¬ Sh.Runs t r))
theorem ok_negative_ring (T : Txt K mg) : FnOk P w K mg base CX0 3 T.negative_ring.a T.negative_ring.fd ["table"] spNegRing := by
  refine T.negative_ring.F.ok sc_negative_ring (fun vs H Q E h => ?_) (fun cdv A outer s H vs Q E hr h => ?_)
  · obtain ⟨_, _, _, _, _, _, _, _, ⟨rfl, _⟩, _⟩ := h
    rfl
  · obtain ⟨t, G, p, o, hs, hp, hg, hpl, ⟨rfl, rfl, hl⟩, q⟩ := h
    have hu := hu_of hr
    have S := Sta.startM hs hp hg hpl
    refine ⟨_, (pss_cons (ps_asg (pe_call (ok_relaxed T) (hr.mono (by decide)) rfl T.relaxed.g T.relaxed.F.kp T.relaxed.b .nil pass0 (pa_cons (pv 0) pa_nil)) (y_gTup (K := K) (n := 3) rfl rfl (pgs_cons (pg_name (i := 1) sc_negative_ring.nd rfl (Or.inl rfl)) (pgs_cons (pg_name (i := 2) sc_negative_ring.nd rfl (Or.inl rfl)) (pgs_cons (pg_name (i := 3) sc_negative_ring.nd rfl (Or.inl rfl)) pgs_nil)))))
  (pss_cons (ps_if (pt_cmpR k_isN (pv 3) pe_non (nomark _))
  (pss_one (ps_ret pe_non))
  pss_nil)
  (pss_cons (ps_for PassesOwn.never rfl (pi_range1 rfl T.z_range (pa_cons (pe_callB k_lenD rfl T.z_len (by decide +kernel) (pa_cons (pv 1) pa_nil)) pa_nil)) (pg_name (i := 4) sc_negative_ring.nd rfl (Or.inl rfl))
  (pss_one (ps_set (i := 3) sc_negative_ring.nd rfl (Or.inl rfl) (pe_dget hu (pv 2) (pv 3) (fun _ _ => rfl)))))
  (pss_cons (ps_set (i := 5) sc_negative_ring.nd rfl (Or.inl rfl) (pe_lst (pa_cons (pv 3) pa_nil)))
  (pss_cons (ps_while PassesOwn.never (pt_cmpR op_ne (pe_dget hu (pv 2) (pe_ix (y_ixL (K := K) rfl) (pv 5) (pe_un un_neg pe_int) (fun _ _ => rfl)) (fun _ _ => rfl)) (pv 3) (nomark _))
  (pss_one (ps_expr (y_app (K := K) rfl (pv 5) (pa_cons (pe_dget hu (pv 2) (pe_ix (y_ixL (K := K) rfl) (pv 5) (pe_un un_neg pe_int) (fun _ _ => rfl)) (fun _ _ => rfl)) pa_nil)))))
  (pss_one (ps_ret (pe_callTy (y_tup (K := K) rfl) rfl T.z_tuple (by decide +kernel) (pa_cons (y_rev (K := K) rfl (pv 5)) pa_nil))))))))), ?_⟩
    fail "go"
    refine c_mut S 0 rfl t ⟨rfl, rfl, hl⟩ fun G1 H1 v1 o1 s1 S1 w1 => ?_
    obtain ⟨rfl, a, tp, bp, bf, rfl, ea, ra⟩ := w1
    obtain ⟨etp, ⟨kb, ebp, hkb⟩, ok⟩ := ra
    have nl := nodes_len t
    generalize nodesOf t = N at etp ok nl
    refine x_gTup (S1.isin ea) rfl ?_
    fail "go"
    refine x_seq ?_
    fail "go"
    rcases ok with ⟨hf, r, ok⟩ | ⟨⟨x, hx⟩, ok⟩
    · refine l_ifd (fun _ => ?_) (fun z => absurd (optK_non.mpr hf) z)
      fail "go"
      exact q _ _ _ _ S1.go (S1.at (i := 0) rfl) pln_dT ⟨rfl, .inl ⟨rfl, _, ok.run hf⟩⟩
    · refine l_ifd (fun z => absurd (optK_non.mp z) (by rw [hx]; exact fun z => nomatch z)) (fun _ => ?_)
      rw [hx]
      obtain ⟨z, m, hz, hm1, hmz, hmin, hall⟩ := ok.ring hx
      have nor := ok.norun hx
      have chain := ok.chain hx
      have hml := ring_le ok hx hz hmin
      clear ok hmin
      fail "go"
      have tml : (tmK N bf.tm).length = N.length := by unfold tmK; rw [List.length_map]
      rw [tml]
      refine l_rng N.length (by omega) ?_
      refine for_r (fun i σ H4 => ∃ (u : Key) (x4 : Option V), σ = [some (.ref p), some (.ref tp), some (.ref bp), some (kV u), x4, none] ∧ Sta (· = p) none G H G1 H4 [(p, .dT (tvl t))] ∧ Sh.follow bf.bf i x = some u) ⟨x, none, rfl, S1, rfl⟩ (fun σ H4 h => ?_) (fun i σ H4 hi h => ?_)
      · obtain ⟨u, x4, rfl, S4, hu4⟩ := h
        rw [hz] at hu4
        cases hu4
        fail "go"
        refine n_own S4 fun p5 H5 S5 => ?_
        fail "go"
        refine while_n (fun k σ H6 => ∃ (j : Nat) (u : Key) (xs : List V), j + 1 + k = m ∧ Sh.follow bf.bf j z = some u ∧ xs.length = j ∧ σ = [some (.ref p), some (.ref tp), some (.ref bp), some (kV z), x4, some (.ref p5)] ∧ Sta (· = p) none G H G1 H6 [(p5, .lst (xs ++ [kV u])), (p, .dT (tvl t))]) (m - 1) ⟨0, z, [], by omega, rfl, rfl, rfl, S5⟩ fun k σ H6 h => ?_
        obtain ⟨j, u, xs, hk, hu4, hxs, rfl, S6⟩ := h
        obtain ⟨u', hu'⟩ := hall (j + 1) (by omega)
        have hb : bf.bf u = some u' := by
          have : Sh.follow bf.bf (j + 1) z = (Sh.follow bf.bf j z).bind bf.bf := rfl
          rw [hu', hu4] at this
          exact this.symm
        have hget : valV kb u = some (kV u') := by rw [hkb, hb]; rfl
        fail "go"
        refine l_ixL (S6.at (i := 0) rfl) (atI_last xs (kV u)) ?_
        refine l_dgK (k := u) (v := kV u') (S6.isin ebp) hget ?_
        fail "go"
        refine l_ne scal_kV ?_
        fail "go"
        refine l_ifn (fun hne => ?_) (fun he => ?_)
        · have hne : u' ≠ z := fun e => hne (by rw [e])
          have hjm : j + 1 ≠ m := fun e => hne (by rw [e, hmz] at hu'; exact (Option.some.inj hu').symm)
          fail "go"
          refine l_ixL (S6.at (i := 0) rfl) (atI_last xs (kV u)) ?_
          refine l_dgK (k := u) (v := kV u') (S6.isin ebp) hget ?_
          fail "go"
          refine ls_app S6 0 rfl (by rw [List.length_append, hxs]; show j + 1 ≤ 1000; omega) fun H7 S7 => ?_
          exact ⟨k - 1, by omega, j + 1, u', xs ++ [kV u], by omega, hu', by rw [List.length_append, hxs]; rfl, rfl, S7⟩
        · fail "go"
          refine ⟨p5, _, rfl, SqL.of (S6.at (i := 0) rfl), ?_⟩
          refine n_fix S6 fun p8 G8 H8 s8 S8 e8 => ?_
          fail "go"
          refine n_fix S8 fun p9 G9 H9 s9 S9 e9 => ?_
          exact q _ _ _ _ S9.go (S9.at (i := 1) rfl) pln_dT ⟨rfl, .inr ⟨fun z => (nomatch z), nor⟩⟩
      · obtain ⟨u, x4, rfl, S4, hu4⟩ := h
        obtain ⟨u', hu', _⟩ := chain (i + 1) (by omega)
        have hb : bf.bf u = some u' := by
          have : Sh.follow bf.bf (i + 1) x = (Sh.follow bf.bf i x).bind bf.bf := rfl
          rw [hu', hu4] at this
          exact this.symm
        fail "go"
        refine l_dgK (k := u) (v := kV u') (S4.isin ebp) (by rw [hkb, hb]; rfl) ?_
        fail "go"
        exact ⟨u', _, rfl, S4, hu'⟩
end
section
variable {P : Program} {w : World} {K : PySem.W.Frag} {mg : Str → Option Value} {base : Heap} [TL]
theorem l_doK {a : Addr} {kvs : List (Key × V)} {k : Key} {H : Hp} {R : Option V → Prop} (h : H a = some (.dK kvs)) (q : R (valV kvs k)) : ∃ a' o, V.ref a = .ref a' ∧ DGet H a' (kV k) o ∧ R o := ⟨a, _, rfl, DGet.k (k := k) h, q⟩
structure FarAt (G : Hp) (f : Key → Option Int) (l : Addr) : Prop where
  at_ : ∃ kvs, G l = some (.dK kvs) ∧ ∀ k, valV kvs k = (f k).map V.int
def spFarthest : Sp := Mut (fun _ vs p o (x : Tb × Key) => vs = [.ref p, kV x.2] ∧ o = .dT (tvl x.1) ∧ x.1.length ≤ 450 ∧ ∃ r, Sh.Runs x.1 r) fun G x v o' => o' = .dT (tvl x.1) ∧ ∃ l f, v = .ref l ∧ FarAt G f l ∧ Sh.Far x.1 x.2 f
theorem ok_farthest (T : Txt K mg) : FnOk P w K mg base CX0 1 T.farthest.a T.farthest.fd ["table", "begin"] spFarthest := by
  refine T.farthest.F.ok sc_farthest (fun vs H Q E h => ?_) (fun cdv A outer s H vs Q E hr h => ?_)
  · obtain ⟨_, _, _, _, _, _, _, _, ⟨rfl, _⟩, _⟩ := h
    rfl
  · obtain ⟨⟨t, b0⟩, G, p, o, hs, hp, hg, hpl, ⟨rfl, rfl, hl, r, hr0⟩, q⟩ := h
    dsimp only at hl hr0 q
    have hu := hu_of hr
    have S := Sta.startM hs hp hg hpl
    have nl := nodes_len t
    have nm : ∀ e ∈ t, e.1.2 ∈ b0 :: nodesOf t := fun e he => List.mem_cons_of_mem _ (nodes_mem.mpr ⟨e, he, .inr rfl⟩)
    obtain ⟨K0, hK⟩ := Sh.far_stops hr0 b0
    have done : ∀ k, (Sh.fpass t (Sh.fseq t (Sh.fstart b0) k)).2 = true → Sh.Far t b0 (Sh.fseq t (Sh.fstart b0) (k + 1)) := fun k h => Sh.far_done hr0 h
    clear hr0
    generalize hN : b0 :: nodesOf t = N at nm
    have nl2 : N.length ≤ 901 := by rw [← hN, List.length_cons]; omega
    have nb : b0 ∈ N := by rw [← hN]; exact List.mem_cons_self
    have tl : (tvl t).length = t.length := by unfold tvl; rw [List.length_map]
    refine ⟨_, (pss_cons (ps_par (i := 2) (j := 3) rfl sc_farthest.nd rfl rfl (by decide) rfl rfl (pa_cons (pe_disp (pps_cons (pv 1) pe_int pps_nil) (by rfl) (by rfl) (fun z => by cases z) (by decide)) (pa_cons pe_bl pa_nil)) (by rfl))
  (pss_cons (ps_while PassesOwn.never (pt_not (pt_val (pv 3)))
  (pss_cons (ps_set (i := 3) sc_farthest.nd rfl (Or.inl rfl) pe_bl)
  (pss_one (ps_lock (ps_for PassesOwn.never rfl (pi_itemsT (pv 0)) (y_gTup (K := K) (n := 2) rfl rfl (pgs_cons (y_gTup (K := K) (n := 2) rfl rfl (pgs_cons (pg_name (i := 4) sc_farthest.nd rfl (Or.inl rfl)) (pgs_cons (pg_name (i := 5) sc_farthest.nd rfl (Or.inl rfl)) pgs_nil))) (pgs_cons (pg_name (i := 6) sc_farthest.nd rfl (Or.inl rfl)) pgs_nil)))
  (pss_one (ps_if (PW.pt (pw_and (pt_cmp (pc_din hu (pv 4) (pv 2))) (pw_and1 (PW.pt (pw_or (pt_cmp (pc_dnotin hu (pv 5) (pv 2))) (pw_or1 (pt_cmpR op_lt (pe_op op_add (pe_dget hu (pv 2) (pv 4) (fun _ _ => rfl)) (pv 6)) (pe_dget hu (pv 2) (pv 5) (fun _ _ => rfl)) (nomark _))))))))
  (pss_cons (ps_dput hu (pv 2) (pv 5) (pe_op op_add (pe_dget hu (pv 2) (pv 4) (fun _ _ => rfl)) (pv 6)) rfl)
  (pss_one (ps_set (i := 3) sc_farthest.nd rfl (Or.inl rfl) pe_bl)))
  pss_nil)))))))
  (pss_one (ps_ret (pv 2))))), ?_⟩
    fail "go"
    refine xs_disp S fun p1 H1 S1 => ?_
    refine x_pair ?_
    fail "go"
    refine x_pair0 ?_
    refine ls_disp [(b0, .int 0)] S1 0 rfl rfl (Nat.le_of_ble_eq_true rfl) fun H2 S2 => ?_
    fail "go"
    refine while_n (fun m σ H3 => ∃ (G3 : Hp) (kvs : List (Key × V)) (f : Key → Option Int) (fl : Bool) (x4 x5 x6 : Option V), Sub G G3 ∧ σ = [some (.ref p), some (kV b0), some (.ref p1), some (.bl fl), x4, x5, x6] ∧ Sta (· = p) none G H G3 H3 [(p1, .dK kvs), (p, .dT (tvl t))] ∧ (∀ k, valV kvs k = (f k).map V.int) ∧ KeysIn N kvs ∧
      ((fl = false ∧ ∃ i, i + m = K0 + 1 ∧ 0 < m ∧ f = Sh.fseq t (Sh.fstart b0) i) ∨ (fl = true ∧ Sh.Far t b0 f))) (K0 + 1) ⟨G, [(b0, .int 0)], Sh.fstart b0, false, none, none, none, Sub.rfl' _, rfl, S2, ?_, ?_, .inl ⟨rfl, 0, by omega, by omega, rfl⟩⟩ fun m σ H3 h => ?_
    · intro k
      unfold Sh.fstart
      by_cases e : k = b0
      · rw [if_pos e, e]
        exact valV_pos rfl
      · rw [if_neg e]
        exact valV_neg fun z => e z.symm
    · exact ⟨by simp, fun k hk => by rw [List.mem_singleton.mp hk]; exact nb⟩
    · obtain ⟨G3, kvs, f, fl, x4, x5, x6, s3, rfl, S3, hkv, hki, hst⟩ := h
      fail "go"
      rcases hst with ⟨rfl, i, him, hm0, hf⟩ | ⟨rfl, hfar⟩
      · fail "go"
        refine xs_lockS S3 1 rfl trivial fun od H4 S4 => ?_
        fail "go"
        refine x_iItT ?_
        fail "go"
        refine ⟨p, od, tvl t, rfl, S4.at (i := 1) rfl, ?_⟩
        refine for_iT (fun j σ H6 => ∃ (G6 : Hp) (kvs : List (Key × V)) (st : Sh.FSt Key) (x4 x5 x6 : Option V), Sub G G6 ∧ σ = [some (.ref p), some (kV b0), some (.ref p1), some (.bl st.2), x4, x5, x6] ∧ Sta (· = p) none G H G6 H6 [(p1, .dK kvs), (p, .frz od (.dT (tvl t)))] ∧ (∀ k, valV kvs k = (st.1 k).map V.int) ∧ KeysIn N kvs ∧
          st = (t.take j).foldl Sh.fstep (f, true)) ⟨G3, kvs, (f, true), x4, x5, x6, s3, rfl, S4, hkv, hki, rfl⟩ (fun j σ H6 h => ?_) (fun σ H6 h => ?_) (fun j k v pq T1 σ H6 H7 hj h hpq hT e9 => ?_)
        · obtain ⟨G6, kvs, st, x4, x5, x6, s6, rfl, S6, _⟩ := h
          exact S6.at (i := 1) rfl
        · clear hkv hki
          obtain ⟨G6, kvs, st, x4, x5, x6, s6, rfl, S6, hkv, hki, hst⟩ := h
          rw [tl, List.take_of_length_le (Nat.le_refl _)] at hst
          refine lk_end S6 1 rfl pln_dT fun H7 S7 => ?_
          have hst : st = Sh.fpass t f := hst
          subst hf
          have e1 : st.1 = Sh.fseq t (Sh.fstart b0) (i + 1) := by rw [hst]; rfl
          cases hb : st.2 with
          | true =>
            refine ⟨0, by omega, G6, kvs, st.1, true, x4, x5, x6, s6, rfl, S7, hkv, hki, .inr ⟨rfl, ?_⟩⟩
            rw [e1]
            exact done i (by rw [← hst]; exact hb)
          | false =>
            have hne : i ≠ K0 := fun e => by rw [hst, e, hK] at hb; cases hb
            exact ⟨m - 1, by omega, G6, kvs, st.1, false, x4, x5, x6, s6, rfl, S7, hkv, hki, .inl ⟨rfl, i + 1, by omega, by omega, e1⟩⟩
        · obtain ⟨G6, kvs, st, x4, x5, x6, s6, rfl, S6, hkv, hki, hst⟩ := h
          have hjl : j < t.length := by have := (List.getElem?_eq_some_iff.mp hj).1; omega
          have ge : (tvl t)[j]? = some ([t[j].1.1, t[j].1.2], V.int t[j].2) := by unfold tvl; rw [List.getElem?_map, List.getElem?_eq_getElem hjl]; rfl
          rw [ge] at hj
          cases hj
          have tk : (t.take (j + 1)).foldl Sh.fstep (f, true) = Sh.fstep st t[j] := by rw [List.take_add_one, List.getElem?_eq_getElem hjl, List.foldl_append, hst]; rfl
          have m2 := nm t[j] (List.getElem_mem hjl)
          have hne : pq ≠ T1 := ne_of_none hpq hT
          have hpq7 : H7 pq = some (.tup [kV t[j].1.1, kV t[j].1.2]) := by rw [e9, upd_ne hne]; exact hpq
          obtain ⟨G7, s7, S7, e7⟩ := S6.newE hT e9
          rw [tk]
          clear tk hst
          generalize t[j] = e at hpq7 e7 m2
          obtain ⟨⟨a, b⟩, d⟩ := e
          dsimp only at hpq7 e7 m2
          obtain ⟨sf, sb⟩ := st
          dsimp only at hkv
          refine x_gTup (S7.isin e7) rfl ?_
          fail "go"
          refine l_doK (k := a) (S7.at (i := 0) rfl) ?_
          rw [hkv]
          have kl := hki.len
          have hget : ∀ (c : Key) (n : Int), sf c = some n → valV kvs c = some (.int n) := fun c n h => by rw [hkv, h]; rfl
          cases ha : sf a with
          | none =>
            have st : Sh.fstep (sf, sb) ((a, b), d) = (sf, sb) := by unfold Sh.fstep; simp only [ha]
            rw [st]
            show ∃ k, V.bl false = V.bl k ∧ _
            fail "go"
            exact ⟨G7, kvs, (sf, sb), _, _, _, s6.tr s7, rfl, S7, hkv, hki, rfl⟩
          | some da =>
            have st : Sh.fstep (sf, sb) ((a, b), d) = if Sh.fbetter (sf b) (da + d) = true then (Sh.upf sf b (some (da + d)), false) else (sf, sb) := by unfold Sh.fstep; simp only [ha]
            rw [st]
            show ∃ k, V.bl true = V.bl k ∧ _
            have new : ∀ k, valV (putK kvs b (.int (da + d))) k = (Sh.upf sf b (some (da + d)) k).map V.int := fun k => by
              rw [valV_putK]
              by_cases e : k = b
              · rw [if_pos e, e, Sh.upf_same]
                rfl
              · rw [if_neg e, Sh.upf_ne _ _ e]
                exact hkv k
            fail "go"
            refine l_doK (k := b) (S7.at (i := 0) rfl) ?_
            rw [hkv]
            cases hb : sf b with
            | none =>
              rw [if_pos (show Sh.fbetter none (da + d) = true from rfl)]
              show ∃ k, V.bl true = V.bl k ∧ _
              fail "go"
              refine l_dgK (k := a) (S7.at (i := 0) rfl) (hget a da ha) ?_
              fail "go"
              refine ls_putK (k := b) S7 0 rfl (by omega) fun H8 S8 => ?_
              fail "go"
              exact ⟨G7, putK kvs b (.int (da + d)), (Sh.upf sf b (some (da + d)), false), _, _, _, s6.tr s7, rfl, S8, new, hki.put m2 _, rfl⟩
            | some db =>
              show ∃ k, V.bl false = V.bl k ∧ _
              fail "go"
              refine l_dgK (k := a) (S7.at (i := 0) rfl) (hget a da ha) ?_
              fail "go"
              refine l_dgK (k := b) (S7.at (i := 0) rfl) (hget b db hb) ?_
              fail "go"
              refine l_ifd (fun z => ?_) (fun z => ?_)
              · rw [if_pos (show Sh.fbetter (some db) (da + d) = true from decide_eq_true z)]
                fail "go"
                refine l_dgK (k := a) (S7.at (i := 0) rfl) (hget a da ha) ?_
                fail "go"
                refine ls_putK (k := b) S7 0 rfl (by omega) fun H8 S8 => ?_
                fail "go"
                exact ⟨G7, putK kvs b (.int (da + d)), (Sh.upf sf b (some (da + d)), false), _, _, _, s6.tr s7, rfl, S8, new, hki.put m2 _, rfl⟩
              · rw [if_neg (show ¬ Sh.fbetter (some db) (da + d) = true from fun h => z (of_decide_eq_true h))]
                fail "go"
                exact ⟨G7, kvs, (sf, sb), _, _, _, s6.tr s7, rfl, S7, hkv, hki, rfl⟩
      · fail "go"
        obtain ⟨G4, s4, S4, e4⟩ := S3.fixM 0 rfl (fun z => S3.ne (i := 0) (j := 1) rfl rfl (by decide) z)
        exact q _ _ _ _ S4.go (S4.at (i := 0) rfl) pln_dT ⟨rfl, p1, f, rfl, ⟨kvs, e4, hkv⟩, hfar⟩
end
section
variable {P : Program} {w : World} {K : PySem.W.Frag} {mg : Str → Option Value} {base : Heap} [TL]
def lamQ (x : Str) : Str := (x ++ ".<locals>.") ++ "<lambda>"
structure FunC (K : PySem.W.Frag) (x qual : Str) (st : Stmt) (f : Addr) (fd : FuncData) (c : Addr) : Prop where
  ex : ∃ (oc : Value) (od : Option Addr) (kV doc pm : Value) (an : Option Addr) (ct : Value) (osl : Array (Option Value)),
    fd = PySem.W.fnOf x qual (defArgs st) (defBody st) (defScope st) .none kV doc pm an (.ref c) ct ∧ K.lookup f = some ⟨oc, od, .func fd, osl⟩ ∧ PySem.W.codeIn K (.ref c) qual = true
theorem FunC.ok {x qual : Str} {st : Stmt} {f c : Addr} {fd : FuncData} {N ps : List Str} {k : Nat} {sp : Sp} (F : FunC K x qual st f fd c) (S : FnScope N ps (defScope st)) (len : ∀ vs H Q E, sp vs H Q E → vs.length = ps.length)
    (hbody : ∀ (A : Around) (outer : List Env) (s : Shared) (H : Hp) (vs : List V) (Q : VK) (E : XK), Room k (A.deeper (PyProof.Rows.envOfC qual (defScope st) s.heap.objs.size f (.ref c))) → sp vs H Q E →
      ∃ t, PSs (cxOf CX0 P w K mg base N qual (defScope st) f (.ref c) A outer s H E).nox (defBody st) t ∧ t { nx := fun _ H' => Q .non H', rt := Q } (L2.start N vs) H) : FnOk P w K mg base CX0 (k + 1) f fd ps sp := by
  obtain ⟨oc, od, kV, doc, pm, an, ct, osl, rfl, lk, hcd⟩ := F.ex
  refine fn_of lk hcd S len fun A outer s H vs Q E hr hsp => ?_
  obtain ⟨t, h, q⟩ := hbody A outer s H vs Q E hr hsp
  exact ⟨t, h.nox, q⟩
structure TxtL (T : Txt K mg) (base : Heap) where
  c1 : Addr
  P1 : Addr
  c2 : Addr
  P2 : Addr
  js : FunC K "joined_spans" "joined_spans" s_joined_spans T.joined_spans.a T.joined_spans.fd c1
  ls : FunC K "_law_steps" "_law_steps" s_law_steps T.law_steps.a T.law_steps.fd c2
  t1 : LamX.TabB base mg c1 P1
  t2 : LamX.TabB base mg c2 P2
  m1 : (P1, lamQ "joined_spans") ∈ TL.lt
  u1 : ∀ p ∈ TL.lt, p.1 = P1 → p.2 = lamQ "joined_spans"
  m2 : (P2, lamQ "_law_steps") ∈ TL.lt
  u2 : ∀ p ∈ TL.lt, p.1 = P2 → p.2 = lamQ "_law_steps"
theorem x_sortK {Item : Hp → V → PyData → Prop} {te : TE} {σ : L2.St} {H : Hp} {Q : VK} (h : te σ H fun x H1 => rSortK Item x H1 Q) : tSortK Item te σ H Q := h
def spJoinedSp : Sp := PurH (fun G H vs (l : List Sh.Span) => (∃ v, vs = [v] ∧ Rep G (dSpans l) v) ∧ l.length ≤ 1 ∧ TabOk G H) fun G _ l v => Rep G (dSpans l) v
theorem ok_joined_spans (T : Txt K mg) (X1 : TxtL T base) : FnOk P w K mg base CX0 2 T.joined_spans.a T.joined_spans.fd ["spans"] spJoinedSp := by
  refine X1.js.ok sc_joined_spans (fun vs H Q E h => ?_) (fun A outer s H vs Q E hr h => ?_)
  · obtain ⟨_, _, _, ⟨⟨_, rfl, _⟩, _⟩, _⟩ := h
    rfl
  · obtain ⟨l, G, hs, ⟨⟨v, rfl, rv⟩, hl, ht⟩, q⟩ := h
    have hu := hu_of hr
    have S := Sta.start hs
    obtain ⟨a, xs, rfl, ea, rx⟩ := rv
    have lx : xs.length = l.length := by have := rx.len; rw [List.length_map] at this; exact this
    refine ⟨_, (pss_cons (ps_setLc (i := 3) (own := [("low", 1), ("high", 2)]) rfl sc_joined_spans.nd rfl rfl (sw_true rfl rfl rfl (by decide +kernel)) (y_iL (K := K) rfl (pv 0)) (blkOk_by (own := [("low", 1), ("high", 2)]) (N := n_joined_spans) (sc := defScope s_joined_spans) (by decide +kernel)) (fun _ _ _ _ _ => (y_gTup (K := K) (n := 2) rfl rfl (pgs_cons (pg_name (i := 1) sc_joined_spans.nd rfl (Or.inl rfl)) (pgs_cons (pg_name (i := 2) sc_joined_spans.nd rfl (Or.inl rfl)) pgs_nil)))) (fun _ _ _ _ _ => (pts_one (pt_cmpR k_isN (pv 1) pe_non (nomark _)))) (fun _ _ _ _ _ => (pv 2)))
  (pss_cons (ps_set (i := 4) sc_joined_spans.nd rfl (Or.inl rfl) (pe_sortK rfl T.z_sorted (pe_lc (own := [("span", 6)]) rfl sc_joined_spans.nd (y_iL (K := K) rfl (pv 0)) (blkOk_by (own := [("span", 6)]) (N := n_joined_spans) (sc := defScope s_joined_spans) (by decide +kernel)) (fun _ _ _ _ _ => (pg_name (i := 6) sc_joined_spans.nd rfl (Or.inl rfl))) (fun _ _ _ _ _ => (pts_one (pt_cmpR k_notN (pe_ix (y_ixT (K := K) rfl) (pv 6) pe_int (fun _ _ => rfl)) pe_non (nomark _)))) (fun _ _ _ _ _ => (pv 6))) rfl (hr.mono (by decide)) X1.t1 rfl X1.m1 X1.u1 (keyLam0 ⟨by decide, by decide, rfl, rfl, rfl, rfl, fun _ => rfl, rfl⟩ fun _ _ _ _ _ _ => rfl)))
  (pss_cons (ps_set (i := 5) sc_joined_spans.nd rfl (Or.inl rfl) (pe_lst pa_nil))
  (pss_cons (ps_if (pt_cmpR (y_neD (K := K) rfl hr.units) (pv 3) (pe_lst pa_nil) (nomark _))
  (pss_one (ps_expr (y_app (K := K) rfl (pv 5) (pa_cons (pe_tup (pa_cons pe_non (pa_cons (pe_ifExp (pt_cmpR (y_in (K := K) rfl) pe_non (pv 3) rfl) pe_non (pe_callB (y_max (K := K) rfl rfl) rfl T.z_max (by decide +kernel) (pa_cons (pv 3) pa_nil))) pa_nil))) pa_nil))))
  pss_nil)
  (pss_cons (ps_for PassesOwn.never rfl (y_iL (K := K) rfl (pv 4)) (y_gTup (K := K) (n := 2) rfl rfl (pgs_cons (pg_name (i := 1) sc_joined_spans.nd rfl (Or.inl rfl)) (pgs_cons (pg_name (i := 2) sc_joined_spans.nd rfl (Or.inl rfl)) pgs_nil)))
  (pss_one (ps_if (PW.pt (pw_or (pt_cmpR (y_eqD (K := K) rfl hr.units) (pv 5) (pe_lst pa_nil) (nomark _)) (pw_or1 (PW.pt (pw_and (pt_cmpR k_notN (pe_ix (y_ixT (K := K) rfl) (pe_ix (y_ixL (K := K) rfl) (pv 5) (pe_un un_neg pe_int) (fun _ _ => rfl)) pe_int (fun _ _ => rfl)) pe_non (nomark _)) (pw_and1 (pt_cmpR op_lt (pe_op op_add (pe_ix (y_ixT (K := K) rfl) (pe_ix (y_ixL (K := K) rfl) (pv 5) (pe_un un_neg pe_int) (fun _ _ => rfl)) pe_int (fun _ _ => rfl)) pe_int) (pv 1) (nomark _))))))))
  (pss_one (ps_expr (y_app (K := K) rfl (pv 5) (pa_cons (pe_tup (pa_cons (pv 1) (pa_cons (pv 2) pa_nil))) pa_nil))))
  pss_never)))
  (pss_one (ps_ret (pv 5)))))))), ?_⟩
    fail "go"
    have got : ∀ {i : Nat} {v : V}, xs[i]? = some v → ∃ s t, l[i]? = some s ∧ v = .ref t ∧ G t = some (.tup [optV s.1, optV s.2]) := fun {i v} h => by
      obtain ⟨d, h1, h2⟩ := rx.got h
      rw [List.getElem?_map] at h1
      obtain ⟨s, h3, rfl⟩ := Option.map_eq_some_iff.mp h1
      obtain ⟨t, rfl, et⟩ := rep_span.mp h2
      exact ⟨s, t, h3, rfl, et⟩
    refine lc_l (xs := xs) S (fun i _ acc => acc = ((l.take i).filter fun s => s.1.isNone).map fun s => optV s.2) rfl (fun G1 H1 y s1 S1 => S1.isin (s1.to ea)) (fun o1 G1 H1 acc s1 S1 hl1 hv => ?_) (fun i v o1 G1 H1 acc hi s1 S1 hl1 hv => ?_)
    · rw [lx, List.take_of_length_le (Nat.le_refl _)] at hv
      fail "go"
      refine x_sortK ?_
      fail "go"
      refine lc_l (xs := xs) S1 (fun i G acc => RepL G (((l.take i).filter fun s => s.1.isSome).map dSpan) acc) rfl (fun G2 H2 y s2 S2 => S2.isin (s2.to (s1.to ea))) (fun r1 G2 H2 acc2 s2 S2 hl2 hv2 => ?_) (fun i v r1 G2 H2 acc2 hi s2 S2 hl2 hv2 => ?_)
      · rw [lx, List.take_of_length_le (Nat.le_refl _)] at hv2
        have st : ∀ (k : V → PyData) (H3 : Hp) (xs : List V), xs.length ≤ 1 → ∀ Q, New Q (.lst xs) H3 → New Q (.lst (xs.mergeSort (PySem.W.dataLe false k))) H3 := fun k H3 xs h Q q => by
          rw [perm_le1 (List.mergeSort_perm xs _) h]
          exact q
        rcases l with _ | ⟨⟨lo, hi⟩, l'⟩
        · obtain rfl : acc = [] := hv
          obtain rfl : acc2 = [] := hv2
          refine ls_sortK S2 ht (fun _ => .int 0) (S2.at (i := 0) rfl) (Nat.zero_le _) (fun y hy => nomatch hy) (fun d hd => nomatch hd) (.inl fun d hd => nomatch hd) fun H3 S3 => st _ _ _ (Nat.zero_le _) _ ?_
          refine n_fix S3 fun p4 G4 H4 s4 S4 e4 => ?_
          fail "go"
          refine n_own S4 fun p5 H5 S5 => ?_
          fail "go"
          refine x_seq ?_
          fail "go"
          refine n_fix S5 fun p6 G6 H6 s6 S6 e6 => ?_
          refine ls_neNil S6 (S6.at (i := 2) rfl) (ds := []) rfl rfl (Nat.zero_le _) (S6.isin e6) ?_
          fail "go"
          refine l_ifn (fun z => absurd rfl z) (fun _ => ?_)
          fail "go"
          refine for_l (xs := []) (fun i σ H7 => ∃ x1 x2, σ = [some (.ref a), x1, x2, some (.ref o1), some (.ref p4), some (.ref p5), none] ∧ Sta M0 none G H G6 H7 [(p5, .lst []), (r1, .lst []), (o1, .lst [])]) ⟨none, none, rfl, S6⟩ (fun i σ H7 h => ?_) (fun σ H7 h => ?_) (fun i v σ H7 hi h => absurd hi (by simp))
          · obtain ⟨x1, x2, rfl, S7⟩ := h
            exact S7.isin (s6.to e4)
          · obtain ⟨x1, x2, rfl, S7⟩ := h
            fail "go"
            obtain ⟨G8, s8, S8, e8⟩ := S7.fix0 0 rfl
            exact q _ _ _ S8.go ⟨p5, [], rfl, e8, rfl⟩
        · obtain rfl : l' = [] := List.eq_nil_of_length_eq_zero (by rw [List.length_cons] at hl; omega)
          cases lo with
          | none =>
            obtain rfl : acc = [optV hi] := hv
            obtain rfl : acc2 = [] := hv2
            refine ls_sortK S2 ht (fun _ => .int 0) (S2.at (i := 0) rfl) (Nat.zero_le _) (fun y hy => nomatch hy) (fun d hd => nomatch hd) (.inl fun d hd => nomatch hd) fun H3 S3 => st _ _ _ (Nat.zero_le _) _ ?_
            refine n_fix S3 fun p4 G4 H4 s4 S4 e4 => ?_
            fail "go"
            refine n_own S4 fun p5 H5 S5 => ?_
            fail "go"
            refine x_seq ?_
            fail "go"
            refine n_fix S5 fun p6 G6 H6 s6 S6 e6 => ?_
            refine ls_neNil S6 (S6.at (i := 2) rfl) (ds := [dOpt hi]) ⟨_, [], rfl, rep_opt.mpr rfl, rfl⟩ (by show ((dOpt hi).cl && Da.clL []) = true; rw [dOpt_cl]; rfl) (by simp only [Da.depL, dOpt_dep]; decide) (S6.isin e6) ?_
            rw [decide_eq_false (fun z => nomatch z)]
            fail "go"
            refine x_if ?_
            fail "go"
            refine l_in (xs := [optV hi]) (.inl (S6.at (i := 2) rfl)) rfl (by cases hi <;> rfl) ?_
            cases hi with
            | none =>
              show ∃ k, V.bl true = V.bl k ∧ _
              fail "go"
              refine n_fix S6 fun p7 G7 H7 s7 S7 e7 => ?_
              fail "go"
              refine ls_app S7 0 rfl (by decide) fun H8 S8 => ?_
              fail "go"
              refine for_l (xs := []) (fun i σ H7 => ∃ x1 x2, σ = [some (.ref a), x1, x2, some (.ref o1), some (.ref p4), some (.ref p5), none] ∧ Sta M0 none G H G7 H7 [(p5, .lst [.ref p7]), (r1, .lst []), (o1, .lst [.non])]) ⟨none, none, rfl, S8⟩ (fun i σ H7 h => ?_) (fun σ H7 h => ?_) (fun i v σ H7 hi h => absurd hi (by simp))
              · obtain ⟨x1, x2, rfl, S7⟩ := h
                exact S7.isin (s7.to (s6.to e4))
              · obtain ⟨x1, x2, rfl, S7⟩ := h
                fail "go"
                obtain ⟨G9, s9, S9, e9⟩ := S7.fix0 0 rfl
                exact q _ _ _ S9.go ⟨p5, [.ref p7], rfl, e9, _, [], rfl, rep_span.mpr ⟨p7, rfl, s9.to e7⟩, rfl⟩
            | some n =>
              show ∃ k, V.bl false = V.bl k ∧ _
              fail "go"
              refine l_maxL (ns := [n]) (S6.at (i := 2) rfl) (Nat.succ_pos 0) fun m hm _ => ?_
              obtain rfl := List.mem_singleton.mp hm
              fail "go"
              refine n_fix S6 fun p7 G7 H7 s7 S7 e7 => ?_
              fail "go"
              refine ls_app S7 0 rfl (by decide) fun H8 S8 => ?_
              fail "go"
              refine for_l (xs := []) (fun i σ H7 => ∃ x1 x2, σ = [some (.ref a), x1, x2, some (.ref o1), some (.ref p4), some (.ref p5), none] ∧ Sta M0 none G H G7 H7 [(p5, .lst [.ref p7]), (r1, .lst []), (o1, .lst [.int m])]) ⟨none, none, rfl, S8⟩ (fun i σ H7 h => ?_) (fun σ H7 h => ?_) (fun i v σ H7 hi h => absurd hi (by simp))
              · obtain ⟨x1, x2, rfl, S7⟩ := h
                exact S7.isin (s7.to (s6.to e4))
              · obtain ⟨x1, x2, rfl, S7⟩ := h
                fail "go"
                obtain ⟨G9, s9, S9, e9⟩ := S7.fix0 0 rfl
                exact q _ _ _ S9.go ⟨p5, [.ref p7], rfl, e9, _, [], rfl, rep_span.mpr ⟨p7, rfl, s9.to e7⟩, rfl⟩
          | some n =>
            obtain rfl : acc = [] := hv
            obtain ⟨v0, r0, rfl, rv0, rfl⟩ := hv2
            obtain ⟨t, rfl, et⟩ := rep_span.mp rv0
            refine ls_sortK S2 ht (fun _ => .int n) (S2.at (i := 0) rfl) (Nat.le_of_ble_eq_true rfl) (fun y hy => ?_) (fun d hd d' hd' => ?_) (.inr fun d hd => ?_) fun H3 S3 => st _ _ _ (Nat.le_refl _) _ ?_
            · rw [List.mem_singleton.mp hy]
              exact ⟨⟨t, n, [optV hi], rfl, S2.isin et, rfl⟩, by simp [PyData.depth]⟩
            · rw [List.mem_singleton.mp hd, List.mem_singleton.mp hd']
              rfl
            · rw [List.mem_singleton.mp hd]
              exact ⟨fun z => (nomatch z), fun xs z => (nomatch z)⟩
            refine n_fix S3 fun p4 G4 H4 s4 S4 e4 => ?_
            fail "go"
            refine n_own S4 fun p5 H5 S5 => ?_
            fail "go"
            refine x_seq ?_
            fail "go"
            refine n_fix S5 fun p6 G6 H6 s6 S6 e6 => ?_
            refine ls_neNil S6 (S6.at (i := 2) rfl) (ds := []) rfl rfl (Nat.zero_le _) (S6.isin e6) ?_
            fail "go"
            refine l_ifn (fun z => absurd rfl z) (fun _ => ?_)
            fail "go"
            refine for_l (xs := [.ref t]) (fun i σ H7 => ∃ G7 x1 x2, Sub G6 G7 ∧ σ = [some (.ref a), x1, x2, some (.ref o1), some (.ref p4), some (.ref p5), none] ∧ ((i = 0 ∧ Sta M0 none G H G7 H7 [(p5, .lst []), (r1, .lst [.ref t]), (o1, .lst [])]) ∨ (0 < i ∧ ∃ p7, G7 p7 = some (.tup [.int n, optV hi]) ∧ Sta M0 none G H G7 H7 [(p5, .lst [.ref p7]), (r1, .lst [.ref t]), (o1, .lst [])]))) ⟨G6, none, none, Sub.rfl' _, rfl, .inl ⟨rfl, S6⟩⟩ (fun i σ H7 h => ?_) (fun σ H7 h => ?_) (fun i v σ H7 hi7 h => ?_)
            · obtain ⟨G7, x1, x2, s7, rfl, ⟨_, S7⟩ | ⟨_, p7, e7, S7⟩⟩ := h
              · exact S7.isin (s7.to (s6.to e4))
              · exact S7.isin (s7.to (s6.to e4))
            · obtain ⟨G7, x1, x2, s7, rfl, ⟨z, S7⟩ | ⟨_, p7, e7, S7⟩⟩ := h
              · exact absurd z (Nat.succ_ne_zero 0)
              · fail "go"
                obtain ⟨G9, s9, S9, e9⟩ := S7.fix0 0 rfl
                exact q _ _ _ S9.go ⟨p5, [.ref p7], rfl, e9, _, [], rfl, rep_span.mpr ⟨p7, rfl, s9.to e7⟩, rfl⟩
            · obtain ⟨G7, x1, x2, s7, rfl, h⟩ := h
              have hlt := (List.getElem?_eq_some_iff.mp hi7).1
              obtain rfl : i = 0 := by simpa using hlt
              cases hi7
              rcases h with ⟨_, S7⟩ | ⟨z, _⟩
              · refine x_gTup (S7.isin (s7.to (s6.to (s4.to et)))) rfl ?_
                fail "go"
                refine n_fix S7 fun p8 G8 H8 s8 S8 e8 => ?_
                refine ls_eqNil S8 (S8.at (i := 0) rfl) (ds := []) rfl rfl (Nat.zero_le _) (S8.isin e8) ?_
                refine ⟨true, rfl, ?_⟩
                fail "go"
                refine n_fix S8 fun p9 G9 H9 s9 S9 e9 => ?_
                fail "go"
                refine ls_app S9 0 rfl (by decide) fun H10 S10 => ?_
                exact ⟨G9, _, _, s7.tr (s8.tr s9), rfl, .inr ⟨by decide, p9, e9, S10⟩⟩
              · exact absurd z (by decide)
      · obtain ⟨s, t, h3, rfl, et⟩ := got hi
        have tk : l.take (i + 1) = l.take i ++ [s] := by rw [List.take_add_one, h3]; rfl
        have hlt := (List.getElem?_eq_some_iff.mp h3).1
        have et2 : G2 t = _ := s2.to (s1.to et)
        fail "go"
        rw [isNon_opt]
        refine l_if (fun z => ?_) (fun z => ?_)
        · fail "go"
          have z : s.1.isSome = true := by cases e : s.1 <;> rw [e] at z <;> first | rfl | exact absurd z (by decide)
          refine lc_in s2 S2 (by omega) (by omega) ?_
          have fp : [s].filter (fun s => s.1.isSome) = [s] := by simp [z]
          rw [tk, List.filter_append, List.map_append, fp]
          exact hv2.snoc (rep_span.mpr ⟨t, rfl, et2⟩)
        · have z : ¬ s.1.isSome = true := by cases e : s.1 <;> rw [e] at z <;> simp_all
          refine lc_out s2 S2 (by omega) ?_
          have fp : [s].filter (fun s => s.1.isSome) = [] := by simpa using z
          rw [tk, List.filter_append, fp, List.append_nil]
          exact hv2
    · obtain ⟨s, t, h3, rfl, et⟩ := got hi
      have tk : l.take (i + 1) = l.take i ++ [s] := by rw [List.take_add_one, h3]; rfl
      have hlt := (List.getElem?_eq_some_iff.mp h3).1
      have et1 : G1 t = _ := s1.to et
      subst hv
      fail "go"
      rw [isNon_opt]
      refine l_if (fun z => ?_) (fun z => ?_)
      · fail "go"
        refine lc_in s1 S1 (by omega) (by omega) ?_
        have fp : [s].filter (fun s => s.1.isNone) = [s] := by simp [z]
        rw [tk, List.filter_append, List.map_append, fp]
        rfl
      · refine lc_out s1 S1 (by omega) ?_
        have fp : [s].filter (fun s => s.1.isNone) = [] := by simp [z]
        rw [tk, List.filter_append, fp, List.append_nil]
end
section
variable {P : Program} {w : World} {K : PySem.W.Frag} {mg : Str → Option Value} {base : Heap} [TL]
theorem opt_get (o : Option Int) : (o.map V.int).getD .non = optV o := by cases o <;> rfl
def fspan (x y : Key) (f g : Key → Option Int) : Sh.Span := ((g x).map (- ·), f y)
def spSpanBetween : Sp := Mut (fun _ vs p o (x : Tb × Key × Key) => vs = [.ref p, kV x.2.1, kV x.2.2] ∧ o = .dT (tvl x.1) ∧ x.1.length ≤ 450 ∧ ∃ r, Sh.Runs x.1 r) fun G x v o' => o' = .dT (tvl x.1) ∧ ∃ f g, Sh.Far x.1 x.2.1 f ∧ Sh.Far x.1 x.2.2 g ∧ Rep G (dSpan (fspan x.2.1 x.2.2 f g)) v
theorem ok_span_between (T : Txt K mg) : FnOk P w K mg base CX0 2 T.span_between.a T.span_between.fd ["table", "one", "other"] spSpanBetween := by
  refine T.span_between.F.ok sc_span_between (fun vs H Q E h => ?_) (fun cdv A outer s H vs Q E hr h => ?_)
  · obtain ⟨_, _, _, _, _, _, _, _, ⟨rfl, _⟩, _⟩ := h
    rfl
  · obtain ⟨⟨t, x, y⟩, G, p, o, hs, hp, hg, hpl, ⟨rfl, rfl, hl, hrun⟩, q⟩ := h
    dsimp only at hl hrun q
    have hu := hu_of hr
    have S := Sta.startM hs hp hg hpl
    refine ⟨_, (pss_cons (ps_par (i := 3) (j := 4) rfl sc_span_between.nd rfl rfl (by decide) rfl rfl (pa_cons (pe_dget1 hu (pe_call (ok_farthest T) (hr.mono (by decide)) rfl T.farthest.g T.farthest.F.kp T.farthest.b .nil pass0 (pa_cons (pv 0) (pa_cons (pv 1) pa_nil))) (pv 2) ⟨rfl, rfl, rfl, rfl⟩) (pa_cons (pe_dget1 hu (pe_call (ok_farthest T) (hr.mono (by decide)) rfl T.farthest.g T.farthest.F.kp T.farthest.b .nil pass0 (pa_cons (pv 0) (pa_cons (pv 2) pa_nil))) (pv 1) ⟨rfl, rfl, rfl, rfl⟩) pa_nil)) (by rfl))
  (pss_one (ps_ret (pe_tup (pa_cons (pe_ifExp (pt_cmpR k_isN (pv 4) pe_non (nomark _)) pe_non (pe_un un_neg (pv 4))) (pa_cons (pv 3) pa_nil)))))), ?_⟩
    fail "go"
    refine c_mut S 0 rfl (t, x) ⟨rfl, rfl, hl, hrun⟩ fun G1 H1 v1 o1 s1 S1 w1 => ?_
    obtain ⟨rfl, l1, f, rfl, ⟨⟨k1, e1, h1⟩⟩, far1⟩ := w1
    refine ⟨l1, rfl, .inl ⟨k1, .inl (S1.isin e1)⟩, ?_⟩
    fail "go"
    refine ⟨_, DGet.k (k := y) (S1.isin e1), ?_⟩
    rw [h1, opt_get]
    fail "go"
    refine c_mut S1 0 rfl (t, y) ⟨rfl, rfl, hl, hrun⟩ fun G2 H2 v2 o2 s2 S2 w2 => ?_
    obtain ⟨rfl, l2, g, rfl, ⟨⟨k2, e2, h2⟩⟩, far2⟩ := w2
    refine ⟨l2, rfl, .inl ⟨k2, .inl (S2.isin e2)⟩, ?_⟩
    fail "go"
    refine ⟨_, DGet.k (k := x) (S2.isin e2), ?_⟩
    rw [h2, opt_get]
    fail "go"
    refine x_if ?_
    fail "go"
    rw [isNon_opt]
    have fin : ∀ v, v = optV ((g x).map (- ·)) → New Q (.tup [v, optV (f y)]) H2 := fun v hv => n_fix S2 fun p3 G3 H3 s3 S3 e3 => q _ _ _ _ S3.go (S3.at (i := 0) rfl) pln_dT ⟨rfl, f, g, far1, far2, rep_span.mpr ⟨p3, rfl, by rw [e3, hv]; rfl⟩⟩
    refine l_if (fun z => ?_) (fun z => ?_)
    · fail "go"
      refine fin _ ?_
      cases e : g x with
      | none => rfl
      | some n => rw [e] at z; cases z
    · cases e : g x with
      | none => rw [e] at z; cases z
      | some n =>
        rw [e] at fin
        fail "go"
        refine l_U (i := n) ?_
        fail "go"
        exact fin _ rfl
def dMoms (ms : List Mom) : Da := .lst (ms.map dMom)
def spSpansBetween (T : Txt K mg) : Sp := PurH (fun G H vs (x : (HisX × List Mom) × Str × Str) => (∃ a v, vs = [.ref a, v, .str x.2.1, .str x.2.2] ∧ HisAt T G a x.1.1.1.1 x.1.1.1.2 x.1.1.2 ∧ Rep G (dMoms x.1.2) v) ∧ HisOk x.1.1 ∧ MomOk x.1.1.1.1 x.1.2 ∧ TabOk G H)
  fun G _ x v => ∃ l, Rep G (dSpans l) v ∧ ((l = [] ∧ ∀ r, ¬ Sh.Runs (ptable x.1.1.1.1 x.1.1.2 x.1.2) r) ∨ ∃ f g, Sh.Far (ptable x.1.1.1.1 x.1.1.2 x.1.2) (.inr x.2.1) f ∧ Sh.Far (ptable x.1.1.1.1 x.1.1.2 x.1.2) (.inr x.2.2) g ∧ (∃ r, Sh.Runs (ptable x.1.1.1.1 x.1.1.2 x.1.2) r) ∧ l = [fspan (.inr x.2.1) (.inr x.2.2) f g])
theorem ptable_le {lean : List (Str × Int)} {vs : List Str} {ds : List (Sh.Deed Str)} {ms : List Mom} (h1 : lean.length ≤ 4) (h2 : EvsIn lean vs ds) (h3 : ms.length ≤ 2) : (ptable lean ds ms).length ≤ 450 := by
  have hl := h2.len
  have le := pmoms_le (ms := ms) (tl := ([], lns0 lean ds)) (lns0_le lean ds)
  have nm : ((ms.foldl momStep ([], lns0 lean ds)).2).map Prod.fst = (lns0 lean ds).map Prod.fst := pmoms_names (ms := ms) (tl := ([], lns0 lean ds))
  have n0 : (lns0 lean ds).length = lean.length := by unfold lns0; rw [List.length_map]
  have le2 : LLe 32 (pmoms lean ds ms).2 := le.2.mono (by omega)
  have le1 : (pmoms lean ds ms).1.length ≤ 2 * ms.length := by
    have := le.1
    show (ms.foldl momStep ([], lns0 lean ds)).1.length ≤ _
    simpa using this
  have ln4 : (pmoms lean ds ms).2.length ≤ 4 := by
    have := congrArg List.length nm
    rw [List.length_map, List.length_map] at this
    show ((ms.foldl momStep ([], lns0 lean ds)).2).length ≤ 4
    omega
  have le3 := driftAll_le (lean := lean) (t := (pmoms lean ds ms).1) le2
  have le4 : 2 * 32 * (pmoms lean ds ms).2.length ≤ 2 * 32 * 4 := Nat.mul_le_mul_left _ ln4
  have le5 := factsFrom_le (ds := ds) (i := 0) (t := driftAll lean (pmoms lean ds ms).1 (pmoms lean ds ms).2) fun e he => by
    obtain ⟨j, hj⟩ := List.getElem?_of_mem he
    exact (h2.ev j e hj).few
  show (factsFrom 0 ds (driftAll lean (pmoms lean ds ms).1 (pmoms lean ds ms).2)).length ≤ 450
  omega
theorem ok_spans_between (T : Txt K mg) (X1 : TxtL T base) : FnOk P w K mg base CX0 6 T.spans_between.a T.spans_between.fd ["history", "moments", "one", "other"] (spSpansBetween T) := by
  refine T.spans_between.F.ok sc_spans_between (fun vs H Q E h => ?_) (fun cdv A outer s H vs Q E hr h => ?_)
  · obtain ⟨_, _, _, ⟨⟨_, _, rfl, _⟩, _⟩, _⟩ := h
    rfl
  · obtain ⟨⟨⟨⟨⟨lean, vs'⟩, ds⟩, ms⟩, o1, o2⟩, G, hs, ⟨⟨a, v, rfl, hi, rm⟩, ok, mo, ht⟩, q⟩ := h
    dsimp only at hi rm q
    have hu := hu_of hr
    have S := Sta.start hs
    have hi' := hi
    obtain ⟨dx, fs, n, e, e1, l1, l2, hn, re⟩ := hi
    have tle : (ptable lean ds ms).length ≤ 450 := ptable_le ok.lo.len ok.evs mo.len
    refine ⟨_, (pss_cons (ps_set (i := 4) sc_spans_between.nd rfl (Or.inl rfl) (pe_lst pa_nil))
  (pss_cons (ps_for PassesOwn.never rfl (y_iL (K := K) rfl (pe_call (ok_choices T) (hr.mono (by decide)) rfl T.choices.g T.choices.F.kp T.choices.b .nil pass0 (pa_cons (pe_prop (pv 0) T.History.cl T.p_History_network.h (ok_History_network T) (hr.mono (by decide)) T.History_network.b .nil pass0n rfl) pa_nil))) (pg_name (i := 5) sc_spans_between.nd rfl (Or.inl rfl))
  (pss_cons (ps_set (i := 6) sc_spans_between.nd rfl (Or.inl rfl) (pe_call (ok_table_with T) (hr.mono (by decide)) rfl T.table_with.g T.table_with.F.kp T.table_with.b .nil pass0 (pa_cons (pv 0) (pa_cons (pv 5) (pa_cons (pv 1) pa_nil)))))
  (pss_one (ps_if (pt_cmpR k_isN (pe_call (ok_negative_ring T) (hr.mono (by decide)) rfl T.negative_ring.g T.negative_ring.F.kp T.negative_ring.b .nil pass0 (pa_cons (pv 6) pa_nil)) pe_non (nomark _))
  (pss_one (ps_expr (y_app (K := K) rfl (pv 4) (pa_cons (pe_call (ok_span_between T) (hr.mono (by decide)) rfl T.span_between.g T.span_between.F.kp T.span_between.b .nil pass0 (pa_cons (pv 6) (pa_cons (pv 2) (pa_cons (pv 3) pa_nil)))) pa_nil))))
  pss_nil))))
  (pss_one (ps_ret (pe_call (ok_joined_spans T X1) (hr.mono (by decide)) rfl T.joined_spans.g T.joined_spans.F.kp T.joined_spans.b .nil pass0 (pa_cons (pv 4) pa_nil)))))), ?_⟩
    fail "go"
    refine n_own S fun p1 H1 S1 => ?_
    fail "go"
    refine ⟨a, dx, fs, rfl, S1.isin e1, ?_⟩
    refine c_pur S1 ((lean, vs'), ds) ⟨a, rfl, hi'⟩ fun G2 H2 v2 s2 S2 w2 => ?_
    obtain ⟨n2, rfl, hn2⟩ := w2
    fail "go"
    refine c_pur S2 (lean, vs') ⟨⟨n2, rfl, hn2⟩, ok.vl⟩ fun G3 H3 v3 s3 S3 w3 => ?_
    obtain ⟨l3, c, rfl, el, ec⟩ := w3
    fail "go"
    have fin : ∀ (l : List Sh.Span), ((l = [] ∧ ∀ r, ¬ Sh.Runs (ptable lean ds ms) r) ∨ ∃ f g, Sh.Far (ptable lean ds ms) (.inr o1) f ∧ Sh.Far (ptable lean ds ms) (.inr o2) g ∧ (∃ r, Sh.Runs (ptable lean ds ms) r) ∧ l = [fspan (.inr o1) (.inr o2) f g]) → ∀ G' H' v, Go M0 G H G' H' → Rep G' (dSpans l) v → Q v H' := fun l h G' H' v g r => q G' H' v g ⟨l, r, h⟩
    clear q
    refine for_l (xs := [.ref c]) (fun i σ H4 => ∃ (G4 : Hp) (x5 x6 : Option V) (xs : List V), Sub G3 G4 ∧ σ = [some (.ref a), some v, some (.str o1), some (.str o2), some (.ref p1), x5, x6] ∧ Sta M0 none G H G4 H4 [(p1, .lst xs)] ∧ ((i = 0 ∧ xs = []) ∨ (0 < i ∧ ∃ l : List Sh.Span, RepL G4 (l.map dSpan) xs ∧ l.length ≤ 1 ∧
      ((l = [] ∧ ∀ r, ¬ Sh.Runs (ptable lean ds ms) r) ∨ ∃ f g, Sh.Far (ptable lean ds ms) (.inr o1) f ∧ Sh.Far (ptable lean ds ms) (.inr o2) g ∧ (∃ r, Sh.Runs (ptable lean ds ms) r) ∧ l = [fspan (.inr o1) (.inr o2) f g])))) ⟨G3, none, none, [], Sub.rfl' _, rfl, S3, .inl ⟨rfl, rfl⟩⟩ (fun i σ H4 h => ?_) (fun σ H4 h => ?_) (fun i u σ H4 hi4 h => ?_)
    · obtain ⟨G4, x5, x6, xs, s4, rfl, S4, _⟩ := h
      exact S4.isin (s4.to el)
    · obtain ⟨G4, x5, x6, xs, s4, rfl, S4, ⟨z, _⟩ | ⟨_, l, rl, ll, hres⟩⟩ := h
      · exact absurd z (Nat.succ_ne_zero 0)
      · fail "go"
        obtain ⟨G5, s5, S5, e5⟩ := S4.fix0 0 rfl
        refine c_purH S5 l ⟨⟨_, rfl, p1, xs, rfl, e5, rl.mono s5⟩, ll, S5.tabs ht⟩ fun G6 H6 v6 s6 S6 w6 => ?_
        exact fin l hres _ _ _ S6.go w6
    · obtain ⟨G4, x5, x6, xs, s4, rfl, S4, h⟩ := h
      have hlt := (List.getElem?_eq_some_iff.mp hi4).1
      obtain rfl : i = 0 := by have : i < 1 := hlt; omega
      cases hi4
      rcases h with ⟨_, rfl⟩ | ⟨z, _⟩
      · fail "go"
        have s04 : Sub G G4 := s2.tr (s3.tr s4)
        refine c_purO S4 (((lean, vs'), ds), ms) ⟨⟨a, c, v, rfl, hi'.mono s04, s4.to ec, rm.mono s04⟩, ok, mo⟩ fun G5 H5 p5 o5 s5 S5 w5 => ?_
        have w5 : o5 = .dT (tvl (ptable lean ds ms)) := w5
        subst w5
        clear fin
        generalize ptable lean ds ms = t at S5 tle ⊢
        fail "go"
        refine c_mut S5 0 rfl t ⟨rfl, rfl, tle⟩ fun G6 H6 v6 o6 s6 S6 w6 => ?_
        obtain ⟨rfl, w6⟩ := w6
        fail "go"
        rcases w6 with ⟨rfl, hrun⟩ | ⟨hne, nor⟩
        · refine l_ifd (fun _ => ?_) (fun z => absurd rfl z)
          fail "go"
          refine c_mut S6 0 rfl (t, .inr o1, .inr o2) ⟨rfl, rfl, tle, hrun⟩ fun G7 H7 v7 o7 s7 S7 w7 => ?_
          obtain ⟨rfl, f, g, far1, far2, r7⟩ := w7
          fail "go"
          refine ls_app S7 1 rfl (Nat.zero_le _) fun H8 S8 => ?_
          exact ⟨G7, _, _, _, s4.tr (s5.tr (s6.tr s7)), rfl, S8.drop 0, .inr ⟨Nat.succ_pos 0, [fspan (.inr o1) (.inr o2) f g], .one r7, Nat.le_refl _, .inr ⟨f, g, far1, far2, hrun, rfl⟩⟩⟩
        · refine l_ifd (fun z => absurd z hne) (fun _ => ?_)
          fail "go"
          exact ⟨G6, _, _, [], s4.tr (s5.tr s6), rfl, S6.drop 0, .inr ⟨Nat.succ_pos 0, [], rfl, Nat.zero_le _, .inl ⟨rfl, nor⟩⟩⟩
      · exact absurd z (Nat.lt_irrefl 0)
end
section
variable {P : Program} {w : World} {K : PySem.W.Frag} {mg : Str → Option Value} {base : Heap} [TL]
abbrev TbOk (u : Tb) : Prop := (u.map Prod.fst).Nodup
theorem tb_uniq {u : Tb} (h : TbOk u) {k : Key × Key} {m n : Int} (a : (k, m) ∈ u) (b : (k, n) ∈ u) : m = n := by
  obtain ⟨i, hi⟩ := List.getElem?_of_mem a
  obtain ⟨j, hj⟩ := List.getElem?_of_mem b
  have e := nodup_get h (i := i) (j := j) (x := k) (by rw [List.getElem?_map, hi]; rfl) (by rw [List.getElem?_map, hj]; rfl)
  subst e
  rw [hi] at hj
  cases hj
  rfl
theorem tget_some {u : Tb} {k : Key × Key} (h : (u.any fun e => decide (e.1 = k)) = true) : ∃ m, tget u k = some m ∧ (k, m) ∈ u := by
  unfold tget
  cases e : u.find? fun e => decide (e.1 = k) with
  | none =>
    obtain ⟨x, hx, hk⟩ := List.any_eq_true.mp h
    exact absurd hk (List.find?_eq_none.mp e x hx)
  | some x =>
    have h1 := List.mem_of_find?_eq_some e
    have h2 : x.1 = k := of_decide_eq_true (List.find?_some (p := fun (e : (Key × Key) × Int) => decide (e.1 = k)) e)
    exact ⟨x.2, rfl, by rw [← h2]; exact h1⟩
theorem tput_ok {u : Tb} (h : TbOk u) (a b : Key) (n : Int) : TbOk (tput u a b n) := by
  unfold tput
  split
  · exact h
  · unfold tset
    split
    · have : (u.map fun e => if e.1 = (a, b) then (e.1, lessOf n (tget u (a, b))) else e).map Prod.fst = u.map Prod.fst := by
        rw [List.map_map]
        refine List.map_congr_left fun e _ => ?_
        show (if e.1 = (a, b) then (e.1, lessOf n (tget u (a, b))) else e).1 = e.1
        split <;> rfl
      unfold TbOk
      rw [this]
      exact h
    · rename_i hn
      unfold TbOk
      rw [List.map_append]
      refine List.nodup_append.mpr ⟨h, by simp, fun x hx y hy e => ?_⟩
      have hy : y = (a, b) := List.mem_singleton.mp hy
      obtain ⟨e1, h1, rfl⟩ := List.mem_map.mp hx
      exact hn (List.any_eq_true.mpr ⟨e1, h1, decide_eq_true (e.trans hy)⟩)
theorem tput_runs {u : Tb} (h : TbOk u) {a b : Key} (hab : a ≠ b) (n : Int) (τ : Key → Int) : Sh.Runs (tput u a b n) τ ↔ Sh.Runs u τ ∧ τ b ≤ τ a + n := by
  unfold tput
  rw [if_neg hab]
  unfold tset
  by_cases c : (u.any fun e => decide (e.1 = (a, b))) = true
  · rw [if_pos c]
    obtain ⟨m, hm, mem⟩ := tget_some c
    rw [hm]
    have hl : lessOf n (some m) = if m < n then m else n := rfl
    constructor
    · intro r
      have key : τ b ≤ τ a + lessOf n (some m) := r ((a, b), lessOf n (some m)) (List.mem_map.mpr ⟨((a, b), m), mem, if_pos rfl⟩)
      have h1 : lessOf n (some m) ≤ n ∧ lessOf n (some m) ≤ m := by rw [hl]; split <;> omega
      refine ⟨fun e he => ?_, by omega⟩
      by_cases q : e.1 = (a, b)
      · have : e.2 = m := tb_uniq h (k := (a, b)) (by rw [← q]; exact he) mem
        rw [q]
        show τ b ≤ τ a + e.2
        omega
      · have := r e (List.mem_map.mpr ⟨e, he, if_neg q⟩)
        exact this
    · rintro ⟨r, hb⟩ e he
      obtain ⟨e0, he0, rfl⟩ := List.mem_map.mp he
      by_cases q : e0.1 = (a, b)
      · rw [if_pos q]
        have := r _ mem
        have this : τ b ≤ τ a + m := this
        rw [q]
        show τ b ≤ τ a + lessOf n (some m)
        rw [hl]
        split <;> omega
      · rw [if_neg q]
        exact r e0 he0
  · rw [if_neg c]
    have hn : tget u (a, b) = none := by
      unfold tget
      cases e : u.find? fun e => decide (e.1 = (a, b)) with
      | none => rfl
      | some x => exact absurd (List.any_eq_true.mpr ⟨x, List.mem_of_find?_eq_some e, List.find?_some e⟩) c
    rw [hn]
    have hl : lessOf n none = n := by show (if n < n then n else n) = n; split <;> rfl
    rw [hl]
    constructor
    · intro r
      exact ⟨fun e he => r e (List.mem_append_left _ he), r ((a, b), n) (List.mem_append_right _ (by simp))⟩
    · rintro ⟨r, hb⟩ e he
      rcases List.mem_append.mp he with he | he
      · exact r e he
      · rw [List.mem_singleton.mp he]
        exact hb
/-- neighbours apart -/
def Adj : List (Int × Key) → Prop
  | [] => True
  | [_] => True
  | p :: q :: r => p.2 ≠ q.2 ∧ Adj (q :: r)
theorem adj_of {l : List (Int × Key)} (h : l.Pairwise fun p q => p.2 ≠ q.2) : Adj l := by
  induction l with
  | nil => trivial
  | cons p l ih =>
    cases l with
    | nil => trivial
    | cons q r => exact ⟨List.rel_of_pairwise_cons h List.mem_cons_self, ih h.tail⟩
theorem pdrift_runs {d : Int} {τ : Key → Int} : ∀ {l : List (Int × Key)} {u : Tb}, TbOk u → Adj l → TbOk (pdrift d u l) ∧ (Sh.Runs (pdrift d u l) τ ↔ Sh.Runs u τ ∧ Sh.AdjOk d τ l)
  | [], u, h, _ => ⟨h, ⟨fun r => ⟨r, trivial⟩, fun r => r.1⟩⟩
  | [p], u, h, _ => ⟨h, ⟨fun r => ⟨r, trivial⟩, fun r => r.1⟩⟩
  | p :: q :: r, u, h, hd => by
    have o1 := tput_ok h p.2 q.2 ((q.1 - p.1) * (1000 + d))
    have o2 := tput_ok o1 q.2 p.2 (-(q.1 - p.1) * (1000 - d))
    have e : pdrift d u (p :: q :: r) = pdrift d (dstep d u (p, q)) (q :: r) := rfl
    have ih := pdrift_runs (d := d) (τ := τ) (l := q :: r) (u := dstep d u (p, q)) o2 hd.2
    rw [e]
    refine ⟨ih.1, ih.2.trans ?_⟩
    have s : Sh.Runs (dstep d u (p, q)) τ ↔ Sh.Runs u τ ∧ Sh.Rl d p.1 q.1 (τ p.2) (τ q.2) := by
      show Sh.Runs (tput (tput u p.2 q.2 _) q.2 p.2 _) τ ↔ _
      rw [tput_runs o1 (Ne.symm hd.1), tput_runs h hd.1, Sh.rl_edges, and_assoc]
    rw [s]
    show _ ↔ Sh.Runs u τ ∧ Sh.Rl d p.1 q.1 (τ p.2) (τ q.2) ∧ Sh.AdjOk d τ (q :: r)
    rw [and_assoc]
theorem driftAll_runs {lean : List (Str × Int)} {τ : Key → Int} : ∀ {l : Lns} {u : Tb}, TbOk u → (∀ p ∈ l, Adj p.2) → TbOk (driftAll lean u l) ∧ (Sh.Runs (driftAll lean u l) τ ↔ Sh.Runs u τ ∧ ∀ p ∈ l, Sh.AdjOk (lk lean p.1) τ p.2)
  | [], u, h, _ => ⟨h, ⟨fun r => ⟨r, fun _ z => nomatch z⟩, fun r => r.1⟩⟩
  | p :: l, u, h, hd => by
    obtain ⟨o, s⟩ := pdrift_runs (d := lk lean p.1) (τ := τ) h (hd p List.mem_cons_self)
    obtain ⟨o2, s2⟩ := driftAll_runs (lean := lean) (τ := τ) (l := l) o fun q hq => hd q (List.mem_cons_of_mem _ hq)
    refine ⟨o2, s2.trans ?_⟩
    rw [s, and_assoc, List.forall_mem_cons]
theorem fstep_runs {u : Tb} (h : TbOk u) {vs : List Str} {i : Nat} {n : Sh.Note Str} (hn : NoteIn vs i n) (τ : Key → Int) : TbOk (fstep i u n) ∧ (Sh.Runs (fstep i u n) τ ↔ Sh.Runs u τ ∧ Sh.NoteK (fun j => (.inl (j : Int) : Key)) okey τ i n) := by
  cases n with
  | frm j l m =>
    have hne : (.inl (j : Int) : Key) ≠ .inl (i : Int) := fun z => by have := Sum.inl.inj z; have := hn.1; omega
    have o1 := tput_ok h (.inl (j : Int)) (.inl (i : Int)) m
    refine ⟨tput_ok o1 _ _ _, ?_⟩
    show Sh.Runs (tput (tput u _ _ _) _ _ _) τ ↔ _
    rw [tput_runs o1 (Ne.symm hne), tput_runs h hne, and_assoc]
    exact Iff.rfl
  | says v l m =>
    have hne : okey ≠ (.inl (i : Int) : Key) := fun z => nomatch z
    have o1 := tput_ok h okey (.inl (i : Int)) m
    refine ⟨tput_ok o1 _ _ _, ?_⟩
    show Sh.Runs (tput (tput u _ _ _) _ _ _) τ ↔ _
    rw [tput_runs o1 (Ne.symm hne), tput_runs h hne, and_assoc]
    exact Iff.rfl
theorem pfacts_runs {vs : List Str} {i : Nat} {τ : Key → Int} : ∀ {ns : List (Sh.Note Str)} {u : Tb}, TbOk u → (∀ n ∈ ns, NoteIn vs i n) → TbOk (pfacts i u ns) ∧ (Sh.Runs (pfacts i u ns) τ ↔ Sh.Runs u τ ∧ ∀ n ∈ ns, Sh.NoteK (fun j => (.inl (j : Int) : Key)) okey τ i n)
  | [], u, h, _ => ⟨h, ⟨fun r => ⟨r, fun _ z => nomatch z⟩, fun r => r.1⟩⟩
  | n :: ns, u, h, hd => by
    obtain ⟨o, s⟩ := fstep_runs h (hd n List.mem_cons_self) τ
    obtain ⟨o2, s2⟩ := pfacts_runs (vs := vs) (i := i) (τ := τ) (ns := ns) o fun q hq => hd q (List.mem_cons_of_mem _ hq)
    refine ⟨o2, s2.trans ?_⟩
    rw [s, and_assoc, List.forall_mem_cons]
theorem factsFrom_runs {vs : List Str} {τ : Key → Int} : ∀ {ds : List (Sh.Deed Str)} {i : Nat} {u : Tb}, TbOk u → (∀ j d, ds[j]? = some d → ∀ n ∈ d.notes, NoteIn vs (i + j) n) → TbOk (factsFrom i ds u) ∧ (Sh.Runs (factsFrom i ds u) τ ↔ Sh.Runs u τ ∧ ∀ j d, ds[j]? = some d → ∀ n ∈ d.notes, Sh.NoteK (fun j => (.inl (j : Int) : Key)) okey τ (i + j) n)
  | [], i, u, h, _ => ⟨h, ⟨fun r => ⟨r, fun j d z => by simp at z⟩, fun r => r.1⟩⟩
  | d :: ds, i, u, h, hd => by
    obtain ⟨o, s⟩ := pfacts_runs (vs := vs) (i := i) (τ := τ) (ns := d.notes) h fun n hn => hd 0 d rfl n hn
    obtain ⟨o2, s2⟩ := factsFrom_runs (vs := vs) (τ := τ) (ds := ds) (i := i + 1) o fun j e he n hn => by
      have := hd (j + 1) e (by simpa using he) n hn
      rw [show i + 1 + j = i + (j + 1) by omega]
      exact this
    refine ⟨o2, s2.trans ?_⟩
    rw [s, and_assoc]
    refine and_congr_right fun _ => ?_
    constructor
    · rintro ⟨a, b⟩ j e he n hn
      cases j with
      | zero =>
        cases he
        exact a n hn
      | succ j =>
        have := b j e (by simpa using he) n hn
        rw [show i + 1 + j = i + (j + 1) by omega] at this
        exact this
    · intro a
      refine ⟨a 0 d rfl, fun j e he n hn => ?_⟩
      have := a (j + 1) e (by simpa using he) n hn
      rw [show i + (j + 1) = i + 1 + j by omega] at this
      exact this
end
section
variable {P : Program} {w : World} {K : PySem.W.Frag} {mg : Str → Option Value} {base : Heap} [TL]
/-- a station's points -/
def Pm (ds : List (Sh.Deed Str)) (ms : List Mom) (s : Str) (p : Int × Key) : Prop := (∃ (i : Nat) (d : Sh.Deed Str), ds[i]? = some d ∧ d.st = s ∧ p = (d.tick, .inl (i : Int))) ∨ ∃ m ∈ ms, m.2.1 = s ∧ p = (m.2.2, .inr m.1)
theorem lineOf_mem {s : Str} {p : Int × Key} : ∀ {ds : List (Sh.Deed Str)} {k : Nat}, p ∈ lineOf k ds s ↔ ∃ (i : Nat) (d : Sh.Deed Str), ds[i]? = some d ∧ d.st = s ∧ p = (d.tick, .inl ((k + i : Nat) : Int))
  | [], k => ⟨fun h => (nomatch h), fun ⟨i, d, h, _⟩ => by simp at h⟩
  | e :: ds, k => by
    have ih := lineOf_mem (s := s) (p := p) (ds := ds) (k := k + 1)
    have tail : (∃ (i : Nat) (d : Sh.Deed Str), ds[i]? = some d ∧ d.st = s ∧ p = (d.tick, (.inl ((k + 1 + i : Nat) : Int) : Key))) ↔ ∃ (i : Nat) (d : Sh.Deed Str), (e :: ds)[i + 1]? = some d ∧ d.st = s ∧ p = (d.tick, (.inl ((k + (i + 1) : Nat) : Int) : Key)) := by
      constructor
      · rintro ⟨i, d, a, b, c⟩
        exact ⟨i, d, by simpa using a, b, by rw [c, show k + 1 + i = k + (i + 1) by omega]⟩
      · rintro ⟨i, d, a, b, c⟩
        exact ⟨i, d, by simpa using a, b, by rw [c, show k + 1 + i = k + (i + 1) by omega]⟩
    show p ∈ (if e.st = s then (e.tick, (.inl (k : Int) : Key)) :: lineOf (k + 1) ds s else lineOf (k + 1) ds s) ↔ _
    by_cases h : e.st = s
    · rw [if_pos h, List.mem_cons, ih, tail]
      constructor
      · rintro (rfl | ⟨i, d, a, b, c⟩)
        · exact ⟨0, e, rfl, h, rfl⟩
        · exact ⟨i + 1, d, a, b, c⟩
      · rintro ⟨i, d, a, b, c⟩
        cases i with
        | zero =>
          cases a
          exact .inl c
        | succ i => exact .inr ⟨i, d, a, b, c⟩
    · rw [if_neg h, ih, tail]
      constructor
      · rintro ⟨i, d, a, b, c⟩
        exact ⟨i + 1, d, a, b, c⟩
      · rintro ⟨i, d, a, b, c⟩
        cases i with
        | zero =>
          cases a
          exact absurd b h
        | succ i => exact ⟨i, d, a, b, c⟩
theorem lineOf_sorted {s : Str} : ∀ {ds : List (Sh.Deed Str)} {k : Nat}, (ds.Pairwise fun a b => a.st = b.st → a.tick < b.tick) → (lineOf k ds s).Pairwise fun p q => p.1 < q.1
  | [], _, _ => .nil
  | e :: ds, k, h => by
    have ih := lineOf_sorted (s := s) (k := k + 1) h.tail
    show (if e.st = s then (e.tick, (.inl (k : Int) : Key)) :: lineOf (k + 1) ds s else lineOf (k + 1) ds s).Pairwise _
    by_cases hs : e.st = s
    · rw [if_pos hs]
      refine .cons (fun q hq => ?_) ih
      obtain ⟨i, d, a, b, rfl⟩ := lineOf_mem.mp hq
      exact List.rel_of_pairwise_cons h (List.mem_of_getElem? a) (hs.trans b.symm)
    · rw [if_neg hs]
      exact ih
theorem spot_split {r : Int} : ∀ {l : List (Int × Key)}, (l.Pairwise fun p q => p.1 < q.1) → (∀ e ∈ l, e.1 ≠ r) → (∀ e ∈ l.take (spotOf l r), e.1 < r) ∧ ∀ e ∈ l.drop (spotOf l r), r < e.1
  | [], _, _ => ⟨fun _ h => (nomatch h), fun _ h => (nomatch h)⟩
  | a :: l, hs, hn => by
    have ha := hn a List.mem_cons_self
    have tl := List.pairwise_cons.mp hs
    by_cases h : a.1 < r
    · have e : spotOf (a :: l) r = spotOf l r + 1 := by
        unfold spotOf
        rw [List.filter_cons_of_pos (by simpa using h), List.length_cons]
      obtain ⟨i1, i2⟩ := spot_split (r := r) tl.2 fun e he => hn e (List.mem_cons_of_mem _ he)
      rw [e, List.take_succ_cons, List.drop_succ_cons]
      refine ⟨fun e he => ?_, i2⟩
      rcases List.mem_cons.mp he with rfl | he
      · exact h
      · exact i1 e he
    · have big : ∀ e ∈ a :: l, r < e.1 := fun e he => by
        rcases List.mem_cons.mp he with rfl | he
        · omega
        · have := tl.1 e he
          omega
      have e : spotOf (a :: l) r = 0 := by
        unfold spotOf
        rw [List.length_eq_zero_iff, List.filter_eq_nil_iff]
        intro e he
        have := big e he
        simp
        omega
      rw [e]
      exact ⟨fun _ h => (nomatch h), fun e he => big e he⟩
theorem lget_set {l : Lns} {s s' : Str} {x : List (Int × Key)} (hs : s ∈ l.map Prod.fst) : lget (lset l s x) s' = if s' = s then x else lget l s' := by
  induction l with
  | nil => exact nomatch hs
  | cons p l ih =>
    by_cases h1 : p.1 = s
    · by_cases h2 : s' = s
      · rw [if_pos h2]
        unfold lset lget
        rw [List.map_cons, if_pos h1, List.find?_cons_of_pos (by simpa using h1.trans h2.symm)]
        rfl
      · rw [if_neg h2]
        unfold lset lget
        rw [List.map_cons, if_pos h1, List.find?_cons_of_neg (by simpa using fun z => h2 (z.symm.trans h1)), List.find?_cons_of_neg (by simpa using fun z => h2 (z.symm.trans h1))]
        by_cases hl : s ∈ l.map Prod.fst
        · have := ih hl
          rw [if_neg h2] at this
          exact this
        · have : (l.map fun p => if p.1 = s then (p.1, x) else p) = l := by
            conv => rhs; rw [← List.map_id l]
            refine List.map_congr_left fun q hq => if_neg fun z => hl (List.mem_map.mpr ⟨q, hq, z⟩)
          rw [this]
    · have hl : s ∈ l.map Prod.fst := by
        rcases List.mem_cons.mp hs with h | h
        · exact absurd h.symm h1
        · exact h
      have ih := ih hl
      by_cases h3 : p.1 = s'
      · have h2 : s' ≠ s := fun z => h1 (h3.trans z)
        rw [if_neg h2]
        unfold lset lget
        rw [List.map_cons, if_neg h1, List.find?_cons_of_pos (by simpa using h3), List.find?_cons_of_pos (by simpa using h3)]
      · unfold lset lget at ih ⊢
        rw [List.map_cons, if_neg h1, List.find?_cons_of_neg (by simpa using h3), List.find?_cons_of_neg (by simpa using h3)]
        exact ih
theorem lget_mem {l : Lns} (h : (l.map Prod.fst).Nodup) {p : Str × List (Int × Key)} (hp : p ∈ l) : lget l p.1 = p.2 := by
  induction l with
  | nil => exact nomatch hp
  | cons q l ih =>
    have hn := List.nodup_cons.mp h
    rcases List.mem_cons.mp hp with rfl | hp
    · unfold lget
      rw [List.find?_cons_of_pos (by simp)]
      rfl
    · have hne : ¬ q.1 = p.1 := fun z => hn.1 (z ▸ List.mem_map.mpr ⟨p, hp, rfl⟩)
      unfold lget
      rw [List.find?_cons_of_neg (by simpa using hne)]
      exact ih hn.2 hp
theorem lget_0 {lean : List (Str × Int)} {ds : List (Sh.Deed Str)} {s : Str} (h : s ∈ lean.map Prod.fst) : lget (lns0 lean ds) s = lineOf 0 ds s := by
  induction lean with
  | nil => exact nomatch h
  | cons q l ih =>
    by_cases e : q.1 = s
    · unfold lget lns0
      rw [List.map_cons, List.find?_cons_of_pos (by simpa using e), e]
      rfl
    · have hl : s ∈ l.map Prod.fst := by
        rcases List.mem_cons.mp h with h | h
        · exact absurd h.symm e
        · exact h
      have ih := ih hl
      unfold lget lns0 at ih ⊢
      rw [List.map_cons, List.find?_cons_of_neg (by simpa using e)]
      exact ih
end
section
variable {P : Program} {w : World} {K : PySem.W.Frag} {mg : Str → Option Value} {base : Heap} [TL]
structure MInv (lean : List (Str × Int)) (ds : List (Sh.Deed Str)) (ms : List Mom) (u : Tb) (lns : Lns) : Prop where
  ok : TbOk u
  names : lns.map Prod.fst = lean.map Prod.fst
  sorted : ∀ s ∈ lean.map Prod.fst, (lget lns s).Pairwise fun p q => p.1 < q.1
  sub : ∀ s ∈ lean.map Prod.fst, ∀ p ∈ lget lns s, Pm ds ms s p
  rep : ∀ τ, Sh.Runs u τ → ∀ s ∈ lean.map Prod.fst, ∀ p, Pm ds ms s p → ∃ q ∈ lget lns s, q.1 = p.1 ∧ τ q.2 = τ p.2
  back : ∀ τ : Key → Int, (∀ s ∈ lean.map Prod.fst, Sh.AllOk (lk lean s) τ (Pm ds ms s)) → Sh.Runs u τ
section
variable {lean : List (Str × Int)} {ds : List (Sh.Deed Str)} {ms : List Mom} {u : Tb} {lns : Lns}
theorem MInv.start (hm : ds.Pairwise fun a b => a.st = b.st → a.tick < b.tick) : MInv lean ds [] [] (lns0 lean ds) where
  ok := .nil
  names := by unfold lns0; rw [List.map_map]; rfl
  sorted := fun s hs => by rw [lget_0 hs]; exact lineOf_sorted hm
  sub := fun s hs p hp => by
    rw [lget_0 hs] at hp
    obtain ⟨i, d, a, b, c⟩ := lineOf_mem.mp hp
    exact .inl ⟨i, d, a, b, by rw [c, Nat.zero_add]⟩
  rep := fun τ _ s hs p hp => by
    rcases hp with ⟨i, d, a, b, c⟩ | ⟨m, h, _⟩
    · exact ⟨p, by rw [lget_0 hs]; exact lineOf_mem.mpr ⟨i, d, a, b, by rw [c, Nat.zero_add]⟩, rfl, rfl⟩
    · exact nomatch h
  back := fun _ _ _ h => nomatch h
theorem pm_more {m : Mom} {s : Str} {p : Int × Key} : Pm ds (ms ++ [m]) s p ↔ Pm ds ms s p ∨ (m.2.1 = s ∧ p = (m.2.2, .inr m.1)) := by
  constructor
  · rintro (h | ⟨m', h, a, b⟩)
    · exact .inl (.inl h)
    · rcases List.mem_append.mp h with h | h
      · exact .inl (.inr ⟨m', h, a, b⟩)
      · rw [List.mem_singleton.mp h] at a b
        exact .inr ⟨a, b⟩
  · rintro ((h | ⟨m', h, a, b⟩) | ⟨a, b⟩)
    · exact .inl h
    · exact .inr ⟨m', List.mem_append_left _ h, a, b⟩
    · exact .inr ⟨m, List.mem_append_right _ (by simp), a, b⟩
theorem MInv.step (I : MInv lean ds ms u lns) {m : Mom} (hs : m.2.1 ∈ lean.map Prod.fst) (hn : ∀ m' ∈ ms, m'.1 ≠ m.1) : MInv lean ds (ms ++ [m]) (momStep (u, lns) m).1 (momStep (u, lns) m).2 := by
  have hs' : m.2.1 ∈ lns.map Prod.fst := by rw [I.names]; exact hs
  have gset : ∀ x s, lget (lset lns m.2.1 x) s = if s = m.2.1 then x else lget lns s := fun x s => lget_set hs'
  have mono : ∀ τ : Key → Int, (∀ s ∈ lean.map Prod.fst, Sh.AllOk (lk lean s) τ (Pm ds (ms ++ [m]) s)) → ∀ s ∈ lean.map Prod.fst, Sh.AllOk (lk lean s) τ (Pm ds ms s) := fun τ h s hs p q hp hq => h s hs p q (pm_more.mpr (.inl hp)) (pm_more.mpr (.inl hq))
  unfold momStep
  dsimp only
  have srt := I.sorted m.2.1 hs
  have sub0 := I.sub m.2.1 hs
  unfold pmom
  cases hf : (lget lns m.2.1).find? fun e => decide (e.1 = m.2.2) with
  | some e =>
    dsimp only
    have he := List.mem_of_find?_eq_some hf
    have hr : e.1 = m.2.2 := of_decide_eq_true (List.find?_some (p := fun (e : Int × Key) => decide (e.1 = m.2.2)) hf)
    have hne : e.2 ≠ .inr m.1 := fun z => by
      rcases sub0 e he with ⟨i, d, _, _, c⟩ | ⟨m', h', _, c⟩
      · rw [c] at z; cases z
      · rw [c] at z
        exact hn m' h' (Sum.inr.inj z)
    have o1 := tput_ok I.ok e.2 (.inr m.1) 0
    have same : ∀ s, lget (lset lns m.2.1 (lget lns m.2.1)) s = lget lns s := fun s => by
      rw [gset]
      by_cases h : s = m.2.1
      · rw [if_pos h, h]
      · rw [if_neg h]
    have runs : ∀ τ, Sh.Runs (tput (tput u e.2 (.inr m.1) 0) (.inr m.1) e.2 0) τ ↔ Sh.Runs u τ ∧ τ (.inr m.1) = τ e.2 := fun τ => by
      rw [tput_runs o1 (Ne.symm hne), tput_runs I.ok hne]
      constructor
      · rintro ⟨⟨a, b⟩, c⟩
        exact ⟨a, by omega⟩
      · rintro ⟨a, b⟩
        exact ⟨⟨a, by omega⟩, by omega⟩
    refine ⟨tput_ok o1 _ _ _, by rw [lset_names]; exact I.names, fun s h => by rw [same]; exact I.sorted s h, fun s h p hp => ?_, fun τ hτ s h p hp => ?_, fun τ hτ => ?_⟩
    · rw [same] at hp
      exact pm_more.mpr (.inl (I.sub s h p hp))
    · obtain ⟨r1, r2⟩ := (runs τ).mp hτ
      rw [same]
      rcases pm_more.mp hp with hp | ⟨rfl, rfl⟩
      · exact I.rep τ r1 s h p hp
      · exact ⟨e, he, hr, r2.symm⟩
    · refine (runs τ).mpr ⟨I.back τ (mono τ hτ), ?_⟩
      have := hτ m.2.1 hs e (m.2.2, .inr m.1) (pm_more.mpr (.inl (sub0 e he))) (pm_more.mpr (.inr ⟨rfl, rfl⟩)) (by rw [hr]; exact Int.le_refl _)
      rw [hr] at this
      exact this.eq
  | none =>
    dsimp only
    have hno : ∀ e ∈ lget lns m.2.1, e.1 ≠ m.2.2 := fun e he z => List.find?_eq_none.mp hf e he (decide_eq_true z)
    obtain ⟨b1, b2⟩ := spot_split srt hno
    have spl := List.take_append_drop (spotOf (lget lns m.2.1) m.2.2) (lget lns m.2.1)
    have mem : ∀ p, p ∈ (lget lns m.2.1).take (spotOf (lget lns m.2.1) m.2.2) ++ [(m.2.2, Sum.inr m.1)] ++ (lget lns m.2.1).drop (spotOf (lget lns m.2.1) m.2.2) ↔ p ∈ lget lns m.2.1 ∨ p = (m.2.2, .inr m.1) := fun p => by
      have h : p ∈ lget lns m.2.1 ↔ p ∈ (lget lns m.2.1).take (spotOf (lget lns m.2.1) m.2.2) ∨ p ∈ (lget lns m.2.1).drop (spotOf (lget lns m.2.1) m.2.2) := by
        rw [← List.mem_append, spl]
      rw [List.mem_append, List.mem_append, List.mem_singleton, h]
      constructor
      · rintro ((a | a) | a)
        · exact .inl (.inl a)
        · exact .inr a
        · exact .inl (.inr a)
      · rintro ((a | a) | a)
        · exact .inl (.inl a)
        · exact .inr a
        · exact .inl (.inr a)
    have srt2 : ((lget lns m.2.1).take (spotOf (lget lns m.2.1) m.2.2) ++ [((m.2.2, Sum.inr m.1) : Int × Key)] ++ (lget lns m.2.1).drop (spotOf (lget lns m.2.1) m.2.2)).Pairwise fun p q => p.1 < q.1 := by
      rw [← spl] at srt
      obtain ⟨s1, s2, s3⟩ := List.pairwise_append.mp srt
      rw [List.append_assoc]
      refine List.pairwise_append.mpr ⟨s1, List.pairwise_cons.mpr ⟨fun q hq => b2 q hq, s2⟩, fun p hp q hq => ?_⟩
      rcases List.mem_cons.mp hq with rfl | hq
      · exact b1 p hp
      · exact s3 p hp q hq
    generalize (lget lns m.2.1).take (spotOf (lget lns m.2.1) m.2.2) ++ [(m.2.2, Sum.inr m.1)] ++ (lget lns m.2.1).drop (spotOf (lget lns m.2.1) m.2.2) = l' at mem srt2 ⊢
    refine ⟨I.ok, by rw [lset_names]; exact I.names, fun s h => ?_, fun s h p hp => ?_, fun τ hτ s h p hp => ?_, fun τ hτ => I.back τ (mono τ hτ)⟩
    · rw [gset]
      split
      · exact srt2
      · exact I.sorted s h
    · rw [gset] at hp
      by_cases e : s = m.2.1
      · rw [if_pos e] at hp
        subst e
        rcases (mem p).mp hp with hp | hp
        · exact pm_more.mpr (.inl (sub0 p hp))
        · exact pm_more.mpr (.inr ⟨rfl, hp⟩)
      · rw [if_neg e] at hp
        exact pm_more.mpr (.inl (I.sub s h p hp))
    · rw [gset]
      rcases pm_more.mp hp with hp | ⟨e, rfl⟩
      · obtain ⟨q, hq, a, b⟩ := I.rep τ hτ s h p hp
        refine ⟨q, ?_, a, b⟩
        by_cases e : s = m.2.1
        · rw [if_pos e]
          subst e
          exact (mem q).mpr (.inl hq)
        · rw [if_neg e]
          exact hq
      · exact ⟨_, by rw [if_pos e.symm]; exact (mem _).mpr (.inr rfl), rfl, rfl⟩
theorem MInv.main (I : MInv lean ds ms u lns) (τ : Key → Int) : (Sh.Runs u τ ∧ ∀ s ∈ lean.map Prod.fst, Sh.AdjOk (lk lean s) τ (lget lns s)) ↔ ∀ s ∈ lean.map Prod.fst, Sh.AllOk (lk lean s) τ (Pm ds ms s) := by
  have le : ∀ s ∈ lean.map Prod.fst, (lget lns s).Pairwise fun p q => p.1 ≤ q.1 := fun s hs => (I.sorted s hs).imp fun h => Int.le_of_lt h
  constructor
  · rintro ⟨hr, ha⟩ s hs p q hp hq hle
    obtain ⟨p', mp, e1, e2⟩ := I.rep τ hr s hs p hp
    obtain ⟨q', mq, f1, f2⟩ := I.rep τ hr s hs q hq
    have := (Sh.adj_all (le s hs)).mp (ha s hs) p' q' mp mq (by rw [e1, f1]; exact hle)
    rw [e1, e2, f1, f2] at this
    exact this
  · intro h
    exact ⟨I.back τ h, fun s hs => (Sh.adj_all (le s hs)).mpr fun p q hp hq => h s hs p q (I.sub s hs p hp) (I.sub s hs q hq)⟩
theorem MInv.all (hn : (ms.map Prod.fst).Nodup) (hs : ∀ m ∈ ms, m.2.1 ∈ lean.map Prod.fst) (hm : ds.Pairwise fun a b => a.st = b.st → a.tick < b.tick) : MInv lean ds ms (pmoms lean ds ms).1 (pmoms lean ds ms).2 := by
  suffices h : ∀ k, k ≤ ms.length → MInv lean ds (ms.take k) (pmoms lean ds (ms.take k)).1 (pmoms lean ds (ms.take k)).2 by
    have := h ms.length (Nat.le_refl _)
    rw [List.take_of_length_le (Nat.le_refl _)] at this
    exact this
  intro k
  induction k with
  | zero => exact fun _ => MInv.start hm
  | succ k ih =>
    intro hk
    have hlt : k < ms.length := hk
    have tk : ms.take (k + 1) = ms.take k ++ [ms[k]] := by rw [List.take_add_one, List.getElem?_eq_getElem hlt]; rfl
    have e : pmoms lean ds (ms.take k ++ [ms[k]]) = momStep (pmoms lean ds (ms.take k)) ms[k] := by unfold pmoms; rw [List.foldl_append]; rfl
    rw [tk, e]
    refine (ih (by omega)).step (hs _ (List.getElem_mem hlt)) fun m' hm' z => ?_
    obtain ⟨j, hj⟩ := List.getElem?_of_mem hm'
    have hjk := (List.getElem?_eq_some_iff.mp hj).1
    rw [List.length_take] at hjk
    rw [List.getElem?_take_of_lt (by omega)] at hj
    have := nodup_get hn (i := j) (j := k) (x := m'.1) (by rw [List.getElem?_map, hj]; rfl) (by rw [List.getElem?_map, List.getElem?_eq_getElem hlt, z]; rfl)
    omega
end
end
section
variable {P : Program} {w : World} {K : PySem.W.Frag} {mg : Str → Option Value} {base : Heap} [TL]
def spotsK (ms : List Mom) : List (Sh.PntK Str Key) := ms.map fun m => (m.2.1, m.2.2, .inr m.1)
theorem pm_ptk {ds : List (Sh.Deed Str)} {ms : List Mom} {s : Str} {p : Int × Key} : Pm ds ms s p ↔ Sh.PtK ds Sh.evN (spotsK ms) (s, p.1, p.2) := by
  constructor
  · rintro (⟨i, d, a, rfl, rfl⟩ | ⟨m, h, rfl, rfl⟩)
    · exact .inl ⟨i, d, a, rfl⟩
    · exact .inr (List.mem_map.mpr ⟨m, h, rfl⟩)
  · rintro (⟨i, d, a, e⟩ | h)
    · have e1 : s = d.st := congrArg Prod.fst e
      have e2 : p.1 = d.tick := congrArg (fun z => z.2.1) e
      have e3 : p.2 = Sh.evN i := congrArg (fun z => z.2.2) e
      exact .inl ⟨i, d, a, e1.symm, Prod.ext e2 e3⟩
    · obtain ⟨m, h, e⟩ := List.mem_map.mp h
      have e1 : m.2.1 = s := congrArg Prod.fst e
      have e2 : m.2.2 = p.1 := congrArg (fun z => z.2.1) e
      have e3 : .inr m.1 = p.2 := congrArg (fun z => z.2.2) e
      exact .inr ⟨m, h, e1, Prod.ext e2.symm e3.symm⟩
theorem node_val {ds : List (Sh.Deed Str)} {ms : List Mom} (hn : (ms.map Prod.fst).Nodup) {s : Str} {p q : Int × Key} (hp : Pm ds ms s p) (hq : Pm ds ms s q) (e : p.2 = q.2) : p.1 = q.1 := by
  rcases hp with ⟨i, d, a, _, rfl⟩ | ⟨m, h, _, rfl⟩ <;> rcases hq with ⟨j, d', a', _, rfl⟩ | ⟨m', h', _, rfl⟩
  · have e : (i : Int) = j := Sum.inl.inj e
    have e : i = j := by omega
    subst e
    rw [a] at a'
    cases a'
    rfl
  · cases e
  · cases e
  · have e : m.1 = m'.1 := Sum.inr.inj e
    obtain ⟨i, hi⟩ := List.getElem?_of_mem h
    obtain ⟨j, hj⟩ := List.getElem?_of_mem h'
    have := nodup_get hn (i := i) (j := j) (x := m.1) (by rw [List.getElem?_map, hi]; rfl) (by rw [List.getElem?_map, hj, e]; rfl)
    subst this
    rw [hi] at hj
    cases hj
    rfl
theorem ptable_runs {lean : List (Str × Int)} {vs : List Str} {ds : List (Sh.Deed Str)} {ms : List Mom} (nd : (lean.map Prod.fst).Nodup) (ev : EvsIn lean vs ds) (hn : (ms.map Prod.fst).Nodup) (hs : ∀ m ∈ ms, m.2.1 ∈ lean.map Prod.fst) (τ : Key → Int) :
    Sh.Runs (ptable lean ds ms) τ ↔ Sh.DriftK (lk lean) τ (Sh.PtK ds Sh.evN (spotsK ms)) ∧ Sh.FactsK ds Sh.evN okey τ := by
  have I := MInv.all hn hs ev.mono
  have ndl : ((pmoms lean ds ms).2.map Prod.fst).Nodup := by rw [I.names]; exact nd
  have adj : ∀ p ∈ (pmoms lean ds ms).2, Adj p.2 := fun p hp => by
    have hm : p.1 ∈ lean.map Prod.fst := by rw [← I.names]; exact List.mem_map.mpr ⟨p, hp, rfl⟩
    have e := lget_mem ndl hp
    rw [← e]
    refine adj_of ?_
    refine List.pairwise_iff_forall_sublist.mpr fun {a b} hab => ?_
    have h1 := List.pairwise_iff_forall_sublist.mp (I.sorted _ hm) hab
    intro z
    have hm1 : a ∈ lget (pmoms lean ds ms).2 p.1 := hab.subset (by simp)
    have hm2 : b ∈ lget (pmoms lean ds ms).2 p.1 := hab.subset (by simp)
    have := node_val hn (I.sub _ hm a hm1) (I.sub _ hm b hm2) z
    omega
  obtain ⟨o1, r1⟩ := driftAll_runs (lean := lean) (τ := τ) I.ok adj
  obtain ⟨o2, r2⟩ := factsFrom_runs (vs := vs) (τ := τ) (ds := ds) (i := 0) o1 fun j d hd n hnn => by rw [Nat.zero_add]; exact (ev.ev j d hd).notes n hnn
  have e1 : (∀ p ∈ (pmoms lean ds ms).2, Sh.AdjOk (lk lean p.1) τ p.2) ↔ ∀ s ∈ lean.map Prod.fst, Sh.AdjOk (lk lean s) τ (lget (pmoms lean ds ms).2 s) := by
    constructor
    · intro h s hs
      rw [← I.names] at hs
      obtain ⟨p, hp, rfl⟩ := List.mem_map.mp hs
      rw [lget_mem ndl hp]
      exact h p hp
    · intro h p hp
      have := h p.1 (by rw [← I.names]; exact List.mem_map.mpr ⟨p, hp, rfl⟩)
      rw [lget_mem ndl hp] at this
      exact this
  have e2 : (∀ s ∈ lean.map Prod.fst, Sh.AllOk (lk lean s) τ (Pm ds ms s)) ↔ Sh.DriftK (lk lean) τ (Sh.PtK ds Sh.evN (spotsK ms)) := by
    rw [Sh.drift_lines]
    constructor
    · intro h s
      by_cases hm : s ∈ lean.map Prod.fst
      · exact (Sh.AllOk.congr fun p => pm_ptk).mp (h s hm)
      · intro p q hp _ _
        exfalso
        rcases pm_ptk.mpr hp with ⟨i, d, a, b, _⟩ | ⟨m, h', b, _⟩
        · exact hm (b ▸ (ev.ev i d a).st)
        · exact hm (b ▸ hs m h')
    · intro h s _
      exact (Sh.AllOk.congr fun p => pm_ptk).mpr (h s)
  show Sh.Runs (factsFrom 0 ds (driftAll lean (pmoms lean ds ms).1 (pmoms lean ds ms).2)) τ ↔ _
  rw [r2, r1, e1, I.main τ, e2]
  refine and_congr_right fun _ => ?_
  constructor
  · intro h i d hd n hnn
    have := h i d hd n hnn
    rw [Nat.zero_add] at this
    exact this
  · intro h i d hd n hnn
    rw [Nat.zero_add]
    exact h i d hd n hnn
theorem ptable_1 {lean : List (Str × Int)} {vs : List Str} {ds : List (Sh.Deed Str)} {a : Str} {s : Str × Int} (nd : (lean.map Prod.fst).Nodup) (ev : EvsIn lean vs ds) (hs : s.1 ∈ lean.map Prod.fst) : Sh.Tells1 (ptable lean ds [(a, s)]) ("origin" : Str) a (lk lean) ds s := fun t => by
  rw [ptable_runs nd ev (by simp) (fun m hm => by rw [List.mem_singleton.mp hm]; exact hs) t]
  exact Sh.graph_sem
theorem ptable_2 {lean : List (Str × Int)} {vs : List Str} {ds : List (Sh.Deed Str)} {a b : Str} {s u : Str × Int} (nd : (lean.map Prod.fst).Nodup) (ev : EvsIn lean vs ds) (hab : a ≠ b) (hs : s.1 ∈ lean.map Prod.fst) (hu : u.1 ∈ lean.map Prod.fst) : Sh.Tells2 (ptable lean ds [(a, s), (b, u)]) ("origin" : Str) a b (lk lean) ds s u := fun t => by
  rw [ptable_runs nd ev (by simp [hab]) (fun m hm => by
    rcases List.mem_cons.mp hm with rfl | hm
    · exact hs
    · rw [List.mem_singleton.mp hm]; exact hu) t]
  exact Sh.graph_sem
/-- what spans_between leaves -/
theorem spans_desc {t : Tb} {x y : Key} {l : List Sh.Span} (h : (l = [] ∧ ∀ r, ¬ Sh.Runs t r) ∨ ∃ f g, Sh.Far t x f ∧ Sh.Far t y g ∧ (∃ r, Sh.Runs t r) ∧ l = [fspan x y f g]) : Sh.Desc (fun v => ∃ r, Sh.Runs t r ∧ r y - r x = v) l := by
  rcases h with ⟨rfl, h⟩ | ⟨f, g, hf, hg, ⟨r, hr⟩, rfl⟩
  · exact Sh.none_desc h
  · exact Sh.span_desc hr hf.closed hg.closed hf.zero hg.zero hf.sound hg.sound
end
section
variable {P : Program} {w : World} {K : PySem.W.Frag} {mg : Str → Option Value} {base : Heap} [TL]
abbrev SpotOk (lean : List (Str × Int)) (s : Str × Int) : Prop := s.1 ∈ lean.map Prod.fst ∧ 0 ≤ s.2 ∧ s.2 ≤ 1000000
def spKnown (T : Txt K mg) : Sp := PurH (fun G H vs (x : HisX × Str × Int) => (∃ a m, vs = [.ref a, .ref m] ∧ HisAt T G a x.1.1.1 x.1.1.2 x.1.2 ∧ G m = some (.tup [.str x.2.1, .int x.2.2])) ∧ HisOk x.1 ∧ SpotOk x.1.1.1 x.2 ∧ TabOk G H)
  fun G _ x v => ∃ l, Rep G (dSpans l) v ∧ Sh.Desc (Sh.Poss (lk x.1.1.1) x.1.2 x.2) l
theorem ok_known (T : Txt K mg) (X1 : TxtL T base) : FnOk P w K mg base CX0 7 T.known.a T.known.fd ["history", "moment"] (spKnown T) := by
  refine T.known.F.ok sc_known (fun vs H Q E h => ?_) (fun cdv A outer s H vs Q E hr h => ?_)
  · obtain ⟨_, _, _, ⟨⟨_, _, rfl, _⟩, _⟩, _⟩ := h
    rfl
  · obtain ⟨⟨⟨⟨lean, vs'⟩, ds⟩, s⟩, G, hs, ⟨⟨a, m, rfl, hi, em⟩, ok, si, ht⟩, q⟩ := h
    dsimp only at hi em q
    have hu := hu_of hr
    have S := Sta.start hs
    have hi' := hi
    obtain ⟨dx, fs, n, e, e1, l1, l2, hn, re⟩ := hi
    refine ⟨_, (pss_cons (ps_expr (pe_call (ok_check_moment T) (hr.mono (by decide)) rfl T.check_moment.g T.check_moment.F.kp T.check_moment.b .nil pass0 (pa_cons (pe_prop (pv 0) T.History.cl T.p_History_network.h (ok_History_network T) (hr.mono (by decide)) T.History_network.b .nil pass0n rfl) (pa_cons (pv 1) pa_nil))))
  (pss_one (ps_ret (pe_call (ok_spans_between T X1) (hr.mono (by decide)) rfl T.spans_between.g T.spans_between.F.kp T.spans_between.b .nil pass0 (pa_cons (pv 0) (pa_cons (pe_lst (pa_cons (pe_tup (pa_cons (pe_gcV rfl T.c_MOMENT) (pa_cons (pv 1) pa_nil))) pa_nil)) (pa_cons (pe_gcV rfl T.c_ORIGIN) (pa_cons (pe_gcV rfl T.c_MOMENT) pa_nil)))))))), ?_⟩
    fail "go"
    refine ⟨a, dx, fs, rfl, S.isin e1, ?_⟩
    refine c_pur S ((lean, vs'), ds) ⟨a, rfl, hi'⟩ fun G1 H1 v1 s1 S1 w1 => ?_
    obtain ⟨n1, rfl, hn1⟩ := w1
    fail "go"
    refine c_pur S1 ((lean, vs'), s) ⟨⟨n1, m, rfl, hn1, s1.to em⟩, ⟨_, lk_mem si.1⟩, si.2⟩ fun G2 H2 v2 s2 S2 w2 => ?_
    fail "go"
    refine n_fix S2 fun p3 G3 H3 s3 S3 e3 => ?_
    fail "go"
    refine n_fix S3 fun p4 G4 H4 s4 S4 e4 => ?_
    fail "go"
    refine c_purH S4 ((((lean, vs'), ds), [("moment", s)]), "origin", "moment") ⟨⟨a, _, rfl, hi'.mono (s1.tr (s2.tr (s3.tr s4))), ⟨p4, _, rfl, e4, _, [], rfl, rep_mom.mpr ⟨p3, m, rfl, s4.to e3, s4.to (s3.to (s2.to (s1.to em)))⟩, rfl⟩⟩, ok, ⟨Nat.le_of_ble_eq_true rfl, fun m hm => by rw [List.mem_singleton.mp hm]; exact si.1⟩, S4.tabs ht⟩ fun G5 H5 v5 s5 S5 w5 => ?_
    obtain ⟨l, rl, hl⟩ := w5
    refine q _ _ _ S5.go ⟨l, rl, (spans_desc hl).congr fun v => ?_⟩
    exact (ptable_1 ok.nd ok.evs si.1).poss (by decide) v
def spDifferences (T : Txt K mg) : Sp := PurH (fun G H vs (x : HisX × (Str × Int) × Str × Int) => (∃ a m n, vs = [.ref a, .ref m, .ref n] ∧ HisAt T G a x.1.1.1 x.1.1.2 x.1.2 ∧ G m = some (.tup [.str x.2.1.1, .int x.2.1.2]) ∧ G n = some (.tup [.str x.2.2.1, .int x.2.2.2])) ∧ HisOk x.1 ∧ SpotOk x.1.1.1 x.2.1 ∧ SpotOk x.1.1.1 x.2.2 ∧ TabOk G H)
  fun G _ x v => ∃ l, Rep G (dSpans l) v ∧ Sh.Desc (Sh.Apart (lk x.1.1.1) x.1.2 x.2.1 x.2.2) l
theorem ok_differences (T : Txt K mg) (X1 : TxtL T base) : FnOk P w K mg base CX0 7 T.differences.a T.differences.fd ["history", "one", "other"] (spDifferences T) := by
  refine T.differences.F.ok sc_differences (fun vs H Q E h => ?_) (fun cdv A outer s H vs Q E hr h => ?_)
  · obtain ⟨_, _, _, ⟨⟨_, _, _, rfl, _⟩, _⟩, _⟩ := h
    rfl
  · obtain ⟨⟨⟨⟨lean, vs'⟩, ds⟩, s, u⟩, G, hs, ⟨⟨a, m, n', rfl, hi, em, en⟩, ok, si, ui, ht⟩, q⟩ := h
    dsimp only at hi em en q
    have hu := hu_of hr
    have S := Sta.start hs
    have hi' := hi
    obtain ⟨dx, fs, n, e, e1, l1, l2, hn, re⟩ := hi
    refine ⟨_, (pss_cons (ps_expr (pe_call (ok_check_moment T) (hr.mono (by decide)) rfl T.check_moment.g T.check_moment.F.kp T.check_moment.b .nil pass0 (pa_cons (pe_prop (pv 0) T.History.cl T.p_History_network.h (ok_History_network T) (hr.mono (by decide)) T.History_network.b .nil pass0n rfl) (pa_cons (pv 1) pa_nil))))
  (pss_cons (ps_expr (pe_call (ok_check_moment T) (hr.mono (by decide)) rfl T.check_moment.g T.check_moment.F.kp T.check_moment.b .nil pass0 (pa_cons (pe_prop (pv 0) T.History.cl T.p_History_network.h (ok_History_network T) (hr.mono (by decide)) T.History_network.b .nil pass0n rfl) (pa_cons (pv 2) pa_nil))))
  (pss_one (ps_ret (pe_call (ok_spans_between T X1) (hr.mono (by decide)) rfl T.spans_between.g T.spans_between.F.kp T.spans_between.b .nil pass0 (pa_cons (pv 0) (pa_cons (pe_lst (pa_cons (pe_tup (pa_cons (pe_gcV rfl T.c_MOMENT) (pa_cons (pv 1) pa_nil))) (pa_cons (pe_tup (pa_cons (pe_gcV rfl T.c_OTHER) (pa_cons (pv 2) pa_nil))) pa_nil))) (pa_cons (pe_gcV rfl T.c_MOMENT) (pa_cons (pe_gcV rfl T.c_OTHER) pa_nil))))))))), ?_⟩
    fail "go"
    refine ⟨a, dx, fs, rfl, S.isin e1, ?_⟩
    refine c_pur S ((lean, vs'), ds) ⟨a, rfl, hi'⟩ fun G1 H1 v1 s1 S1 w1 => ?_
    obtain ⟨n1, rfl, hn1⟩ := w1
    fail "go"
    refine c_pur S1 ((lean, vs'), s) ⟨⟨n1, m, rfl, hn1, s1.to em⟩, ⟨_, lk_mem si.1⟩, si.2⟩ fun G2 H2 v2 s2 S2 w2 => ?_
    fail "go"
    have s02 := s1.tr s2
    refine ⟨a, dx, fs, rfl, S2.isin (s02.to e1), ?_⟩
    refine c_pur S2 ((lean, vs'), ds) ⟨a, rfl, hi'.mono s02⟩ fun G6 H6 v6 s6 S6 w6 => ?_
    obtain ⟨n6, rfl, hn6⟩ := w6
    fail "go"
    have s06 := s02.tr s6
    refine c_pur S6 ((lean, vs'), u) ⟨⟨n6, n', rfl, hn6, s06.to en⟩, ⟨_, lk_mem ui.1⟩, ui.2⟩ fun G7 H7 v7 s7 S7 w7 => ?_
    have s07 := s06.tr s7
    fail "go"
    refine n_fix S7 fun p3 G3 H3 s3 S3 e3 => ?_
    fail "go"
    refine n_fix S3 fun p8 G8 H8 s8 S8 e8 => ?_
    fail "go"
    refine n_fix S8 fun p4 G4 H4 s4 S4 e4 => ?_
    fail "go"
    have s04 := s07.tr (s3.tr (s8.tr s4))
    refine c_purH S4 ((((lean, vs'), ds), [("moment", s), ("other", u)]), "moment", "other") ⟨⟨a, _, rfl, hi'.mono s04, ⟨p4, _, rfl, e4, _, _, rfl, rep_mom.mpr ⟨p3, m, rfl, s4.to (s8.to e3), s04.to em⟩, _, [], rfl, rep_mom.mpr ⟨p8, n', rfl, s4.to e8, s04.to en⟩, rfl⟩⟩, ok, ⟨Nat.le_of_ble_eq_true rfl, fun m hm => by
      rcases List.mem_cons.mp hm with rfl | hm
      · exact si.1
      · rw [List.mem_singleton.mp hm]; exact ui.1⟩, S4.tabs ht⟩ fun G5 H5 v5 s5 S5 w5 => ?_
    obtain ⟨l, rl, hl⟩ := w5
    refine q _ _ _ S5.go ⟨l, rl, (spans_desc hl).congr fun v => ?_⟩
    exact (ptable_2 ok.nd ok.evs (by decide) si.1 ui.1).apart (by decide) (by decide) (by decide) v
end
section
variable {P : Program} {w : World} {K : PySem.W.Frag} {mg : Str → Option Value} {base : Heap} [TL]
def spChoices : Sp := Pur (fun G vs (x : List (Str × Int) × List Str) => ∃ v, vs = [v] ∧ Rep G (dNet x.1 x.2) v) fun G _ _ v => ∃ l t, v = .ref l ∧ G l = some (.lst [.ref t]) ∧ G t = some (.tup [])
theorem ok_law_choices (T : Txt K mg) : FnOk P w K mg base CX0 1 T.law_choices.a T.law_choices.fd ["_law_net"] spChoices := by
  refine T.law_choices.F.ok sc_law_choices (fun vs H Q E h => ?_) (fun cdv A outer s H vs Q E hr h => ?_)
  · obtain ⟨_, _, _, ⟨_, rfl, _⟩, _⟩ := h
    rfl
  · obtain ⟨⟨lean, vo⟩, G, hs, ⟨v, rfl, rn⟩, q⟩ := h
    dsimp only at rn q
    obtain ⟨a, b, c, rfl, ea, eb, ec⟩ := rep_net.mp rn
    have hu := hu_of hr
    have S := Sta.start hs
    refine ⟨_, (pss_cons (ps_set (i := 1) sc_law_choices.nd rfl (Or.inl rfl) (pe_lst (pa_cons (pe_tup pa_nil) pa_nil)))
  (pss_cons (ps_for PassesOwn.never rfl (pi_range1 rfl T.z_range (pa_cons (pe_ix (y_ixT (K := K) rfl) (pv 0) pe_int (fun _ _ => rfl)) pa_nil)) (pg_name (i := 2) sc_law_choices.nd rfl (Or.inl rfl))
  pss_never)
  (pss_one (ps_ret (pv 1))))), ?_⟩
    fail "go"
    refine n_fix S fun p1 G1 H1 s1 S1 e1 => ?_
    fail "go"
    refine n_fix S1 fun p2 G2 H2 s2 S2 e2 => ?_
    fail "go"
    refine l_rng 0 (by decide) ?_
    refine for_r (fun i σ H1 => σ = [some (.ref a), some (.ref p2), none, none, none, none] ∧ H1 = H2) ⟨rfl, rfl⟩ (fun σ H1 h => ?_) (fun i σ H1 hi h => absurd hi (Nat.not_lt_zero _))
    obtain ⟨rfl, rfl⟩ := h
    fail "go"
    exact q _ _ _ S2.go ⟨p2, p1, rfl, e2, s2.to e1⟩
/-- the nodes of the law's graph -/
def spotK : Nat → Key
  | 0 => .inr "spot0"
  | _ => .inr "spot1"
def zeroK : Key := .inr "zero"
def nodesK (n m : Nat) : List Key := [zeroK] ++ (List.range n).map (fun i : Nat => (Sum.inl (i : Int) : Key)) ++ (List.range m).map spotK
def spNodes : Sp := Pur (fun G vs (x : Nat × Nat) => ∃ a b fs gs, vs = [.ref a, .ref b] ∧ G a = some (.lst fs) ∧ fs.length = x.1 ∧ x.1 ≤ 30 ∧ G b = some (.lst gs) ∧ gs.length = x.2 ∧ x.2 ≤ 2) fun G _ x v => ∃ l, v = .ref l ∧ G l = some (.lst ((nodesK x.1 x.2).map kV))
theorem spot_name (i : Nat) (h : i < 2) : V.str (("spot" : Str) ++ Str.ofString (toString ((0 : Int) + (i : Int)))) = kV (spotK i) := by
  have : i = 0 ∨ i = 1 := by omega
  rcases this with rfl | rfl
  · exact congrArg V.str (by decide +kernel)
  · exact congrArg V.str (by decide +kernel)
theorem ok_law_nodes (T : Txt K mg) : FnOk P w K mg base CX0 1 T.law_nodes.a T.law_nodes.fd ["_law_deeds_here", "_law_spots"] spNodes := by
  refine T.law_nodes.F.ok sc_law_nodes (fun vs H Q E h => ?_) (fun cdv A outer s H vs Q E hr h => ?_)
  · obtain ⟨_, _, _, ⟨_, _, _, _, rfl, _⟩, _⟩ := h
    rfl
  · obtain ⟨⟨n, m⟩, G, hs, ⟨a, b, fs, gs, rfl, ea, hf, hn, eb, hg, hm⟩, q⟩ := h
    dsimp only at hf hn hg hm q
    have hu := hu_of hr
    have S := Sta.start hs
    refine ⟨_, (pss_one (ps_ret (pe_op op_cat (pe_op op_cat (pe_lst (pa_cons pe_str pa_nil)) (pe_listRg rfl rfl T.z_list (prg_1 rfl T.z_range (pe_callB (y_len (K := K) rfl) rfl T.z_len (by decide +kernel) (pa_cons (pv 0) pa_nil))))) (pe_lc (own := [("_law_k", 2)]) rfl sc_law_nodes.nd (pi_range1 rfl T.z_range (pa_cons (pe_callB (y_len (K := K) rfl) rfl T.z_len (by decide +kernel) (pa_cons (pv 1) pa_nil)) pa_nil)) (blkOk_by (own := [("_law_k", 2)]) (N := n_law_nodes) (sc := defScope s_law_nodes) (by decide +kernel)) (fun _ _ _ _ _ => (pg_name (i := 2) sc_law_nodes.nd rfl (Or.inl rfl))) (fun _ _ _ _ _ => pts_nil) (fun _ _ _ _ _ => (pe_op k_addS pe_str (pe_callTy k_strI rfl T.z_str (by decide +kernel) (pa_cons (pv 2) pa_nil)))))))), ?_⟩
    fail "go"
    refine n_fix S fun p1 G1 H1 s1 S1 e1 => ?_
    fail "go"
    have rg : rgV 0 (fs.length : Int) = ((List.range n).map (fun i : Nat => (Sum.inl (i : Int) : Key))).map kV := by
      unfold rgV
      rw [List.map_map, hf, Int.sub_zero, Int.toNat_natCast]
      refine List.map_congr_left fun i _ => ?_
      show V.int (0 + (i : Int)) = V.int (i : Int)
      rw [Int.zero_add]
    refine ⟨RgOk.of_le (by decide) (by omega) (by decide) (by omega), ?_⟩
    rw [rg]
    refine n_fix S1 fun p2 G2 H2 s2 S2 e2 => ?_
    refine ls_cat (xs := [.str "zero"]) (by fail "hp") (by fail "hp") (by rw [List.length_map, List.length_map, List.length_range]; show 1 + n ≤ 1000; omega) (n_fix S2 fun p3 G3 H3 s3 S3 e3 => ?_)
    fail "go"
    refine l_rng gs.length (by omega) ?_
    refine lc_r S3 (fun i _ acc => acc = ((List.range i).map spotK).map kV) rfl (fun l G4 H4 acc s4 S4 hl hv => ?_) (fun i l G4 H4 acc hi s4 S4 hl hv => ?_)
    · rw [hg] at hv
      subst hv
      refine ls_cat (by fail "hp") (by fail "hp") (by simp; omega) (n_fix S4 fun p5 G5 H5 s5 S5 e5 => ?_)
      refine q _ _ _ S5.go ⟨p5, rfl, ?_⟩
      rw [e5]
      unfold nodesK
      rw [List.map_append, List.map_append]
      rfl
    · subst hv
      fail "go"
      refine l_strI (by have : (0 : Int) + (i : Int) = 0 ∨ (0 : Int) + (i : Int) = 1 := by omega
                        rcases this with e | e <;> rw [e] <;> decide) ?_
      refine l_addS (by have : (0 : Int) + (i : Int) = 0 ∨ (0 : Int) + (i : Int) = 1 := by omega
                        rcases this with e | e <;> rw [e] <;> decide +kernel) ?_
      rw [spot_name i (by omega)]
      refine lc_in s4 S4 (by omega) (by omega) ?_
      rw [List.range_succ, List.map_append, List.map_append]
      rfl
end
section
variable {P : Program} {w : World} {K : PySem.W.Frag} {mg : Str → Option Value} {base : Heap} [TL]
def PurOT {α : Type} (args : Hp → Hp → List V → α → Prop) (out : Hp → α → HO → Prop) : Sp := fun vs H Q _ => ∃ (a : α) (G : Hp), Sub G H ∧ args G H vs a ∧ ∀ G' H' p o, Go M0 G H G' H' → H p = none → H' p = some o → G' p = none → Pln o → out G' a o → Q (.ref p) H'
theorem c_purOT {α : Type} {args : Hp → Hp → List V → α → Prop} {out : Hp → α → HO → Prop} {vs : List V} {Q : VK} {E : XK} {M : Addr → Prop} {D : Option Dr} {G0 H0 G H : Hp} {L : List (Addr × HO)} (S : Sta M D G0 H0 G H L) (a : α) (h : args G H vs a) (q : ∀ G' H' p o, Sub G G' → Sta M D G0 H0 G' H' ((p, o) :: L) → out G' a o → Q (.ref p) H') : PurOT args out vs H Q E :=
  ⟨a, G, S.inn, h, fun G' H' p o g hn e hg hp w => q G' H' p o g.sub (S.callO g hn e hg hp) w⟩
theorem lc_g {J : It} {g : TG} {tt : TT} {te : TE} {vs : List Nat} {σ : L2.St} {Q : VK} {M : Addr → Prop} {D : Option Dr} {G0 H0 G H : Hp} {L : List (Addr × HO)} (S : Sta M D G0 H0 G H L) (n : Nat) (inv : Addr → Nat → Hp → Prop) (h0 : ∀ l H1, Sta M D G0 H0 G H1 ((l, .lst []) :: L) → inv l 0 H1) (stop : ∀ l H1, inv l n H1 → J.stop n H1 ∧ Q (.ref l) H1)
    (go : ∀ l i H1, i < n → inv l i H1 → J.go i H1 ∧ ∀ x H2, J.yld i H1 x H2 → g x (wipe σ vs) H2 fun σ2 H2 => wipe σ2 vs = wipe σ vs ∧ tt σ2 H2 fun b H3 =>
      if b = true then te σ2 H3 fun y H4 => ∃ acc, H4 l = some (.lst acc) ∧ acc.length < sizeLine ∧ inv l (i + 1) (upd H4 l (.lst (acc ++ [y]))) else inv l (i + 1) H3) : LcB J g tt te vs σ Q H := by
  intro l hl
  refine ⟨fun i m H1 => m = n - i ∧ i ≤ n ∧ inv l i H1, ⟨n, rfl, Nat.zero_le _, h0 l _ (S.mine hl pln_lst)⟩, ?_⟩
  rintro i m H1 ⟨rfl, hi, hv⟩
  by_cases q : i = n
  · subst q
    exact .inl (stop l H1 hv)
  · obtain ⟨h1, h2⟩ := go l i H1 (by omega) hv
    exact .inr ⟨h1, inv l (i + 1), fun H' h => ⟨n - (i + 1), by omega, rfl, by omega, h⟩, h2⟩
/-- points: tick, kind, node -/
abbrev Pt3 := Int × Int × Key
def dPt (p : Pt3) : Da := .tup [.int p.1, .int p.2.1, dKey p.2.2]
theorem rep_pt {G : Hp} {p : Pt3} {v : V} : Rep G (dPt p) v ↔ ∃ a, v = .ref a ∧ G a = some (.tup [.int p.1, .int p.2.1, kV p.2.2]) := by
  constructor
  · rintro ⟨a, vs, rfl, e, v1, r1, rfl, h1, v2, r2, rfl, h2, v3, r3, rfl, h3, rfl⟩
    obtain rfl : v1 = .int p.1 := h1
    obtain rfl : v2 = .int p.2.1 := h2
    obtain rfl := rep_key.mp h3
    exact ⟨a, rfl, e⟩
  · rintro ⟨a, rfl, e⟩
    exact ⟨a, _, rfl, e, _, _, rfl, rfl, _, _, rfl, rfl, _, _, rfl, rep_key.mpr rfl, rfl⟩
def dRule (e : (Key × Key) × Int) : Da := .tup [dKey e.1.1, dKey e.1.2, .int e.2]
theorem rep_rule {G : Hp} {e : (Key × Key) × Int} {v : V} : Rep G (dRule e) v ↔ ∃ a, v = .ref a ∧ G a = some (.tup [kV e.1.1, kV e.1.2, .int e.2]) := by
  constructor
  · rintro ⟨a, vs, rfl, ea, v1, r1, rfl, h1, v2, r2, rfl, h2, v3, r3, rfl, h3, rfl⟩
    obtain rfl := rep_key.mp h1
    obtain rfl := rep_key.mp h2
    obtain rfl : v3 = .int e.2 := h3
    exact ⟨a, rfl, ea⟩
  · rintro ⟨a, rfl, ea⟩
    exact ⟨a, _, rfl, ea, _, _, rfl, rep_key.mpr rfl, _, _, rfl, rep_key.mpr rfl, _, _, rfl, rfl, rfl⟩
def sPts : Nat → List (Str × Int) → Str → List Pt3
  | _, [], _ => []
  | k, u :: us, s => if u.1 = s then (u.2, 1, spotK k) :: sPts (k + 1) us s else sPts (k + 1) us s
theorem sPts_snoc {u : Str × Int} {s : Str} : ∀ {k : Nat} {us : List (Str × Int)}, sPts k (us ++ [u]) s = sPts k us s ++ (if u.1 = s then [(u.2, 1, spotK (k + us.length))] else [])
  | k, [] => by
    show (if u.1 = s then [(u.2, 1, spotK k)] else []) = _
    rw [List.length_nil, Nat.add_zero]
    rfl
  | k, e :: us => by
    have ih := sPts_snoc (u := u) (s := s) (k := k + 1) (us := us)
    have e1 : k + 1 + us.length = k + (e :: us).length := by rw [List.length_cons]; omega
    rw [e1] at ih
    show (if e.1 = s then _ :: sPts (k + 1) (us ++ [u]) s else sPts (k + 1) (us ++ [u]) s) = (if e.1 = s then _ :: sPts (k + 1) us s else sPts (k + 1) us s) ++ _
    rw [ih]
    by_cases g : e.1 = s
    · rw [if_pos g, if_pos g]
      rfl
    · rw [if_neg g, if_neg g]
theorem sPts_len {s : Str} : ∀ {k : Nat} {us : List (Str × Int)}, (sPts k us s).length ≤ us.length
  | _, [] => Nat.le_refl _
  | k, e :: us => by
    have ih := sPts_len (s := s) (k := k + 1) (us := us)
    show (if e.1 = s then _ :: sPts (k + 1) us s else sPts (k + 1) us s).length ≤ _
    by_cases g : e.1 = s
    · rw [if_pos g]
      exact Nat.succ_le_succ ih
    · rw [if_neg g]
      exact Nat.le_succ_of_le ih
theorem sPts_mem {s : Str} {p : Pt3} : ∀ {us : List (Str × Int)} {k : Nat}, p ∈ sPts k us s ↔ ∃ (i : Nat) (u : Str × Int), us[i]? = some u ∧ u.1 = s ∧ p = (u.2, 1, spotK (k + i))
  | [], k => ⟨fun h => (nomatch h), fun ⟨i, d, h, _⟩ => by simp at h⟩
  | e :: us, k => by
    have ih := sPts_mem (s := s) (p := p) (us := us) (k := k + 1)
    have tail : (∃ (i : Nat) (u : Str × Int), us[i]? = some u ∧ u.1 = s ∧ p = (u.2, 1, spotK (k + 1 + i))) ↔ ∃ (i : Nat) (u : Str × Int), (e :: us)[i + 1]? = some u ∧ u.1 = s ∧ p = (u.2, 1, spotK (k + (i + 1))) := by
      constructor
      · rintro ⟨i, d, a, b, c⟩
        exact ⟨i, d, by simpa using a, b, by rw [c, show k + 1 + i = k + (i + 1) by omega]⟩
      · rintro ⟨i, d, a, b, c⟩
        exact ⟨i, d, by simpa using a, b, by rw [c, show k + 1 + i = k + (i + 1) by omega]⟩
    show p ∈ (if e.1 = s then (e.2, 1, spotK k) :: sPts (k + 1) us s else sPts (k + 1) us s) ↔ _
    by_cases h : e.1 = s
    · rw [if_pos h, List.mem_cons, ih, tail]
      constructor
      · rintro (rfl | ⟨i, d, a, b, c⟩)
        · exact ⟨0, e, rfl, h, rfl⟩
        · exact ⟨i + 1, d, a, b, c⟩
      · rintro ⟨i, d, a, b, c⟩
        cases i with
        | zero =>
          cases a
          exact .inl c
        | succ i => exact .inr ⟨i, d, a, b, c⟩
    · rw [if_neg h, ih, tail]
      constructor
      · rintro ⟨i, d, a, b, c⟩
        exact ⟨i + 1, d, a, b, c⟩
      · rintro ⟨i, d, a, b, c⟩
        cases i with
        | zero =>
          cases a
          exact absurd b h
        | succ i => exact ⟨i, d, a, b, c⟩
def evPts (ds : List (Sh.Deed Str)) (s : Str) : List Pt3 := (lineOf 0 ds s).map fun p => (p.1, 0, p.2)
def ptsOf (ds : List (Sh.Deed Str)) (us : List (Str × Int)) (s : Str) : List Pt3 := evPts ds s ++ sPts 0 us s
theorem rep_perm {α : Type} {G : Hp} {f : α → Da} {xs ys : List V} (p : xs.Perm ys) : ∀ {ps : List α}, RepL G (ps.map f) xs → ∃ qs : List α, qs.Perm ps ∧ RepL G (qs.map f) ys := by
  induction p with
  | nil => exact fun {ps} r => ⟨ps, List.Perm.refl _, r⟩
  | cons x _ ih =>
    intro ps r
    cases ps with
    | nil => exact nomatch (show _ = [] from r)
    | cons a ps =>
      obtain ⟨v, r', e, h1, h2⟩ := r
      cases e
      obtain ⟨qs, hp, hq⟩ := ih h2
      exact ⟨a :: qs, hp.cons a, _, _, rfl, h1, hq⟩
  | swap x y l =>
    intro ps r
    match ps, r with
    | [], r => exact nomatch (show _ = [] from r)
    | [a], ⟨v, r', e, h1, h2⟩ =>
      cases e
      exact nomatch (show _ = [] from h2)
    | a :: b :: ps, ⟨v, r', e, h1, v2, r2, e2, h3, h4⟩ =>
      cases e
      cases e2
      exact ⟨b :: a :: ps, List.Perm.swap _ _ _, _, _, rfl, h3, _, _, rfl, h1, h4⟩
  | trans _ _ ih1 ih2 =>
    intro ps r
    obtain ⟨qs, p1, r1⟩ := ih1 r
    obtain ⟨qs2, p2, r2⟩ := ih2 r1
    exact ⟨qs2, p2.trans p1, r2⟩
/-- the key of an item, its tick -/
def strOf : V → Str
  | .int n => toString n
  | .str y => y
  | _ => ""
def keyOf (G : Hp) : V → PyData
  | .ref t => match G t with
    | some (.tup [.int i, .int j, z]) => .tuple [.int i, .int j, .str (strOf z)]
    | _ => .none
  | _ => .none
def tickOf (G : Hp) : V → Int
  | .ref t => match G t with
    | some (.tup [.int i, .int _, _]) => i
    | _ => 0
  | _ => 0
theorem key_pt {G : Hp} {p : Pt3} {v : V} (h : Rep G (dPt p) v) : keyOf G v = .tuple [.int p.1, .int p.2.1, .str (strOf (kV p.2.2))] ∧ tickOf G v = p.1 := by
  obtain ⟨t, rfl, e⟩ := rep_pt.mp h
  unfold keyOf tickOf
  simp only [e]
  exact ⟨trivial, trivial⟩
theorem sorted_tick {β : Type} {k : β → PyData} {tk : β → Int} {l : List β} (h : ∀ b ∈ l, ∃ j y, k b = .tuple [.int (tk b), .int j, .str y]) : (l.mergeSort (PySem.W.dataLe false k)).Pairwise fun x y => tk x ≤ tk y := by
  have hp := List.mergeSort_perm l (PySem.W.dataLe false k)
  refine (PySem.W.sort_pairwise (PySem.W.sortLe_total (PyProof.Rows.listOrd PyProof.Rows.itemOrd) false fun b => PySem.W.keyToks (k b)) l).imp_of_mem fun {x y} hx hy hle => ?_
  obtain ⟨j1, y1, e1⟩ := h x (hp.mem_iff.mp hx)
  obtain ⟨j2, y2, e2⟩ := h y (hp.mem_iff.mp hy)
  by_cases c : tk x ≤ tk y
  · exact c
  · exfalso
    have hle : (!PyProof.Rows.lexLt PyProof.Rows.itemOrd (PySem.W.keyToks (k y)) (PySem.W.keyToks (k x))) = true := hle
    rw [e1, e2] at hle
    have k1 : ∀ (a j : Int) (s : Str), PySem.W.keyToks (.tuple [.int a, .int j, .str s]) = .inl 1 :: .inl a :: PySem.W.keyToksAll [.int j, .str s] := fun a j s => by simp [PySem.W.keyToks, PySem.W.keyToksAll]
    rw [k1, k1, PyProof.Rows.lex_self, PyProof.Rows.lex_diff (fun z => c (by have := Sum.inl.inj z; omega))] at hle
    have : PyProof.Rows.itemLt (.inl (tk y)) (.inl (tk x)) = true := decide_eq_true (by omega)
    have hle : (!PyProof.Rows.itemLt (.inl (tk y)) (.inl (tk x))) = true := hle
    rw [this] at hle
    cases hle
end
section
variable {P : Program} {w : World} {K : PySem.W.Frag} {mg : Str → Option Value} {base : Heap} [TL]
theorem cel_app {M : Addr → Prop} {D : Option Dr} {G0 H0 G H : Hp} {p : Addr} {cs : List Cel} {k : Nat} {c : Cel} {y : V} {Q : VK} (S : Sta M D G0 H0 G H ((p, .dK (celK cs)) :: celL cs)) (hk : cs[k]? = some c) (hl : c.2.2.length ≤ 1000)
    (q : ∀ H', Sta M D G0 H0 G H' ((p, .dK (celK (cs.set k (c.1, c.2.1, c.2.2 ++ [y])))) :: celL (cs.set k (c.1, c.2.1, c.2.2 ++ [y]))) → Q .non H') : rAppend (.ref c.2.1) [y] H Q := by
  have hL : ((p, HO.dK (celK cs)) :: celL cs)[k + 1]? = some (c.2.1, .lst c.2.2) := by
    show (celL cs)[k]? = _
    unfold celL
    rw [List.getElem?_map, hk]
    rfl
  refine ls_app S (k + 1) hL hl fun H' S' => q H' ?_
  rw [celK_set hk, celL_set]
  exact S'
structure CelOk (G : Hp) (cs : List Cel) (names : List Str) (F : Str → List Pt3) : Prop where
  nm : cs.map Prod.fst = names
  at_ : ∀ (k : Nat) (c : Cel), cs[k]? = some c → RepL G ((F c.1).map dPt) c.2.2
theorem CelOk.app {G G' : Hp} {cs : List Cel} {names : List Str} {F F' : Str → List Pt3} {k : Nat} {c : Cel} {pt : Pt3} {y : V} (h : CelOk G cs names F) (nd : names.Nodup) (hk : cs[k]? = some c) (s : Sub G G') (r : Rep G' (dPt pt) y) (hF : ∀ s, F' s = F s ++ if c.1 = s then [pt] else []) : CelOk G' (cs.set k (c.1, c.2.1, c.2.2 ++ [y])) names F' where
  nm := by rw [cel_name hk]; exact h.nm
  at_ := fun k' c' hk' => by
    rw [List.getElem?_set] at hk'
    rw [hF]
    by_cases ek : k = k'
    · subst ek
      rw [if_pos rfl, if_pos (List.getElem?_eq_some_iff.mp hk).1] at hk'
      cases hk'
      rw [if_pos rfl, List.map_append]
      exact ((h.at_ k c hk).mono s).snoc r
    · rw [if_neg ek] at hk'
      have hne : ¬ c.1 = c'.1 := fun z => ek (by
        rw [← h.nm] at nd
        exact nodup_get nd (i := k) (j := k') (x := c.1) (by rw [List.getElem?_map, hk]; rfl) (by rw [List.getElem?_map, hk', z]; rfl))
      rw [if_neg hne, List.append_nil]
      exact (h.at_ k' c' hk').mono s
theorem CelOk.find {G : Hp} {cs : List Cel} {names : List Str} {F : Str → List Pt3} (h : CelOk G cs names F) {s : Str} (hs : s ∈ names) : ∃ (k : Nat) (c : Cel), cs[k]? = some c ∧ c.1 = s := by
  rw [← h.nm] at hs
  obtain ⟨c, hc, ec⟩ := List.mem_map.mp hs
  obtain ⟨k, hk⟩ := List.getElem?_of_mem hc
  exact ⟨k, c, hk, ec⟩
theorem evPts_snoc {ds : List (Sh.Deed Str)} {d : Sh.Deed Str} {s : Str} : evPts (ds ++ [d]) s = evPts ds s ++ if d.st = s then [(d.tick, 0, .inl ((ds.length : Nat) : Int))] else [] := by
  unfold evPts
  rw [lineOf_snoc, List.map_append, Nat.zero_add]
  congr 1
  split <;> rfl
theorem evPts_len {ds : List (Sh.Deed Str)} {s : Str} : (evPts ds s).length ≤ ds.length := by
  unfold evPts
  rw [List.length_map]
  exact lineOf_len
theorem ptsOf_len {ds : List (Sh.Deed Str)} {us : List (Str × Int)} {s : Str} : (ptsOf ds us s).length ≤ ds.length + us.length := by
  unfold ptsOf
  rw [List.length_append]
  exact Nat.add_le_add evPts_len sPts_len
def ruleL (d : Int) (pq : Pt3 × Pt3) : Tb := [((pq.1.2.2, pq.2.2.2), (pq.2.1 - pq.1.1) * (1000 + d)), ((pq.2.2.2, pq.1.2.2), -(pq.2.1 - pq.1.1) * (1000 - d))]
def rulesL (d : Int) (ps : List Pt3) : Tb := (ps.zip (ps.drop 1)).flatMap (ruleL d)
def lineP (ps : List Pt3) : List (Int × Key) := ps.map fun p => (p.1, p.2.2)
theorem runs_app {R R' : Tb} {τ : Key → Int} : Sh.Runs (R ++ R') τ ↔ Sh.Runs R τ ∧ Sh.Runs R' τ :=
  ⟨fun h => ⟨fun e he => h e (List.mem_append_left _ he), fun e he => h e (List.mem_append_right _ he)⟩, fun h e he => (List.mem_append.mp he).elim (h.1 e) (h.2 e)⟩
theorem rulesL_runs {d : Int} {τ : Key → Int} : ∀ {ps : List Pt3}, Sh.Runs (rulesL d ps) τ ↔ Sh.AdjOk d τ (lineP ps)
  | [] => ⟨fun _ => trivial, fun _ _ h => nomatch h⟩
  | [_] => ⟨fun _ => trivial, fun _ _ h => nomatch h⟩
  | p :: q :: r => by
    have e : rulesL d (p :: q :: r) = ruleL d (p, q) ++ rulesL d (q :: r) := rfl
    have e2 : lineP (p :: q :: r) = (p.1, p.2.2) :: (q.1, q.2.2) :: lineP r := rfl
    rw [e, runs_app, rulesL_runs (ps := q :: r), e2]
    show _ ↔ Sh.Rl d p.1 q.1 (τ p.2.2) (τ q.2.2) ∧ Sh.AdjOk d τ (lineP (q :: r))
    refine and_congr_left fun _ => ?_
    rw [Sh.rl_edges]
    constructor
    · intro h
      exact ⟨h _ (List.mem_cons_self), h _ (List.mem_cons_of_mem _ List.mem_cons_self)⟩
    · rintro ⟨h1, h2⟩ x hx
      rcases List.mem_cons.mp hx with rfl | hx
      · exact h1
      · rw [List.mem_singleton.mp hx]
        exact h2
theorem rulesL_len (d : Int) (ps : List Pt3) : (rulesL d ps).length ≤ 2 * ps.length := by
  unfold rulesL
  rw [List.length_flatMap]
  have : ((ps.zip (ps.drop 1)).map fun pq => (ruleL d pq).length) = (ps.zip (ps.drop 1)).map fun _ => 2 := List.map_congr_left fun _ _ => rfl
  rw [this, List.map_const', List.sum_replicate_nat, List.length_zip, List.length_drop]
  omega
theorem gap_b {m d : Int} (h1 : -2000 ≤ m) (h2 : m ≤ 2000) (h3 : 0 ≤ d) (h4 : d ≤ 500) : (-3000000 ≤ m * (1000 + d) ∧ m * (1000 + d) ≤ 3000000) ∧ -3000000 ≤ -m * (1000 - d) ∧ -m * (1000 - d) ≤ 3000000 := by
  have a1 := Int.mul_le_mul_of_nonneg_right h2 (show 0 ≤ 1000 + d by omega)
  have a2 := Int.mul_le_mul_of_nonneg_right h1 (show 0 ≤ 1000 + d by omega)
  have b1 := Int.mul_le_mul_of_nonneg_right (show -m ≤ 2000 by omega) (show 0 ≤ 1000 - d by omega)
  have b2 := Int.mul_le_mul_of_nonneg_right (show -2000 ≤ -m by omega) (show 0 ≤ 1000 - d by omega)
  omega
theorem rulesL_mem {d : Int} {ps : List Pt3} {e : (Key × Key) × Int} (h : e ∈ rulesL d ps) : ∃ p ∈ ps, ∃ q ∈ ps, e ∈ ruleL d (p, q) := by
  obtain ⟨⟨p, q⟩, hpq, he⟩ := List.mem_flatMap.mp h
  have hz := List.of_mem_zip hpq
  exact ⟨p, hz.1, q, List.mem_of_mem_drop hz.2, he⟩
/-- a station's points, in the law's graph -/
def PmL (ds : List (Sh.Deed Str)) (us : List (Str × Int)) (s : Str) (p : Int × Key) : Prop := ∃ k, (p.1, k, p.2) ∈ ptsOf ds us s
theorem ptsOf_mem {ds : List (Sh.Deed Str)} {us : List (Str × Int)} {s : Str} {p : Pt3} : p ∈ ptsOf ds us s ↔ (∃ (i : Nat) (d : Sh.Deed Str), ds[i]? = some d ∧ d.st = s ∧ p = (d.tick, 0, .inl (i : Int))) ∨ ∃ (i : Nat) (u : Str × Int), us[i]? = some u ∧ u.1 = s ∧ p = (u.2, 1, spotK i) := by
  unfold ptsOf evPts
  rw [List.mem_append, sPts_mem, List.mem_map]
  refine or_congr ?_ ?_
  · constructor
    · rintro ⟨q, hq, rfl⟩
      obtain ⟨i, d, a, b, rfl⟩ := lineOf_mem.mp hq
      exact ⟨i, d, a, b, by rw [Nat.zero_add]⟩
    · rintro ⟨i, d, a, b, rfl⟩
      exact ⟨(d.tick, .inl (i : Int)), lineOf_mem.mpr ⟨i, d, a, b, by rw [Nat.zero_add]⟩, rfl⟩
  · constructor
    · rintro ⟨i, u, a, b, c⟩
      exact ⟨i, u, a, b, by rw [c, Nat.zero_add]⟩
    · rintro ⟨i, u, a, b, c⟩
      exact ⟨i, u, a, b, by rw [c, Nat.zero_add]⟩
def spotsL (us : List (Str × Int)) : List (Sh.PntK Str Key) := us.mapIdx fun k u => (u.1, u.2, spotK k)
theorem pml_ptk {ds : List (Sh.Deed Str)} {us : List (Str × Int)} {s : Str} {p : Int × Key} : PmL ds us s p ↔ Sh.PtK ds Sh.evN (spotsL us) (s, p.1, p.2) := by
  unfold PmL Sh.PtK spotsL
  constructor
  · rintro ⟨k, h⟩
    rcases ptsOf_mem.mp h with ⟨i, d, a, b, c⟩ | ⟨i, u, a, b, c⟩
    · have e1 : p.1 = d.tick := congrArg Prod.fst c
      have e2 : p.2 = .inl (i : Int) := congrArg (fun z => z.2.2) c
      exact .inl ⟨i, d, a, by rw [e1, e2, b]; rfl⟩
    · have e1 : p.1 = u.2 := congrArg Prod.fst c
      have e2 : p.2 = spotK i := congrArg (fun z => z.2.2) c
      refine .inr (List.mem_mapIdx.mpr ?_)
      obtain ⟨hi, rfl⟩ := List.getElem?_eq_some_iff.mp a
      exact ⟨i, hi, by rw [e1, e2, b]⟩
  · rintro (⟨i, d, a, e⟩ | h)
    · have e1 : s = d.st := congrArg Prod.fst e
      have e2 : p.1 = d.tick := congrArg (fun z => z.2.1) e
      have e3 : p.2 = Sh.evN i := congrArg (fun z => z.2.2) e
      exact ⟨0, ptsOf_mem.mpr (.inl ⟨i, d, a, e1.symm, by rw [e2, e3]; rfl⟩)⟩
    · obtain ⟨i, hi, e⟩ := List.mem_mapIdx.mp h
      have e1 : us[i].1 = s := congrArg Prod.fst e
      have e2 : us[i].2 = p.1 := congrArg (fun z => z.2.1) e
      have e3 : spotK i = p.2 := congrArg (fun z => z.2.2) e
      exact ⟨1, ptsOf_mem.mpr (.inr ⟨i, us[i], List.getElem?_eq_getElem hi, e1, by rw [e2, e3]⟩)⟩
theorem line_all {d : Int} {τ : Key → Int} {ds : List (Sh.Deed Str)} {us : List (Str × Int)} {s : Str} {ps : List Pt3} (h : ps.Perm (ptsOf ds us s)) (hs : ps.Pairwise fun p q => p.1 ≤ q.1) : Sh.AdjOk d τ (lineP ps) ↔ Sh.AllOk d τ (PmL ds us s) := by
  have hs2 : (lineP ps).Pairwise fun p q => p.1 ≤ q.1 := List.Pairwise.map _ (fun a b h => h) hs
  rw [Sh.adj_all hs2]
  refine Sh.AllOk.congr fun p => ?_
  unfold PmL lineP
  rw [List.mem_map]
  constructor
  · rintro ⟨q, hq, rfl⟩
    exact ⟨q.2.1, h.mem_iff.mp hq⟩
  · rintro ⟨k, hk⟩
    exact ⟨(p.1, k, p.2), h.mem_iff.mpr hk, rfl⟩
theorem drift_law {lean : List (Str × Int)} {ds : List (Sh.Deed Str)} {us : List (Str × Int)} {τ : Key → Int} (hd : ∀ d ∈ ds, d.st ∈ lean.map Prod.fst) (hu : ∀ u ∈ us, u.1 ∈ lean.map Prod.fst) : (∀ s ∈ lean.map Prod.fst, Sh.AllOk (lk lean s) τ (PmL ds us s)) ↔ Sh.DriftK (lk lean) τ (Sh.PtK ds Sh.evN (spotsL us)) := by
  rw [Sh.drift_lines]
  constructor
  · intro h s
    by_cases hm : s ∈ lean.map Prod.fst
    · exact (Sh.AllOk.congr fun p => pml_ptk).mp (h s hm)
    · intro p q hp _ _
      exfalso
      obtain ⟨k, hk⟩ := pml_ptk.mpr hp
      rcases ptsOf_mem.mp hk with ⟨i, d, a, b, _⟩ | ⟨i, u, a, b, _⟩
      · exact hm (b ▸ hd d (List.mem_of_getElem? a))
      · exact hm (b ▸ hu u (List.mem_of_getElem? a))
  · intro h s _
    exact (Sh.AllOk.congr fun p => pml_ptk).mpr (h s)
theorem spotK_mem {n m i : Nat} (h : i < m) : spotK i ∈ nodesK n m := by
  unfold nodesK
  exact List.mem_append_right _ (List.mem_map.mpr ⟨i, List.mem_range.mpr h, rfl⟩)
theorem ev_mem {n m i : Nat} (h : i < n) : (.inl (i : Int) : Key) ∈ nodesK n m := by
  unfold nodesK
  exact List.mem_append_left _ (List.mem_append_right _ (List.mem_map.mpr ⟨i, List.mem_range.mpr h, rfl⟩))
theorem zero_mem {n m : Nat} : zeroK ∈ nodesK n m := by
  unfold nodesK
  exact List.mem_append_left _ (List.mem_append_left _ (by simp))
theorem pts_node {ds : List (Sh.Deed Str)} {us : List (Str × Int)} {s : Str} {p : Pt3} (h : p ∈ ptsOf ds us s) : p.2.2 ∈ nodesK ds.length us.length := by
  rcases ptsOf_mem.mp h with ⟨i, d, a, _, rfl⟩ | ⟨i, u, a, _, rfl⟩
  · exact ev_mem (List.getElem?_eq_some_iff.mp a).1
  · exact spotK_mem (List.getElem?_eq_some_iff.mp a).1
theorem log_small {n : Int} (h0 : 0 ≤ n) (h : n < 100) : n.natAbs.log2 < 1920 := by
  have : n.natAbs < 2 ^ 7 := by omega
  rcases Nat.eq_zero_or_pos n.natAbs with e | e
  · rw [e]; decide
  · have := (Nat.log2_lt (by omega)).mpr this
    omega
end
section
variable {P : Program} {w : World} {K : PySem.W.Frag} {mg : Str → Option Value} {base : Heap} [TL]
theorem pts_key {G H : Hp} {ds : List (Sh.Deed Str)} {us : List (Str × Int)} {s : Str} {vs : List V} (d5 : ds.length ≤ 5) (r : RepL G ((ptsOf ds us s).map dPt) vs) (hG : ∀ b o, G b = some o → H b = some o) : (∀ y ∈ vs, Item2 H y (keyOf G y) ∧ (keyOf G y).depth ≤ 10) ∧ ∀ y ∈ vs, ∃ (j : Int) (z : Str), keyOf G y = .tuple [.int (tickOf G y), .int j, .str z] := by
  have got : ∀ y ∈ vs, ∃ p ∈ ptsOf ds us s, Rep G (dPt p) y := fun y hy => by
    obtain ⟨i, hi⟩ := List.getElem?_of_mem hy
    obtain ⟨d, h1, h2⟩ := r.got hi
    rw [List.getElem?_map] at h1
    obtain ⟨p, h3, rfl⟩ := Option.map_eq_some_iff.mp h1
    exact ⟨p, List.mem_of_getElem? h3, h2⟩
  refine ⟨fun y hy => ?_, fun y hy => ?_⟩
  · obtain ⟨p, hp, rp⟩ := got y hy
    obtain ⟨k1, k2⟩ := key_pt rp
    obtain ⟨t, rfl, e⟩ := rep_pt.mp rp
    rw [k1]
    refine ⟨⟨t, p.1, p.2.1, kV p.2.2, rfl, hG _ _ e, ?_⟩, by simp [PyData.depth, PyData.depthAll]⟩
    rcases ptsOf_mem.mp hp with ⟨i, d, a, b, rfl⟩ | ⟨i, u, a, b, rfl⟩
    · have hi := (List.getElem?_eq_some_iff.mp a).1
      exact .inl ⟨(i : Int), rfl, log_small (by omega) (by omega), rfl⟩
    · match i with
      | 0 => exact .inr ⟨_, rfl, rfl⟩
      | i + 1 => exact .inr ⟨_, rfl, rfl⟩
  · obtain ⟨p, hp, rp⟩ := got y hy
    obtain ⟨k1, k2⟩ := key_pt rp
    exact ⟨p.2.1, _, by rw [k1, k2]⟩
theorem keys_alike {β : Type} {k : β → PyData} {tk : β → Int} {l : List β} (h : ∀ b ∈ l, ∃ (j : Int) (y : Str), k b = .tuple [.int (tk b), .int j, .str y]) : PySem.W.AllAlike (l.map k) ∧ PySem.W.Sortable (l.map k) := by
  refine ⟨fun d hd d' hd' => ?_, .inl fun d hd => ?_⟩
  · obtain ⟨b, hb, rfl⟩ := List.mem_map.mp hd
    obtain ⟨b', hb', rfl⟩ := List.mem_map.mp hd'
    obtain ⟨j, y, e⟩ := h b hb
    obtain ⟨j', y', e'⟩ := h b' hb'
    rw [e, e']
    rfl
  · obtain ⟨b, hb, rfl⟩ := List.mem_map.mp hd
    obtain ⟨j, y, e⟩ := h b hb
    exact ⟨_, _, e⟩
theorem rep_ticks {G : Hp} : ∀ {qs : List Pt3} {vs : List V}, RepL G (qs.map dPt) vs → qs.map (fun p => p.1) = vs.map (tickOf G)
  | [], vs, r => by
    obtain rfl : vs = [] := r
    rfl
  | q :: qs, vs, r => by
    obtain ⟨v, vs', rfl, r1, r2⟩ := r
    rw [List.map_cons, List.map_cons, rep_ticks r2, (key_pt r1).2]
theorem pair_ticks {G : Hp} {qs : List Pt3} {vs : List V} (r : RepL G (qs.map dPt) vs) (h : vs.Pairwise fun x y => tickOf G x ≤ tickOf G y) : qs.Pairwise fun p q => p.1 ≤ q.1 := by
  have h2 : (vs.map (tickOf G)).Pairwise fun x y => x ≤ y := List.Pairwise.map _ (fun a b h => h) h
  rw [← rep_ticks r] at h2
  exact List.pairwise_map.mp h2
theorem pts_tick {lean : List (Str × Int)} {vo : List Str} {ds : List (Sh.Deed Str)} {us : List (Str × Int)} {s : Str} (dok : DeedsOk lean vo ds) (uok : ∀ u ∈ us, u.1 ∈ lean.map Prod.fst ∧ 0 ≤ u.2 ∧ u.2 ≤ 2000) {p : Pt3} (hp : p ∈ ptsOf ds us s) : 0 ≤ p.1 ∧ p.1 ≤ 2000 := by
  rcases ptsOf_mem.mp hp with ⟨i, d, a, b, rfl⟩ | ⟨i, u, a, b, rfl⟩
  · have := dok.tick d (List.mem_of_getElem? a)
    exact ⟨this.1, by show d.tick ≤ 2000; omega⟩
  · exact (uok u (List.mem_of_getElem? a)).2
theorem rulesL_b {d : Int} {ps : List Pt3} (hd : 0 ≤ d ∧ d ≤ 500) (h : ∀ p ∈ ps, 0 ≤ p.1 ∧ p.1 ≤ 2000) : ∀ e ∈ rulesL d ps, -3000000 ≤ e.2 ∧ e.2 ≤ 3000000 := fun e he => by
  obtain ⟨p, hp, q, hq, he⟩ := rulesL_mem he
  have a := h p hp
  have b := h q hq
  have g := gap_b (m := q.1 - p.1) (d := d) (by omega) (by omega) hd.1 hd.2
  rcases List.mem_cons.mp he with rfl | he
  · exact g.1
  · rw [List.mem_singleton.mp he]
    exact g.2
theorem rulesL_n {d : Int} {ps : List Pt3} {N : List Key} (h : ∀ p ∈ ps, p.2.2 ∈ N) : ∀ e ∈ rulesL d ps, e.1.1 ∈ N ∧ e.1.2 ∈ N := fun e he => by
  obtain ⟨p, hp, q, hq, he⟩ := rulesL_mem he
  rcases List.mem_cons.mp he with rfl | he
  · exact ⟨h p hp, h q hq⟩
  · rw [List.mem_singleton.mp he]
    exact ⟨h q hq, h p hp⟩
end
section
variable {P : Program} {w : World} {K : PySem.W.Frag} {mg : Str → Option Value} {base : Heap} [TL]
def noteL (i : Nat) : Sh.Note Str → Tb
  | .frm j l m => [((.inl (j : Int), .inl (i : Int)), m), ((.inl (i : Int), .inl (j : Int)), -l)]
  | .says _ l m => [((zeroK, .inl (i : Int)), m), ((.inl (i : Int), zeroK), -l)]
def notesL (i : Nat) (ns : List (Sh.Note Str)) : Tb := ns.flatMap (noteL i)
def factsL : Nat → List (Sh.Deed Str) → Tb
  | _, [] => []
  | i, d :: ds => notesL i d.notes ++ factsL (i + 1) ds
theorem factsL_snoc {d : Sh.Deed Str} : ∀ {i : Nat} {ds : List (Sh.Deed Str)}, factsL i (ds ++ [d]) = factsL i ds ++ notesL (i + ds.length) d.notes
  | i, [] => by
    show notesL i d.notes ++ [] = [] ++ notesL (i + 0) d.notes
    rw [List.append_nil]
    rfl
  | i, e :: ds => by
    have ih := factsL_snoc (d := d) (i := i + 1) (ds := ds)
    have e1 : i + 1 + ds.length = i + (e :: ds).length := by rw [List.length_cons]; omega
    rw [e1] at ih
    show notesL i e.notes ++ factsL (i + 1) (ds ++ [d]) = (notesL i e.notes ++ factsL (i + 1) ds) ++ _
    rw [ih, List.append_assoc]
theorem noteL_len {i : Nat} {n : Sh.Note Str} : (noteL i n).length = 2 := by cases n <;> rfl
theorem notesL_len {i : Nat} {ns : List (Sh.Note Str)} : (notesL i ns).length = 2 * ns.length := by
  unfold notesL
  induction ns with
  | nil => rfl
  | cons n ns ih => rw [List.flatMap_cons, List.length_append, ih, noteL_len, List.length_cons]; omega
theorem factsL_len : ∀ {ds : List (Sh.Deed Str)} {i : Nat}, (∀ d ∈ ds, d.notes.length ≤ 3) → (factsL i ds).length ≤ 6 * ds.length
  | [], _, _ => Nat.le_refl _
  | d :: ds, i, h => by
    have := factsL_len (ds := ds) (i := i + 1) fun e he => h e (List.mem_cons_of_mem _ he)
    have h2 := h d List.mem_cons_self
    show (notesL i d.notes ++ factsL (i + 1) ds).length ≤ _
    rw [List.length_append, notesL_len, List.length_cons]
    omega
theorem factsL_mem {e : (Key × Key) × Int} : ∀ {ds : List (Sh.Deed Str)} {i : Nat}, e ∈ factsL i ds ↔ ∃ (j : Nat) (d : Sh.Deed Str), ds[j]? = some d ∧ ∃ n ∈ d.notes, e ∈ noteL (i + j) n
  | [], i => ⟨fun h => (nomatch h), fun ⟨j, d, h, _⟩ => by simp at h⟩
  | d :: ds, i => by
    show e ∈ notesL i d.notes ++ factsL (i + 1) ds ↔ _
    rw [List.mem_append, factsL_mem (ds := ds) (i := i + 1)]
    unfold notesL
    rw [List.mem_flatMap]
    constructor
    · rintro (h | ⟨j, d', h1, h2⟩)
      · exact ⟨0, d, rfl, h⟩
      · refine ⟨j + 1, d', by simpa using h1, ?_⟩
        rw [show i + (j + 1) = i + 1 + j by omega]
        exact h2
    · rintro ⟨j, d', h1, h2⟩
      cases j with
      | zero =>
        cases h1
        exact .inl h2
      | succ j =>
        refine .inr ⟨j, d', by simpa using h1, ?_⟩
        rw [show i + (j + 1) = i + 1 + j by omega] at h2
        exact h2
theorem noteL_runs {i : Nat} {n : Sh.Note Str} {τ : Key → Int} : (∀ e ∈ noteL i n, τ e.1.2 ≤ τ e.1.1 + e.2) ↔ Sh.NoteK Sh.evN zeroK τ i n := by
  cases n with
  | frm j l m =>
    constructor
    · intro h
      exact ⟨h _ (List.mem_cons_self), h _ (List.mem_cons_of_mem _ List.mem_cons_self)⟩
    · rintro ⟨h1, h2⟩ e he
      rcases List.mem_cons.mp he with rfl | he
      · exact h1
      · rw [List.mem_singleton.mp he]
        exact h2
  | says v l m =>
    constructor
    · intro h
      exact ⟨h _ (List.mem_cons_self), h _ (List.mem_cons_of_mem _ List.mem_cons_self)⟩
    · rintro ⟨h1, h2⟩ e he
      rcases List.mem_cons.mp he with rfl | he
      · exact h1
      · rw [List.mem_singleton.mp he]
        exact h2
theorem factsL_runs {ds : List (Sh.Deed Str)} {τ : Key → Int} : Sh.Runs (factsL 0 ds) τ ↔ Sh.FactsK ds Sh.evN zeroK τ := by
  constructor
  · intro h i d hd n hn
    exact noteL_runs.mp fun e he => h e (factsL_mem.mpr ⟨i, d, hd, n, hn, by rw [Nat.zero_add]; exact he⟩)
  · intro h e he
    obtain ⟨j, d, hd, n, hn, he⟩ := factsL_mem.mp he
    rw [Nat.zero_add] at he
    exact noteL_runs.mpr (h j d hd n hn) e he
theorem factsL_b {lean : List (Str × Int)} {vo : List Str} {ds : List (Sh.Deed Str)} (dok : DeedsOk lean vo ds) : ∀ e ∈ factsL 0 ds, -3000000 ≤ e.2 ∧ e.2 ≤ 3000000 := fun e he => by
  obtain ⟨j, d, hd, n, hn, he⟩ := factsL_mem.mp he
  have hni := (dok.notes j d hd).2 n hn
  cases n with
  | frm k l m =>
    obtain ⟨h1, h2, h3, h4⟩ := hni
    rcases List.mem_cons.mp he with rfl | he
    · exact ⟨by show _ ≤ m; omega, by show m ≤ _; omega⟩
    · rw [List.mem_singleton.mp he]
      exact ⟨by show _ ≤ -l; omega, by show -l ≤ _; omega⟩
  | says v l m =>
    obtain ⟨h1, h2, h3, h4⟩ := hni
    rcases List.mem_cons.mp he with rfl | he
    · exact ⟨by show _ ≤ m; omega, by show m ≤ _; omega⟩
    · rw [List.mem_singleton.mp he]
      exact ⟨by show _ ≤ -l; omega, by show -l ≤ _; omega⟩
theorem factsL_n {lean : List (Str × Int)} {vo : List Str} {ds : List (Sh.Deed Str)} {m : Nat} (dok : DeedsOk lean vo ds) : ∀ e ∈ factsL 0 ds, e.1.1 ∈ nodesK ds.length m ∧ e.1.2 ∈ nodesK ds.length m := fun e he => by
  obtain ⟨j, d, hd, n, hn, he⟩ := factsL_mem.mp he
  rw [Nat.zero_add] at he
  have hj := (List.getElem?_eq_some_iff.mp hd).1
  have hni := (dok.notes j d hd).2 n hn
  cases n with
  | frm k l m =>
    have hk : k < ds.length := Nat.lt_trans hni.1 hj
    rcases List.mem_cons.mp he with rfl | he
    · exact ⟨ev_mem hk, ev_mem hj⟩
    · rw [List.mem_singleton.mp he]
      exact ⟨ev_mem hj, ev_mem hk⟩
  | says v l m =>
    rcases List.mem_cons.mp he with rfl | he
    · exact ⟨zero_mem, ev_mem hj⟩
    · rw [List.mem_singleton.mp he]
      exact ⟨ev_mem hj, zero_mem⟩
theorem ext_len {α : Type} {G : Hp} {f : α → Da} {l : List α} {vs : List V} (r : RepL G (l.map f) vs) : vs.length = l.length := by have := r.len; rw [List.length_map] at this; exact this
end
section
variable {P : Program} {w : World} {K : PySem.W.Frag} {mg : Str → Option Value} {base : Heap} [TL]
theorem cel_last {cs : List Cel} {x y : Addr × HO} : (x :: (celL cs ++ [y]))[cs.length + 1]? = some y := by
  show (celL cs ++ [y])[cs.length]? = some y
  have : cs.length = (celL cs).length := by unfold celL; rw [List.length_map]
  rw [this, List.getElem?_concat_length]
theorem cel_cut {cs : List Cel} {x y : Addr × HO} : (x :: (celL cs ++ [y])).eraseIdx (cs.length + 1) = x :: celL cs := by
  have : cs.length = (celL cs).length := by unfold celL; rw [List.length_map]
  rw [List.eraseIdx_cons_succ, this, List.eraseIdx_append_of_length_le (Nat.le_refl _), Nat.sub_self]
  simp
abbrev StpX := NetX × List (Sh.Deed Str) × List (Str × Int)
/-- what the rules are to be -/
structure RulOk (x : StpX) (R : Tb) (most : Nat) : Prop where
  len : R.length ≤ most
  b : ∀ e ∈ R, -3000000 ≤ e.2 ∧ e.2 ≤ 3000000
  n : ∀ e ∈ R, e.1.1 ∈ nodesK x.2.1.length x.2.2.length ∧ e.1.2 ∈ nodesK x.2.1.length x.2.2.length
structure StpOk (x : StpX) : Prop where
  lo : LeanOk x.1.1
  ds : DeedsOk x.1.1 x.1.2 x.2.1
  us : x.2.2.length ≤ 2
  u : ∀ u ∈ x.2.2, u.1 ∈ x.1.1.map Prod.fst ∧ 0 ≤ u.2 ∧ u.2 ≤ 2000
def spSteps : Sp := PurOT (fun G H vs (x : StpX) => (∃ n d s, vs = [n, d, s] ∧ Rep G (dNet x.1.1 x.1.2) n ∧ Rep G (dDeeds x.2.1) d ∧ Rep G (.lst (x.2.2.map dSpot)) s) ∧ StpOk x ∧ TabOk G H)
  fun G x o => ∃ R fv, o = .lst fv ∧ RepL G (R.map dRule) fv ∧ RulOk x R 56 ∧ ∀ τ, Sh.Runs R τ ↔ Sh.DriftK (lk x.1.1) τ (Sh.PtK x.2.1 Sh.evN (spotsL x.2.2))
theorem ok_law_steps (T : Txt K mg) (X1 : TxtL T base) : FnOk P w K mg base CX0 2 T.law_steps.a T.law_steps.fd ["_law_net", "_law_deeds_here", "_law_spots"] spSteps := by
  refine X1.ls.ok sc_law_steps (fun vs H Q E h => ?_) (fun A outer s H vs Q E hr h => ?_)
  · obtain ⟨_, _, _, ⟨⟨_, _, _, rfl, _⟩, _⟩, _⟩ := h
    rfl
  · obtain ⟨⟨⟨lean, vo⟩, ds, us⟩, G, hs, ⟨⟨n, d, s, rfl, rn, rd, rs⟩, ok, ht⟩, q⟩ := h
    dsimp only at rn rd rs q
    have hu := hu_of hr
    have S := Sta.start hs
    obtain ⟨a, b, c, rfl, ea, eb, ec⟩ := rep_net.mp rn
    obtain ⟨dl, bs, rfl, edl, rb⟩ := rep_deeds.mp rd
    obtain ⟨sl, ss, rfl, esl, rss⟩ := rs
    have lb : bs.length = ds.length := by have := rb.len; rw [List.length_map] at this; exact this
    have lss : ss.length = us.length := by have := rss.len; rw [List.length_map] at this; exact this
    have nd : (lean.map Prod.fst).Nodup := ok.lo.nd
    have l4 : lean.length ≤ 4 := ok.lo.len
    have dok : DeedsOk lean vo ds := ok.ds
    have d5 := dok.len
    have u2 : us.length ≤ 2 := ok.us
    have uok : ∀ u ∈ us, u.1 ∈ lean.map Prod.fst ∧ 0 ≤ u.2 ∧ u.2 ≤ 2000 := ok.u
    refine ⟨_, (pss_cons (ps_set (i := 4) sc_law_steps.nd rfl (Or.inl rfl) (pe_callTy (y_dctP (K := K) rfl rfl) rfl T.z_dict (by decide +kernel) (pa_cons (pe_lock (pe_lc (own := [("_law_place", 3)]) rfl sc_law_steps.nd (pi_keys (pe_ix (y_ixT (K := K) rfl) (pv 0) pe_int (fun _ _ => rfl))) (blkOk_by (own := [("_law_place", 3)]) (N := n_law_steps) (sc := defScope s_law_steps) (by decide +kernel)) (fun _ _ _ _ _ => (pg_name (i := 3) sc_law_steps.nd rfl (Or.inl rfl))) (fun _ _ _ _ _ => pts_nil) (fun _ _ _ _ _ => (pe_tup (pa_cons (pv 3) (pa_cons (pe_lst pa_nil) pa_nil)))))) pa_nil)))
  (pss_cons (ps_for PassesOwn.never rfl (y_iE (K := K) rfl rfl T.z_enumerate (pa_cons (pv 1) pa_nil)) (y_gTup (K := K) (n := 2) rfl rfl (pgs_cons (pg_name (i := 5) sc_law_steps.nd rfl (Or.inl rfl)) (pgs_cons (pg_name (i := 6) sc_law_steps.nd rfl (Or.inl rfl)) pgs_nil)))
  (pss_one (ps_expr (y_app (K := K) rfl (pe_dget hu (pv 4) (pe_ix (y_ixT (K := K) rfl) (pv 6) pe_int (fun _ _ => rfl)) (fun _ _ => rfl)) (pa_cons (pe_tup (pa_cons (pe_ix (y_ixT (K := K) rfl) (pv 6) pe_int (fun _ _ => rfl)) (pa_cons pe_int (pa_cons (pv 5) pa_nil)))) pa_nil)))))
  (pss_cons (ps_for PassesOwn.never rfl (y_iE (K := K) rfl rfl T.z_enumerate (pa_cons (pv 2) pa_nil)) (y_gTup (K := K) (n := 2) rfl rfl (pgs_cons (pg_name (i := 7) sc_law_steps.nd rfl (Or.inl rfl)) (pgs_cons (y_gTup (K := K) (n := 2) rfl rfl (pgs_cons (pg_name (i := 3) sc_law_steps.nd rfl (Or.inl rfl)) (pgs_cons (pg_name (i := 8) sc_law_steps.nd rfl (Or.inl rfl)) pgs_nil))) pgs_nil)))
  (pss_one (ps_expr (y_app (K := K) rfl (pe_dget hu (pv 4) (pv 3) (fun _ _ => rfl)) (pa_cons (pe_tup (pa_cons (pv 8) (pa_cons pe_int (pa_cons (pe_op k_addS pe_str (pe_callTy k_strI rfl T.z_str (by decide +kernel) (pa_cons (pv 7) pa_nil))) pa_nil)))) pa_nil)))))
  (pss_cons (ps_set (i := 9) sc_law_steps.nd rfl (Or.inl rfl) (pe_lst pa_nil))
  (pss_cons (ps_lock (ps_for PassesOwn.never rfl (pi_items (pv 4)) (y_gTup (K := K) (n := 2) rfl rfl (pgs_cons (pg_name (i := 3) sc_law_steps.nd rfl (Or.inl rfl)) (pgs_cons (pg_name (i := 10) sc_law_steps.nd rfl (Or.inl rfl)) pgs_nil)))
  (pss_cons (ps_set (i := 10) sc_law_steps.nd rfl (Or.inl rfl) (pe_sortK rfl T.z_sorted (pv 10) rfl (hr.mono (by decide)) X1.t2 rfl X1.m2 X1.u2 (keyLam2 T.z_str rfl ⟨by decide, by decide, rfl, rfl, rfl, rfl, fun _ => rfl, rfl⟩ fun _ _ _ _ _ _ => rfl)))
  (pss_one (ps_for PassesOwn.never rfl (y_iZ (K := K) rfl rfl T.z_zip (pa_cons (pv 10) (pa_cons (pe_slice (y_slL (K := K) rfl) (pv 10) (po_some pe_int) po_none) pa_nil))) (y_gTup (K := K) (n := 2) rfl rfl (pgs_cons (y_gTup (K := K) (n := 3) rfl rfl (pgs_cons (pg_name (i := 8) sc_law_steps.nd rfl (Or.inl rfl)) (pgs_cons (pg_name (i := 11) sc_law_steps.nd rfl (Or.inl rfl)) (pgs_cons (pg_name (i := 12) sc_law_steps.nd rfl (Or.inl rfl)) pgs_nil)))) (pgs_cons (y_gTup (K := K) (n := 3) rfl rfl (pgs_cons (pg_name (i := 13) sc_law_steps.nd rfl (Or.inl rfl)) (pgs_cons (pg_name (i := 14) sc_law_steps.nd rfl (Or.inl rfl)) (pgs_cons (pg_name (i := 15) sc_law_steps.nd rfl (Or.inl rfl)) pgs_nil)))) pgs_nil)))
  (pss_cons (ps_set (i := 16) sc_law_steps.nd rfl (Or.inl rfl) (pe_op op_sub (pv 13) (pv 8)))
  (pss_cons (ps_expr (y_app (K := K) rfl (pv 9) (pa_cons (pe_tup (pa_cons (pv 12) (pa_cons (pv 15) (pa_cons (pe_op op_mul (pv 16) (pe_op op_add pe_int (pe_dget hu (pe_ix (y_ixT (K := K) rfl) (pv 0) pe_int (fun _ _ => rfl)) (pv 3) (fun _ _ => rfl)))) pa_nil)))) pa_nil)))
  (pss_one (ps_expr (y_app (K := K) rfl (pv 9) (pa_cons (pe_tup (pa_cons (pv 15) (pa_cons (pv 12) (pa_cons (pe_op op_mul (pe_un un_neg (pv 16)) (pe_op op_sub pe_int (pe_dget hu (pe_ix (y_ixT (K := K) rfl) (pv 0) pe_int (fun _ _ => rfl)) (pv 3) (fun _ _ => rfl)))) pa_nil)))) pa_nil)))))))))))
  (pss_one (ps_ret (pv 9)))))))), ?_⟩
    fail "go"
    refine xs_lockG S eb trivial pln_dK fun od Gd H1 S1 hk out => ?_
    have ea1 : Gd a = some (.tup [.ref b, .ref c, .int 0]) := hk a _ (fun z => by rw [z, eb] at ea; cases ea) ea
    fail "go"
    refine ⟨b, od, rfl, .inl ⟨lkv lean, S1.at (i := 0) rfl, ?_⟩⟩
    have lkl : (lkv lean).length = lean.length := by unfold lkv; rw [List.length_map]
    refine lc_g S1 lean.length (fun l i Hx => ∃ (G3 : Hp) (cs : List Cel) (ts : List Addr), Sub Gd G3 ∧ cs.map Prod.fst = (lean.map Prod.fst).take i ∧ (∀ c ∈ cs, c.2.2 = []) ∧ Paired (fun t (c : Cel) => G3 t = some (.tup [.str c.1, .ref c.2.1])) ts cs ∧ Sta (LkM M0 H b) none Gd H1 G3 Hx ((l, .lst (ts.map V.ref)) :: (celL cs ++ [(b, .frz od (.dK (lkv lean)))]))) ?_ ?_ ?_
    · intro l H3 S3
      exact ⟨Gd, [], [], Sub.rfl' _, rfl, fun _ z => (nomatch z), .nil, S3⟩
    · rintro l H3 ⟨G3, cs, ts, s3, m1, m2, m3, S3⟩
      rw [List.take_of_length_le (by rw [List.length_map]; exact Nat.le_refl _)] at m1
      refine ⟨⟨?_, by rw [lkl]; exact Nat.le_refl _⟩, ?_⟩
      · exact S3.at cel_last
      · refine out _ _ _ _ (cs.length + 1) S3 cel_last fun G4 H4 s4 s04 S4 => ?_
        rw [cel_cut] at S4
        fail "go"
        have ndc : (cs.map Prod.fst).Nodup := by rw [m1]; exact nd
        have kk1 : (celK cs).map Prod.fst = (cs.map Prod.fst).map Sum.inr := by unfold celK; rw [List.map_map, List.map_map]; rfl
        refine ls_dictP (kvs := celK cs) (S4.at (i := 0) rfl) ((pr_map (fun t (kv : Key × V) => SqT K H4 t [kV kv.1, kv.2]) _).mpr (pr_mono (fun t c h => SqT.of (S4.isin (s4.to h))) m3)) ?_
        rw [mergeK_nil (by rw [kk1]; exact nodup_inr ndc)]
        refine n_own S4 fun p5 H5 S5 => ?_
        have S6 : Sta M0 none G H G4 H5 ((p5, .dK (celK cs)) :: celL cs) := S5.drop 1
        have cs0 : ∀ (k : Nat) (c : Cel), cs[k]? = some c → RepL G4 (((evPts (ds.take 0) c.1)).map dPt) c.2.2 := fun k c hk => by rw [m2 c (List.mem_of_getElem? hk)]; rfl
        clear S4 S5 S3 m2 m3
        fail "go"
        refine for_e (xs := bs) (fun i σ H1 => ∃ (G7 : Hp) (cs : List Cel) (x5 x6 : Option V), Sub G4 G7 ∧ σ = [some (.ref a), some (.ref dl), some (.ref sl), none, some (.ref p5), x5, x6, none, none, none, none, none, none, none, none, none, none] ∧ CelOk G7 cs (lean.map Prod.fst) (evPts (ds.take i)) ∧ Sta M0 none G H G7 H1 ((p5, .dK (celK cs)) :: celL cs)) ⟨G4, cs, none, none, Sub.rfl' _, rfl, ⟨m1, cs0⟩, S6⟩ (fun i σ H1 h => ?_) (fun σ H1 h => ?_) (fun i v T1 σ H1 H2 hv h hT e9 => ?_)
        · obtain ⟨G7, cs, x5, x6, s7, rfl, co, S7⟩ := h
          exact S7.isin (s7.to (s04.to edl))
        · obtain ⟨G7, cs, x5, x6, s7, rfl, co, S7⟩ := h
          rw [List.take_of_length_le (by rw [lb]; exact Nat.le_refl _)] at co
          clear S6 m1 cs0
          fail "go"
          refine for_e (xs := ss) (fun i σ H1 => ∃ (G8 : Hp) (cs : List Cel) (x3 x7 x8 : Option V), Sub G7 G8 ∧ σ = [some (.ref a), some (.ref dl), some (.ref sl), x3, some (.ref p5), x5, x6, x7, x8, none, none, none, none, none, none, none, none] ∧ CelOk G8 cs (lean.map Prod.fst) (fun s => evPts ds s ++ sPts 0 (us.take i) s) ∧ Sta M0 none G H G8 H1 ((p5, .dK (celK cs)) :: celL cs)) ⟨G7, cs, none, none, none, Sub.rfl' _, rfl, ⟨co.nm, fun k c hk => by have := co.at_ k c hk; simpa [sPts] using this⟩, S7⟩ (fun i σ H1 h => ?_) (fun σ H1 h => ?_) (fun i v T1 σ H1 H2 hv h hT e9 => ?_)
          · obtain ⟨G8, cs, x3, x7, x8, s8, rfl, co, S8⟩ := h
            exact S8.isin (s8.to (s7.to (s04.to esl)))
          · obtain ⟨G8, cs, x3, x7, x8, s8, rfl, co, S8⟩ := h
            rw [List.take_of_length_le (by rw [lss]; exact Nat.le_refl _)] at co
            clear S7
            have S8' : Sta M0 none G H G8 H1 (celL cs ++ [(p5, .dK (celK cs))]) := S8.perm (List.perm_append_comm (l₁ := celL cs) (l₂ := [(p5, HO.dK (celK cs))]))
            obtain ⟨G9, s9, S9, h9⟩ := fix_cells S8'
            clear S8 S8'
            have co9 : ∀ (k : Nat) (c : Cel), cs[k]? = some c → RepL G9 ((ptsOf ds us c.1).map dPt) c.2.2 := fun k c hk => (co.at_ k c hk).mono s9
            have cnm := co.nm
            have lcs : cs.length = lean.length := by have := congrArg List.length cnm; rw [List.length_map, List.length_map] at this; exact this
            fail "go"
            refine n_own S9 fun p10 H10 S10 => ?_
            fail "go"
            with_reducible refine x_sqL ?_
            refine xs_lockS S10 1 rfl trivial fun od2 H11 S11 => ?_
            fail "go"
            refine ⟨p5, od2, celK cs, rfl, S11.at (i := 1) rfl, ?_⟩
            have eb9 : G9 b = some (.dK (lkv lean)) := s9.to (s8.to (s7.to (s04.to eb)))
            have ea9 : G9 a = some (.tup [.ref b, .ref c, .int 0]) := s9.to (s8.to (s7.to (s04.to ea)))
            refine for_i (fun i σ H1 => ∃ (G12 : Hp) (R : Tb) (fv : List V) (y3 y8 y10 y11 y12 y13 y14 y15 y16 : Option V), Sub G9 G12 ∧ σ = [some (.ref a), some (.ref dl), some (.ref sl), y3, some (.ref p5), x5, x6, x7, y8, some (.ref p10), y10, y11, y12, y13, y14, y15, y16] ∧ RepL G12 (R.map dRule) fv ∧ R.length ≤ 14 * i ∧ (∀ e ∈ R, -3000000 ≤ e.2 ∧ e.2 ≤ 3000000) ∧ (∀ e ∈ R, e.1.1 ∈ nodesK ds.length us.length ∧ e.1.2 ∈ nodesK ds.length us.length) ∧ (∀ τ, Sh.Runs R τ ↔ ∀ s ∈ (lean.map Prod.fst).take i, Sh.AllOk (lk lean s) τ (PmL ds us s)) ∧ Sta M0 none G H G12 H1 [(p10, .lst fv), (p5, .frz od2 (.dK (celK cs)))]) ⟨G9, [], [], x3, x8, none, none, none, none, none, none, none, Sub.rfl' _, rfl, rfl, Nat.zero_le _, fun _ z => (nomatch z), fun _ z => (nomatch z), fun τ => ⟨fun _ s z => (nomatch z), fun _ _ z => (nomatch z)⟩, S11⟩ (fun i σ H1 h => ?_) (fun σ H1 h => ?_) (fun i k v T1 σ H1 H2 hv h hT e9 => ?_)
            · obtain ⟨G12, R, fv, y3, y8, y10, y11, y12, y13, y14, y15, y16, s12, rfl, i1, i2, i3, i4, i5, S12⟩ := h
              exact S12.at (i := 1) rfl
            · obtain ⟨G12, R, fv, y3, y8, y10, y11, y12, y13, y14, y15, y16, s12, rfl, i1, i2, i3, i4, i5, S12⟩ := h
              refine lk_end S12 1 rfl pln_dK fun H13 S13 => ?_
              fail "go"
              have hl := S13.own (p10, .lst fv) (by simp)
              have lk5 : (celK cs).length = lean.length := by unfold celK; rw [List.length_map, lcs]
              rw [lk5] at i2 i5
              refine q G12 H13 p10 _ S13.go (hl.2.2.1.resolve_left id) hl.1 hl.2.1 hl.2.2.2 ⟨R, fv, rfl, i1, ⟨by omega, i3, i4⟩, fun τ => ?_⟩
              rw [i5, List.take_of_length_le (by rw [List.length_map]; exact Nat.le_refl _)]
              exact drift_law dok.st fun u hu => (uok u hu).1
            · obtain ⟨G12, R, fv, y3, y8, y10, y11, y12, y13, y14, y15, y16, s12, rfl, i1, i2, i3, i4, i5, S12⟩ := h
              obtain ⟨G13, s13, S13, e13⟩ := S12.newE hT e9
              unfold celK at hv
              rw [List.getElem?_map] at hv
              obtain ⟨c1, hc, ec⟩ := Option.map_eq_some_iff.mp hv
              cases ec
              have hi : i < lean.length := by rw [← lcs]; exact (List.getElem?_eq_some_iff.mp hc).1
              have hnm : (lean.map Prod.fst)[i]? = some c1.1 := by rw [← cnm, List.getElem?_map, hc]; rfl
              have hmem : c1.1 ∈ lean.map Prod.fst := List.mem_of_getElem? hnm
              have hlb := ok.lo.b _ (lk_mem hmem)
              have r13 := (co9 i c1 hc).mono (s12.tr s13)
              obtain ⟨ik, kk⟩ := pts_key (H := H2) dok.len r13 fun b o e => S13.isin e
              obtain ⟨al, so⟩ := keys_alike kk
              have hst := sorted_tick kk
              have l13 : c1.2.2.length ≤ 7 := by
                have := r13.len
                rw [List.length_map] at this
                have h2 := ptsOf_len (ds := ds) (us := us) (s := c1.1)
                omega
              obtain ⟨qs, hp, rq⟩ := rep_perm (List.mergeSort_perm c1.2.2 (PySem.W.dataLe false (keyOf G13))).symm r13
              have hpt := pair_ticks rq hst
              have lq : qs.length ≤ 7 := by
                have h2 := ptsOf_len (ds := ds) (us := us) (s := c1.1)
                rw [hp.length_eq]
                omega
              have qt : ∀ p ∈ qs, 0 ≤ p.1 ∧ p.1 ≤ 2000 := fun p h => pts_tick dok uok (hp.mem_iff.mp h)
              have qn : ∀ p ∈ qs, p.2.2 ∈ nodesK ds.length us.length := fun p h => pts_node (hp.mem_iff.mp h)
              refine x_gTup (S13.isin e13) rfl ?_
              fail "go"
              refine x_sortK ?_
              fail "go"
              refine ls_sortK S13 ht (keyOf G13) (S13.isin (s13.to (s12.to (h9 c1 (List.mem_of_getElem? hc))))) (by omega) ik al so fun H14 S14 => ?_
              generalize c1.2.2.mergeSort (PySem.W.dataLe false (keyOf G13)) = ys at rq
              refine n_fix S14 fun p14 G14 H14 s14 S14 e14 => ?_
              fail "go"
              refine n_fix S14 fun p15 G15 H15 s15 S15 e15 => ?_
              have lys : ys.length = qs.length := by have := rq.len; rw [List.length_map] at this; exact this
              have e15' : G15 p15 = some (.lst (ys.drop 1)) := by rw [e15]; exact congrArg (fun z => some (HO.lst z)) (cut_drop ys 1)
              fail "go"
              have rqd : RepL G13 ((qs.map dPt).drop 1) (ys.drop 1) := rq.drop 1
              refine for_z (xs := ys) (ys := ys.drop 1) (fun j σ H1 => ∃ (G16 : Hp) (gv : List V) (y8 y11 y12 y13 y14 y15 y16 : Option V), Sub G15 G16 ∧ σ = [some (.ref a), some (.ref dl), some (.ref sl), some (.str c1.1), some (.ref p5), x5, x6, x7, y8, some (.ref p10), some (.ref p14), y11, y12, y13, y14, y15, y16] ∧ RepL G16 ((R ++ ((qs.zip (qs.drop 1)).take j).flatMap (ruleL (lk lean c1.1))).map dRule) gv ∧ gv.length ≤ 56 + 2 * j ∧ Sta M0 none G H G16 H1 [(p10, .lst gv), (p5, .frz od2 (.dK (celK cs)))]) ⟨G15, fv, y8, y11, y12, y13, y14, y15, y16, Sub.rfl' _, rfl, ?_, ?_, S15⟩ (fun j σ H1 h => ?_) (fun σ H1 h => ?_) (fun j v w T2 σ H1 H2 hv hw h hT e9 => ?_)
              · rw [List.take_zero, List.flatMap_nil, List.append_nil]
                exact i1.mono (s13.tr (s14.tr s15))
              · have := i1.len
                rw [List.length_map] at this
                have : 14 * i ≤ 56 := by omega
                omega
              · obtain ⟨G16, gv, y8, y11, y12, y13, y14, y15, y16, s16, rfl, j1, j2, S16⟩ := h
                exact ⟨S16.isin (s16.to (s15.to e14)), S16.isin (s16.to e15')⟩
              · obtain ⟨G16, gv, y8, y11, y12, y13, y14, y15, y16, s16, rfl, j1, j2, S16⟩ := h
                rw [List.take_of_length_le (by rw [List.length_zip, List.length_drop, List.length_drop, lys]; exact Nat.le_refl _)] at j1
                refine ⟨G16, R ++ rulesL (lk lean c1.1) qs, gv, _, _, _, _, _, _, _, _, _, s12.tr (s13.tr (s14.tr (s15.tr s16))), rfl, j1, ?_, fun e he => ?_, fun e he => ?_, fun τ => ?_, S16⟩
                · rw [List.length_append]
                  have := rulesL_len (lk lean c1.1) qs
                  omega
                · rcases List.mem_append.mp he with he | he
                  · exact i3 e he
                  · exact rulesL_b hlb qt e he
                · rcases List.mem_append.mp he with he | he
                  · exact i4 e he
                  · exact rulesL_n qn e he
                · rw [runs_app, i5, rulesL_runs, line_all hp hpt, List.take_add_one, hnm]
                  constructor
                  · rintro ⟨h1, h2⟩ s hs
                    rcases List.mem_append.mp hs with hs | hs
                    · exact h1 s hs
                    · rw [show s = c1.1 from List.mem_singleton.mp hs]
                      exact h2
                  · intro h
                    exact ⟨fun s hs => h s (List.mem_append_left _ hs), h _ (List.mem_append_right _ (List.mem_singleton.mpr rfl))⟩
              · obtain ⟨G16, gv, y8, y11, y12, y13, y14, y15, y16, s16, rfl, j1, j2, S16⟩ := h
                have hj := (List.getElem?_eq_some_iff.mp hv).1
                obtain ⟨d1, k1, r1⟩ := rq.got hv
                obtain ⟨d2, k2, r2⟩ := rqd.got hw
                rw [List.getElem?_map] at k1
                rw [← List.map_drop, List.getElem?_map] at k2
                obtain ⟨⟨n1, o1, a1⟩, m1, rfl⟩ := Option.map_eq_some_iff.mp k1
                obtain ⟨⟨n2, o2, a2⟩, m2, rfl⟩ := Option.map_eq_some_iff.mp k2
                have t1 := qt _ (List.mem_of_getElem? m1)
                have t2 := qt _ (List.mem_of_mem_drop (List.mem_of_getElem? m2))
                obtain ⟨b1, rfl, f1⟩ := rep_pt.mp r1
                obtain ⟨b2, rfl, f2⟩ := rep_pt.mp r2
                have hz : (qs.zip (qs.drop 1))[j]? = some ((n1, o1, a1), (n2, o2, a2)) := by rw [List.getElem?_zip_eq_some]; exact ⟨m1, m2⟩
                have htk : (qs.zip (qs.drop 1)).take (j + 1) = (qs.zip (qs.drop 1)).take j ++ [((n1, o1, a1), (n2, o2, a2))] := by rw [List.take_add_one, hz]; rfl
                obtain ⟨G17, s17, S17, e17⟩ := S16.newE hT e9
                have f1' := S17.isin (s17.to (s16.to (s15.to (s14.to f1))))
                have f2' := S17.isin (s17.to (s16.to (s15.to (s14.to f2))))
                have ea17 := S17.isin (s17.to (s16.to (s15.to (s14.to (s13.to (s12.to ea9))))))
                have eb17 := s17.to (s16.to (s15.to (s14.to (s13.to (s12.to eb9)))))
                dsimp only at t1 t2 f1' f2' hlb
                refine x_gTup (S17.isin e17) rfl ?_
                fail "go"
                refine l_dgS (S17.isin eb17) (lk_val hmem) ?_
                fail "go"
                refine l_I (.inr ⟨by omega, by omega⟩) ?_
                fail "go"
                refine n_fix S17 fun p18 G18 H18 s18 S18 e18 => ?_
                fail "go"
                refine ls_app S18 0 rfl (by omega) fun H19 S19 => ?_
                fail "go"
                refine l_dgS (S19.isin (s18.to eb17)) (lk_val hmem) ?_
                fail "go"
                refine l_I (.inr ⟨by omega, by omega⟩) ?_
                fail "go"
                refine n_fix S19 fun p20 G20 H20 s20 S20 e20 => ?_
                fail "go"
                refine ls_app S20 0 rfl (by rw [List.length_append]; show gv.length + 1 ≤ 1000; omega) fun H21 S21 => ?_
                fail "go"
                refine ⟨G20, _, _, _, _, _, _, _, _, s16.tr (s17.tr (s18.tr s20)), rfl, ?_, ?_, S21⟩
                · rw [htk, List.flatMap_append, ← List.append_assoc, List.map_append]
                  have z := ((j1.mono (s17.tr (s18.tr s20))).snoc (rep_rule (e := ((a1, a2), (n2 - n1) * (1000 + lk lean c1.1))).mpr ⟨p18, rfl, s20.to e18⟩)).snoc (rep_rule (e := ((a2, a1), -(n2 - n1) * (1000 - lk lean c1.1))).mpr ⟨p20, rfl, e20⟩)
                  rw [List.append_assoc] at z
                  exact z
                · rw [List.length_append, List.length_append]
                  show gv.length + 1 + 1 ≤ _
                  omega
          · obtain ⟨G8, cs, x3, x7, x8, s8, rfl, co, S8⟩ := h
            obtain ⟨G9, s9, S9, e9⟩ := S8.newE hT e9
            obtain ⟨d1, k1, r1⟩ := rss.got hv
            rw [List.getElem?_map] at k1
            obtain ⟨u, md, rfl⟩ := Option.map_eq_some_iff.mp k1
            obtain ⟨pu, rfl, eu⟩ := rep_spot.mp r1
            have eu9 : G9 pu = some (.tup [.str u.1, .int u.2]) := s9.to (s8.to (s7.to (s04.to eu)))
            have hlt := (List.getElem?_eq_some_iff.mp md).1
            obtain ⟨k, c, hk, ec⟩ := co.find (uok u (List.mem_of_getElem? md)).1
            have tk : us.take (i + 1) = us.take i ++ [u] := by rw [List.take_add_one, md]; rfl
            have ti : (us.take i).length = i := by rw [List.length_take]; omega
            have lnl : c.2.2.length ≤ 1000 := by
              have := (co.at_ k c hk).len
              rw [List.length_map, List.length_append] at this
              have h2 := evPts_len (ds := ds) (s := c.1)
              have h3 := sPts_len (k := 0) (us := us.take i) (s := c.1)
              rw [ti] at h3
              omega
            refine x_gTup (S9.isin e9) rfl ?_
            fail "go"
            refine l_dgS (S9.at (i := 0) rfl) (ec ▸ celK_get (by rw [co.nm]; exact nd) hk) ?_
            have hL : ((p5, HO.dK (celK cs)) :: celL cs)[k + 1]? = some (c.2.1, .lst c.2.2) := by
              show (celL cs)[k]? = _
              unfold celL
              rw [List.getElem?_map, hk]
              rfl
            refine l_tyL (S9.at hL) ?_
            fail "go"
            refine l_strI (by have : (i : Int) = 0 ∨ (i : Int) = 1 := by omega
                              rcases this with e | e <;> rw [e] <;> decide) ?_
            fail "go"
            refine l_addS (by have : (i : Int) = 0 ∨ (i : Int) = 1 := by omega
                              rcases this with e | e <;> rw [e] <;> decide +kernel) ?_
            fail "go"
            have en := spot_name i (by omega)
            rw [Int.zero_add] at en
            rw [en]
            refine n_fix S9 fun p7 G10 H10 s10 S10 e10 => ?_
            fail "go"
            refine cel_app S10 hk lnl fun H11 S11 => ?_
            fail "go"
            refine ⟨G10, _, _, _, _, s8.tr (s9.tr s10), rfl, co.app nd hk (s9.tr s10) (rep_pt.mpr ⟨p7, rfl, e10⟩) (F' := fun s => evPts ds s ++ sPts 0 (us.take (i + 1)) s) (pt := (u.2, 1, spotK i)) fun s => ?_, S11⟩
            rw [tk, sPts_snoc, ti, ec, Nat.zero_add, List.append_assoc]
        · obtain ⟨G7, cs, x5, x6, s7, rfl, co, S7⟩ := h
          obtain ⟨G8, s8, S8, e8⟩ := S7.newE hT e9
          obtain ⟨d1, k1, r1⟩ := rb.got hv
          rw [List.getElem?_map] at k1
          obtain ⟨d, md, rfl⟩ := Option.map_eq_some_iff.mp k1
          obtain ⟨pd, nv, rfl, ed, rn⟩ := rep_deed.mp r1
          have ed8 : G8 pd = some (.tup [.str d.st, .int d.tick, nv]) := s8.to (s7.to (s04.to ed))
          obtain ⟨k, c, hk, ec⟩ := co.find (dok.st d (List.mem_of_getElem? md))
          have tk : ds.take (i + 1) = ds.take i ++ [d] := by rw [List.take_add_one, md]; rfl
          have ti : (ds.take i).length = i := by rw [List.length_take]; have := (List.getElem?_eq_some_iff.mp md).1; omega
          have lnl : c.2.2.length ≤ 1000 := by
            have := (co.at_ k c hk).len
            rw [List.length_map] at this
            have h2 := evPts_len (ds := ds.take i) (s := c.1)
            rw [ti] at h2
            have := (List.getElem?_eq_some_iff.mp md).1
            omega
          refine x_gTup (S8.isin e8) rfl ?_
          fail "go"
          refine l_dgS (S8.at (i := 0) rfl) (ec ▸ celK_get (by rw [co.nm]; exact nd) hk) ?_
          have hL : ((p5, HO.dK (celK cs)) :: celL cs)[k + 1]? = some (c.2.1, .lst c.2.2) := by
            show (celL cs)[k]? = _
            unfold celL
            rw [List.getElem?_map, hk]
            rfl
          refine l_tyL (S8.at hL) ?_
          fail "go"
          refine n_fix S8 fun p7 G9 H9 s9 S9 e9 => ?_
          fail "go"
          refine cel_app S9 hk lnl fun H10 S10 => ?_
          fail "go"
          refine ⟨G9, _, _, _, s7.tr (s8.tr s9), rfl, co.app nd hk (s8.tr s9) (rep_pt.mpr ⟨p7, rfl, e9⟩) (F' := evPts (ds.take (i + 1))) (pt := (d.tick, 0, .inl (i : Int))) fun s => ?_, S10⟩
          rw [tk, evPts_snoc, ti, ec]
    · rintro l i H3 hi ⟨G3, cs, ts, s3, m1, m2, m3, S3⟩
      have lcs : cs.length = i := by have := congrArg List.length m1; rw [List.length_map, List.length_take, List.length_map] at this; omega
      have lts : ts.length = cs.length := pr_len m3
      refine ⟨⟨S3.at cel_last, by rw [lkl]; exact hi⟩, ?_⟩
      rintro x H4 ⟨rfl, k, v, hkv, rfl⟩
      have hkv : lean[i]? = some lean[i] := List.getElem?_eq_getElem hi
      have hk2 : (lkv lean)[i]? = some (.inr lean[i].1, .int lean[i].2) := by unfold lkv; rw [List.getElem?_map, hkv]; rfl
      rename_i hkv0
      rw [hk2] at hkv0
      cases hkv0
      fail "go"
      refine n_own S3 fun p5 H5 S5 => ?_
      fail "go"
      refine n_fix S5 fun p6 G6 H6 s6 S6 e6 => ?_
      refine ⟨ts.map V.ref, S6.at (i := 1) rfl, ?_, G6, cs ++ [(lean[i].1, p5, [])], ts ++ [p6], s3.tr s6, ?_, fun c hc => ?_, pr_snoc (pr_mono (fun t c h => s6.to h) m3) e6, ?_⟩
      · rw [List.length_map, lts, lcs]
        exact Nat.lt_of_lt_of_le hi (Nat.le_trans l4 (by decide))
      · rw [List.map_append, m1, List.take_add_one, List.getElem?_map, hkv]
        rfl
      · rcases List.mem_append.mp hc with hc | hc
        · exact m2 c hc
        · rw [List.mem_singleton.mp hc]
      · have S7 := S6.set (i := 1) (p := l) (u := .lst (ts.map V.ref)) (o := .lst (ts.map V.ref ++ [.ref p6])) rfl pln_lst
        refine S7.perm ?_
        have : celL (cs ++ [(lean[i].1, p5, [])]) = celL cs ++ [(p5, .lst [])] := by unfold celL; rw [List.map_append]; rfl
        rw [this, List.map_append, List.append_assoc]
        exact ((List.perm_middle (l₁ := celL cs) (a := (p5, HO.lst [])) (l₂ := [(b, HO.frz od (.dK (lkv lean)))])).cons _).trans (List.Perm.swap _ _ _)
end
section
variable {P : Program} {w : World} {K : PySem.W.Frag} {mg : Str → Option Value} {base : Heap} [TL]
def spRules : Sp := PurOT (fun G H vs (x : StpX) => (∃ n d t s, vs = [n, d, .ref t, s] ∧ Rep G (dNet x.1.1 x.1.2) n ∧ Rep G (dDeeds x.2.1) d ∧ G t = some (.tup []) ∧ Rep G (.lst (x.2.2.map dSpot)) s) ∧ StpOk x ∧ TabOk G H)
  fun G x o => ∃ R fv, o = .lst fv ∧ RepL G (R.map dRule) fv ∧ RulOk x R 86 ∧ ∀ τ, Sh.Runs R τ ↔ Sh.DriftK (lk x.1.1) τ (Sh.PtK x.2.1 Sh.evN (spotsL x.2.2)) ∧ Sh.FactsK x.2.1 Sh.evN zeroK τ
theorem ok_law_rules (T : Txt K mg) (X1 : TxtL T base) : FnOk P w K mg base CX0 3 T.law_rules.a T.law_rules.fd ["_law_net", "_law_deeds_here", "_law_some", "_law_spots"] spRules := by
  refine T.law_rules.F.ok sc_law_rules (fun vs H Q E h => ?_) (fun cdv A outer s H vs Q E hr h => ?_)
  · obtain ⟨_, _, _, ⟨⟨_, _, _, _, rfl, _⟩, _⟩, _⟩ := h
    rfl
  · obtain ⟨⟨⟨lean, vo⟩, ds, us⟩, G, hs, ⟨⟨n, d, t, s, rfl, rn, rd, et, rs⟩, ok, ht⟩, q⟩ := h
    dsimp only at rn rd rs q
    have hu := hu_of hr
    have S := Sta.start hs
    have rd' := rd
    obtain ⟨dl, bs, rfl, edl, rb⟩ := rep_deeds.mp rd
    have lb : bs.length = ds.length := ext_len rb
    have dok : DeedsOk lean vo ds := ok.ds
    have d5 := dok.len
    refine ⟨_, (pss_cons (ps_set (i := 4) sc_law_rules.nd rfl (Or.inl rfl) (pe_call (ok_law_steps T X1) (hr.mono (by decide)) rfl T.law_steps.g T.law_steps.F.kp T.law_steps.b .nil pass0 (pa_cons (pv 0) (pa_cons (pv 1) (pa_cons (pv 3) pa_nil)))))
  (pss_cons (ps_for PassesOwn.never rfl (y_iE (K := K) rfl rfl T.z_enumerate (pa_cons (pv 1) pa_nil)) (y_gTup (K := K) (n := 2) rfl rfl (pgs_cons (pg_name (i := 5) sc_law_rules.nd rfl (Or.inl rfl)) (pgs_cons (pg_name (i := 6) sc_law_rules.nd rfl (Or.inl rfl)) pgs_nil)))
  (pss_one (ps_for PassesOwn.never rfl (y_iT (K := K) rfl (pe_ix (y_ixT (K := K) rfl) (pv 6) pe_int (fun _ _ => rfl))) (y_gTup (K := K) (n := 4) rfl rfl (pgs_cons (pg_name (i := 7) sc_law_rules.nd rfl (Or.inl rfl)) (pgs_cons (pg_name (i := 8) sc_law_rules.nd rfl (Or.inl rfl)) (pgs_cons (pg_name (i := 9) sc_law_rules.nd rfl (Or.inl rfl)) (pgs_cons (pg_name (i := 10) sc_law_rules.nd rfl (Or.inl rfl)) pgs_nil)))))
  (pss_one (ps_if (pt_cmpR op_eq (pv 7) pe_str (nomark _))
  (pss_one (ps_expr (y_ext (K := K) rfl (pv 4) (pa_cons (pe_lst (pa_cons (pe_tup (pa_cons (pv 8) (pa_cons (pv 5) (pa_cons (pv 10) pa_nil)))) (pa_cons (pe_tup (pa_cons (pv 5) (pa_cons (pv 8) (pa_cons (pe_un un_neg (pv 9)) pa_nil)))) pa_nil))) pa_nil))))
  (pss_one (ps_if (pt_cmpR (y_notIn (K := K) rfl) (pv 8) (pv 2) rfl)
  (pss_one (ps_expr (y_ext (K := K) rfl (pv 4) (pa_cons (pe_lst (pa_cons (pe_tup (pa_cons pe_str (pa_cons (pv 5) (pa_cons (pv 10) pa_nil)))) (pa_cons (pe_tup (pa_cons (pv 5) (pa_cons pe_str (pa_cons (pe_un un_neg (pv 9)) pa_nil)))) pa_nil))) pa_nil))))
  pss_nil)))))))
  (pss_one (ps_ret (pv 4))))), ?_⟩
    fail "go"
    refine c_purOT S ((lean, vo), ds, us) ⟨⟨_, _, _, rfl, rn, rd', rs⟩, ok, ht⟩ fun G1 H1 p1 o1 s1 S1 w1 => ?_
    obtain ⟨R0, fv, rfl, rf, ok0, run0⟩ := w1
    have l0 := ok0.len
    fail "go"
    refine for_e (xs := bs) (fun i σ H1 => ∃ (G2 : Hp) (fv : List V) (x5 x6 x7 x8 x9 x10 : Option V), Sub G1 G2 ∧ σ = [some n, some (.ref dl), some (.ref t), some s, some (.ref p1), x5, x6, x7, x8, x9, x10] ∧ RepL G2 ((R0 ++ factsL 0 (ds.take i)).map dRule) fv ∧ Sta M0 none G H G2 H1 [(p1, .lst fv)]) ⟨G1, fv, none, none, none, none, none, none, Sub.rfl' _, rfl, by rw [List.take_zero]; show RepL G1 ((R0 ++ []).map dRule) fv; rw [List.append_nil]; exact rf, S1⟩ (fun i σ H1 h => ?_) (fun σ H1 h => ?_) (fun i v T1 σ H1 H2 hv h hT e9 => ?_)
    · obtain ⟨G2, gv, x5, x6, x7, x8, x9, x10, s2, rfl, j1, S2⟩ := h
      exact S2.isin (s2.to (s1.to edl))
    · obtain ⟨G2, gv, x5, x6, x7, x8, x9, x10, s2, rfl, j1, S2⟩ := h
      rw [List.take_of_length_le (by rw [lb]; exact Nat.le_refl _)] at j1
      fail "go"
      have hl := S2.own (p1, .lst gv) (by simp)
      have fl := factsL_len (ds := ds) (i := 0) fun d hd => by
        obtain ⟨i, hi⟩ := List.getElem?_of_mem hd
        exact (dok.notes i d hi).1
      refine q G2 H1 p1 _ S2.go (hl.2.2.1.resolve_left id) hl.1 hl.2.1 hl.2.2.2 ⟨_, gv, rfl, j1, ⟨?_, fun e he => ?_, fun e he => ?_⟩, fun τ => ?_⟩
      · rw [List.length_append]
        omega
      · exact (List.mem_append.mp he).elim (ok0.b e) (factsL_b dok e)
      · exact (List.mem_append.mp he).elim (ok0.n e) (factsL_n dok e)
      · rw [runs_app, run0, factsL_runs]
    · obtain ⟨G2, gv, x5, x6, x7, x8, x9, x10, s2, rfl, j1, S2⟩ := h
      obtain ⟨G3, s3, S3, e3⟩ := S2.newE hT e9
      obtain ⟨d1, k1, r1⟩ := rb.got hv
      rw [List.getElem?_map] at k1
      obtain ⟨d, md, rfl⟩ := Option.map_eq_some_iff.mp k1
      have hi := (List.getElem?_eq_some_iff.mp md).1
      obtain ⟨pd, nv, rfl, ed, rnn⟩ := rep_deed.mp r1
      obtain ⟨pn, ns, rfl, en, rns⟩ := rep_notes.mp rnn
      have hnt := dok.notes i d md
      have lns : ns.length = d.notes.length := ext_len rns
      have tk : ds.take (i + 1) = ds.take i ++ [d] := by rw [List.take_add_one, md]; rfl
      have ti : (ds.take i).length = i := by rw [List.length_take]; omega
      have fl := factsL_len (ds := ds.take i) (i := 0) fun d hd => by
        obtain ⟨i, hi⟩ := List.getElem?_of_mem (List.mem_of_mem_take hd)
        exact (dok.notes i d hi).1
      have ed3 : G3 pd = some (.tup [.str d.st, .int d.tick, .ref pn]) := s3.to (s2.to (s1.to ed))
      have en3 : G3 pn = some (.tup ns) := s3.to (s2.to (s1.to en))
      refine x_gTup (S3.isin e3) rfl ?_
      fail "go"
      have lg : gv.length ≤ 56 + 30 := by
        have := ext_len j1
        rw [List.length_append] at this
        omega
      refine for_t (xs := ns) (fun j σ H1 => ∃ (G4 : Hp) (gv : List V) (x7 x8 x9 x10 : Option V), Sub G3 G4 ∧ σ = [some n, some (.ref dl), some (.ref t), some s, some (.ref p1), some (.int i), some (.ref pd), x7, x8, x9, x10] ∧ RepL G4 ((R0 ++ factsL 0 (ds.take i) ++ notesL i (d.notes.take j)).map dRule) gv ∧ gv.length ≤ 86 + 2 * j ∧ Sta M0 none G H G4 H1 [(p1, .lst gv)]) ⟨G3, gv, x7, x8, x9, x10, Sub.rfl' _, rfl, by rw [List.take_zero]; show RepL G3 ((R0 ++ factsL 0 (ds.take i) ++ []).map dRule) gv; rw [List.append_nil]; exact j1.mono s3, lg, S3⟩ (fun j σ H1 h => ?_) (fun σ H1 h => ?_) (fun j v σ H1 hv h => ?_)
      · obtain ⟨G4, gv, x7, x8, x9, x10, s4, rfl, j1, j2, S4⟩ := h
        exact S4.isin (s4.to en3)
      · obtain ⟨G4, gv, x7, x8, x9, x10, s4, rfl, j1, j2, S4⟩ := h
        rw [lns, List.take_of_length_le (Nat.le_refl d.notes.length)] at j1
        refine ⟨G4, gv, _, _, _, _, _, _, s2.tr (s3.tr s4), rfl, ?_, S4⟩
        rw [tk, factsL_snoc, ti, Nat.zero_add, ← List.append_assoc]
        exact j1
      · obtain ⟨G4, gv, x7, x8, x9, x10, s4, rfl, j1, j2, S4⟩ := h
        obtain ⟨d2, k2, r2⟩ := rns.got hv
        rw [List.getElem?_map] at k2
        obtain ⟨m, mm, rfl⟩ := Option.map_eq_some_iff.mp k2
        have hj := (List.getElem?_eq_some_iff.mp mm).1
        have tkj : d.notes.take (j + 1) = d.notes.take j ++ [m] := by rw [List.take_add_one, mm]; rfl
        have ntk : notesL i (d.notes.take (j + 1)) = notesL i (d.notes.take j) ++ noteL i m := by rw [tkj]; unfold notesL; rw [List.flatMap_append, List.flatMap_cons, List.flatMap_nil, List.append_nil]
        have t4 : Sub G G4 := s1.tr (s2.tr (s3.tr s4))
        rw [ntk]
        cases m with
        | frm k l m =>
          obtain ⟨a, rfl, ea⟩ := rep_frm.mp r2
          refine x_gTup (S4.isin (t4.to ea)) rfl ?_
          fail "go"
          refine l_ifd (fun _ => ?_) (fun z => absurd rfl z)
          fail "go"
          refine n_fix S4 fun p5 G5 H5 s5 S5 e5 => ?_
          fail "go"
          refine n_fix S5 fun p6 G6 H6 s6 S6 e6 => ?_
          fail "go"
          refine n_fix S6 fun p7 G7 H7 s7 S7 e7 => ?_
          fail "go"
          refine ls_ext S7 0 rfl (S7.isin e7) (by show gv.length + 2 ≤ 1000; omega) fun H8 S8 => ?_
          fail "go"
          refine ⟨G7, _, _, _, _, _, s4.tr (s5.tr (s6.tr s7)), rfl, ?_, by rw [List.length_append]; show gv.length + 2 ≤ _; omega, S8⟩
          have z := ((j1.mono (s5.tr (s6.tr s7))).snoc (rep_rule (e := ((.inl (k : Int), .inl (i : Int)), m)).mpr ⟨p5, rfl, s7.to (s6.to e5)⟩)).snoc (rep_rule (e := ((.inl (i : Int), .inl (k : Int)), -l)).mpr ⟨p6, rfl, s7.to e6⟩)
          rw [List.append_assoc, List.append_assoc gv] at z
          rw [← List.append_assoc, List.map_append]
          exact z
        | says y l m =>
          obtain ⟨a, rfl, ea⟩ := rep_says.mp r2
          refine x_gTup (S4.isin (t4.to ea)) rfl ?_
          fail "go"
          refine l_ifd (fun z => absurd z (by decide +kernel)) (fun _ => ?_)
          fail "go"
          refine l_notin (xs := []) (.inr (S4.isin (t4.to et))) rfl rfl ?_
          refine ⟨true, rfl, ?_⟩
          fail "go"
          refine n_fix S4 fun p5 G5 H5 s5 S5 e5 => ?_
          fail "go"
          refine n_fix S5 fun p6 G6 H6 s6 S6 e6 => ?_
          fail "go"
          refine n_fix S6 fun p7 G7 H7 s7 S7 e7 => ?_
          fail "go"
          refine ls_ext S7 0 rfl (S7.isin e7) (by show gv.length + 2 ≤ 1000; omega) fun H8 S8 => ?_
          fail "go"
          refine ⟨G7, _, _, _, _, _, s4.tr (s5.tr (s6.tr s7)), rfl, ?_, by rw [List.length_append]; show gv.length + 2 ≤ _; omega, S8⟩
          have z := ((j1.mono (s5.tr (s6.tr s7))).snoc (rep_rule (e := ((zeroK, .inl (i : Int)), m)).mpr ⟨p5, rfl, s7.to (s6.to e5)⟩)).snoc (rep_rule (e := ((.inl (i : Int), zeroK), -l)).mpr ⟨p6, rfl, s7.to e6⟩)
          rw [List.append_assoc, List.append_assoc gv] at z
          rw [← List.append_assoc, List.map_append]
          exact z
end
section
variable {P : Program} {w : World} {K : PySem.W.Frag} {mg : Str → Option Value} {base : Heap} [TL]
theorem y_dctT {X : Cx} {K : PySem.W.Frag} (hK : X.K = K) (hc : X.calm = true) (hu : X.A.units + 64 < cLine) : CallR X (.type "dict") (rDctT K) := by subst hK; exact k_dctT hc hu
theorem tget_cons {k k' : Key × Key} {n : Int} {t : Tb} : tget ((k, n) :: t) k' = if k = k' then some n else tget t k' := by
  by_cases h : k = k'
  · simp [tget, h]
  · simp [tget, h]
theorem tget_app {t t2 : Tb} {k : Key × Key} : tget (t ++ t2) k = (tget t k).or (tget t2 k) := by
  induction t with
  | nil => rfl
  | cons e t ih =>
    rw [List.cons_append]
    obtain ⟨k', n⟩ := e
    rw [tget_cons, tget_cons]
    split
    · rfl
    · exact ih
theorem tget_none {t : Tb} {k : Key × Key} (h : (t.any fun e => decide (e.1 = k)) ≠ true) : tget t k = none := by
  induction t with
  | nil => rfl
  | cons e t ih =>
    obtain ⟨k', n⟩ := e
    rw [tget_cons, if_neg fun z => h (by rw [List.any_cons, decide_eq_true z]; rfl)]
    exact ih fun z => h (by rw [List.any_cons, z, Bool.or_true])
theorem tget_map {t : Tb} {k k' : Key × Key} {n : Int} : tget (t.map fun e => if e.1 = k then (e.1, n) else e) k' = if k' = k then (tget t k').map (fun _ => n) else tget t k' := by
  induction t with
  | nil => show none = if k' = k then none else none; split <;> rfl
  | cons e t ih =>
    obtain ⟨k1, m⟩ := e
    rw [List.map_cons]
    by_cases h : k1 = k
    · rw [if_pos h, tget_cons, tget_cons, ih]
      by_cases h2 : k1 = k'
      · rw [if_pos h2, if_pos h2, if_pos (h2 ▸ h)]
        rfl
      · rw [if_neg h2, if_neg h2]
    · rw [if_neg h, tget_cons, tget_cons, ih]
      by_cases h2 : k1 = k'
      · rw [if_pos h2, if_pos h2, if_neg (h2 ▸ h)]
      · rw [if_neg h2, if_neg h2]
theorem tget_tset {t : Tb} {k k' : Key × Key} {n : Int} : tget (tset t k n) k' = if k' = k then some n else tget t k' := by
  unfold tset
  by_cases h : (t.any fun e => decide (e.1 = k)) = true
  · rw [if_pos h, tget_map]
    split
    · rename_i e
      subst e
      obtain ⟨m, hm, _⟩ := tget_some h
      rw [hm]
      rfl
    · rfl
  · rw [if_neg h, tget_app, tget_cons]
    split
    · rename_i e
      subst e
      rw [tget_none h, if_pos rfl]
      rfl
    · rename_i e
      rw [if_neg fun z => e z.symm]
      show (tget t k').or none = _
      cases tget t k' <;> rfl
structure TM (N : List Key) (t : Tb) (F : Sh.Mat Key) : Prop where
  get : ∀ a b, tget t (a, b) = F a b
  nd : TbOk t
  sub : ∀ e ∈ t, e.1.1 ∈ N ∧ e.1.2 ∈ N
theorem TM.put {N : List Key} {t : Tb} {F : Sh.Mat Key} (h : TM N t F) {a b : Key} (ha : a ∈ N) (hb : b ∈ N) (d : Int) : TM N (tset t (a, b) (Sh.mlow (F a b) d)) (Sh.mput F a b d) where
  get := fun x y => by
    rw [tget_tset]
    by_cases e : x = a ∧ y = b
    · obtain ⟨rfl, rfl⟩ := e
      rw [if_pos rfl, Sh.mput_same]
    · rw [if_neg fun z => e ⟨congrArg Prod.fst z, congrArg Prod.snd z⟩, Sh.mput_ne F d e]
      exact h.get x y
  nd := by
    unfold tset
    split
    · unfold TbOk
      have : (t.map fun e => if e.1 = (a, b) then (e.1, Sh.mlow (F a b) d) else e).map Prod.fst = t.map Prod.fst := by
        rw [List.map_map]
        refine List.map_congr_left fun e _ => ?_
        show (if e.1 = (a, b) then (e.1, Sh.mlow (F a b) d) else e).1 = e.1
        split <;> rfl
      rw [this]
      exact h.nd
    · rename_i hn
      unfold TbOk
      rw [List.map_append]
      refine List.nodup_append.mpr ⟨h.nd, by simp, fun x hx y hy e => ?_⟩
      have hy : y = (a, b) := List.mem_singleton.mp hy
      obtain ⟨e1, h1, rfl⟩ := List.mem_map.mp hx
      exact hn (List.any_eq_true.mpr ⟨e1, h1, decide_eq_true (e.trans hy)⟩)
  sub := fun e he => by
    unfold tset at he
    split at he
    · obtain ⟨e0, h0, rfl⟩ := List.mem_map.mp he
      have := h.sub e0 h0
      split <;> exact this
    · rcases List.mem_append.mp he with he | he
      · exact h.sub e he
      · rw [List.mem_singleton.mp he]
        exact ⟨ha, hb⟩
theorem TM.len {N : List Key} {t : Tb} {F : Sh.Mat Key} (h : TM N t F) : t.length ≤ N.length * N.length := by
  have := Sh.nodup_sub (t.map Prod.fst) (N.flatMap fun a => N.map fun b => (a, b)) h.nd fun k hk => by
    obtain ⟨e, he, rfl⟩ := List.mem_map.mp hk
    obtain ⟨h1, h2⟩ := h.sub e he
    exact List.mem_flatMap.mpr ⟨e.1.1, h1, List.mem_map.mpr ⟨e.1.2, h2, rfl⟩⟩
  rw [List.length_map, List.length_flatMap] at this
  have e : (N.map fun a => (N.map fun b => (a, b)).length) = N.map fun _ => N.length := List.map_congr_left fun _ _ => List.length_map _
  rw [e, List.map_const', List.sum_replicate_nat] at this
  exact this
def diagT (N : List Key) : Tb := N.map fun k => ((k, k), 0)
def diagR (N : List Key) : List (List Key × V) := N.map fun k => ([k, k], .int 0)
theorem diagT_get {N : List Key} {a b : Key} : tget (diagT N) (a, b) = Sh.mdiag N a b := by
  unfold diagT Sh.mdiag
  induction N with
  | nil => exact (if_neg fun z => nomatch z.2).symm
  | cons k N ih =>
    rw [List.map_cons, tget_cons, ih]
    by_cases h : (k, k) = (a, b)
    · have h1 : k = a := congrArg Prod.fst h
      have h2 : k = b := congrArg Prod.snd h
      rw [if_pos h, if_pos ⟨h1.symm.trans h2, by rw [h1]; exact List.mem_cons_self⟩]
    · rw [if_neg h]
      by_cases g : a = b ∧ a ∈ N
      · rw [if_pos g, if_pos ⟨g.1, List.mem_cons_of_mem _ g.2⟩]
      · rw [if_neg g, if_neg]
        rintro ⟨rfl, z⟩
        rcases List.mem_cons.mp z with z | z
        · exact h (by rw [z])
        · exact g ⟨rfl, z⟩
theorem TM.diag {N : List Key} (h : N.Nodup) : TM N (diagT N) (Sh.mdiag N) where
  get := fun _ _ => diagT_get
  nd := by
    unfold TbOk diagT
    rw [List.map_map]
    refine List.Pairwise.map _ (fun a b hab z => hab ?_) h
    exact congrArg Prod.fst z
  sub := fun e he => by
    obtain ⟨k, hk, rfl⟩ := List.mem_map.mp he
    exact ⟨hk, hk⟩
theorem mergeT_nil : ∀ {rows acc : List (List Key × V)}, ((acc ++ rows).map Prod.fst).Nodup → mergeT acc rows = acc ++ rows
  | [], acc, _ => (List.append_nil _).symm
  | r :: rows, acc, h => by
    have e : putK acc r.1 r.2 = acc ++ [r] := by
      unfold putK
      rw [if_neg]
      intro z
      obtain ⟨p, hp, e⟩ := List.any_eq_true.mp z
      rw [List.map_append] at h
      exact (List.nodup_append.mp h).2.2 p.1 (List.mem_map.mpr ⟨p, hp, rfl⟩) r.1 (List.mem_map.mpr ⟨r, List.mem_cons_self, rfl⟩) (of_decide_eq_true e)
    have ih := mergeT_nil (rows := rows) (acc := acc ++ [r]) (by rw [List.append_assoc]; exact h)
    show mergeT (putK acc r.1 r.2) rows = _
    rw [e, ih, List.append_assoc]
    rfl
theorem diag_merge {N : List Key} (h : N.Nodup) : mergeT [] (diagR N) = tvl (diagT N) := by
  rw [mergeT_nil]
  · unfold diagR tvl diagT
    rw [List.map_map]
    rfl
  · rw [List.nil_append]
    unfold diagR
    rw [List.map_map]
    refine List.Pairwise.map _ (fun a b hab z => hab ?_) h
    have z : [a, a] = [b, b] := z
    cases z
    rfl
theorem mfoldr_le (R : Tb) : ∀ (F : Sh.Mat Key), Sh.MLe F (Sh.mrules R F) := by
  induction R with
  | nil => exact fun F => Sh.MLe.refl F
  | cons e R ih => exact fun F => (Sh.mput_le F _ _ _).trans (ih _)
theorem mphs_le (N : List Key) : ∀ (l : List Key) (F : Sh.Mat Key), Sh.MLe F (l.foldl (Sh.mphase N) F)
  | [], F => Sh.MLe.refl F
  | m :: l, F => (Sh.mphase_le N F m).trans (mphs_le N l _)
theorem mclosed_diag {N : List Key} {R : Tb} {k : Key} (h : k ∈ N) : ∃ d, Sh.mclosed N R k k = some d := by
  have h0 : Sh.mdiag N k k = some 0 := if_pos ⟨rfl, h⟩
  obtain ⟨d, h1, _⟩ := mfoldr_le R _ _ _ _ h0
  obtain ⟨d, h2, _⟩ := mphs_le N N _ _ _ _ h1
  exact ⟨d, h2⟩
theorem rep_keys {G : Hp} : ∀ {ks : List Key}, RepL G (ks.map dKey) (ks.map kV)
  | [] => rfl
  | k :: ks => ⟨_, _, rfl, rep_key.mpr rfl, rep_keys⟩
theorem dep_keys : ∀ {ks : List Key}, Da.depL (ks.map dKey) ≤ 50
  | [] => Nat.zero_le _
  | k :: ks => by
    show max (dKey k).dep (Da.depL (ks.map dKey)) ≤ 50
    have := dep_keys (ks := ks)
    have : (dKey k).dep ≤ 50 := by cases k <;> exact Nat.le_of_ble_eq_true rfl
    omega
end
section
variable {P : Program} {w : World} {K : PySem.W.Frag} {mg : Str → Option Value} {base : Heap} [TL]
structure ClsOk (x : List Key × Tb) : Prop where
  nd : x.1.Nodup
  len : x.1.length ≤ 8
  n : ∀ e ∈ x.2, e.1.1 ∈ x.1 ∧ e.1.2 ∈ x.1
  cl : ∀ k ∈ x.1, (dKey k).cl = true
theorem mlow_if {o : Option Int} {d : Int} : (if o.getD d < d then o.getD d else d) = Sh.mlow o d := by
  cases o with
  | none => exact if_neg (Int.lt_irrefl d)
  | some x =>
    show (if x < d then x else d) = min d x
    split <;> omega
theorem l_doT {p q : Addr} {t : Tb} {x y : Key} {H : Hp} {R : Option V → Prop} (h : H p = some (.dT (tvl t))) (ha : H q = some (.tup [kV x, kV y])) (k : R ((tget t (x, y)).map V.int)) : ∃ a' o, V.ref p = .ref a' ∧ DGet H a' (.ref q) o ∧ R o :=
  ⟨p, _, rfl, DGet.t (k := [x, y]) h ha, by rw [tvl_get]; exact k⟩
theorem l_dgT {p q : Addr} {t : Tb} {x y : Key} {n : Int} {H : Hp} {R : V → Prop} (h : H p = some (.dT (tvl t))) (ha : H q = some (.tup [kV x, kV y])) (hn : tget t (x, y) = some n) (k : R (.int n)) : ∃ a' v', V.ref p = .ref a' ∧ DGet H a' (.ref q) (some v') ∧ R v' :=
  ⟨p, .int n, rfl, by have := DGet.t (k := [x, y]) h ha; rw [tvl_get, hn] at this; exact this, k⟩
def spClosed : Sp := Pur (fun G vs (x : List Key × Tb) => (∃ a b fv, vs = [.ref a, .ref b] ∧ G a = some (.lst (x.1.map kV)) ∧ G b = some (.lst fv) ∧ RepL G (x.2.map dRule) fv) ∧ ClsOk x)
  fun G _ x v => (v = .non ∧ Sh.MNeg x.1 (Sh.mclosed x.1 x.2)) ∨ ∃ p t, v = .ref p ∧ G p = some (.dT (tvl t)) ∧ TM x.1 t (Sh.mclosed x.1 x.2) ∧ ¬ Sh.MNeg x.1 (Sh.mclosed x.1 x.2)
theorem ok_law_closed (T : Txt K mg) : FnOk P w K mg base CX0 1 T.law_closed.a T.law_closed.fd ["_law_nodes_here", "_law_rules_here"] spClosed := by
  refine T.law_closed.F.ok sc_law_closed (fun vs H Q E h => ?_) (fun cdv A outer s H vs Q E hr h => ?_)
  · obtain ⟨_, _, _, ⟨⟨_, _, _, rfl, _⟩, _⟩, _⟩ := h
    rfl
  · obtain ⟨⟨N, R⟩, G, hs, ⟨⟨a, b, fv, rfl, ea, eb, rf⟩, ok⟩, q⟩ := h
    dsimp only at ea rf q
    have hu := hu_of hr
    have S := Sta.start hs
    have nd : N.Nodup := ok.nd
    have l8 : N.length ≤ 8 := ok.len
    have l64 : N.length * N.length ≤ 64 := Nat.mul_le_mul l8 l8
    have hn : ∀ e ∈ R, e.1.1 ∈ N ∧ e.1.2 ∈ N := ok.n
    have lf : fv.length = R.length := ext_len rf
    have nget : ∀ {i : Nat} {v : V}, (N.map kV)[i]? = some v → ∃ k, N[i]? = some k ∧ v = kV k ∧ k ∈ N := fun {i v} h => by
      rw [List.getElem?_map] at h
      obtain ⟨k, hk, rfl⟩ := Option.map_eq_some_iff.mp h
      exact ⟨k, hk, rfl, List.mem_of_getElem? hk⟩
    refine ⟨_, (pss_cons (ps_set (i := 3) sc_law_closed.nd rfl (Or.inr rfl) (pe_callTy (y_dctT (K := K) rfl rfl hr.units) rfl T.z_dict (by decide +kernel) (pa_cons (pe_lc (own := [("_law_here", 2)]) rfl sc_law_closed.nd (y_iL (K := K) rfl (pv 0)) (blkOk_by (own := [("_law_here", 2)]) (N := n_law_closed) (sc := defScope s_law_closed) (by decide +kernel)) (fun _ _ _ _ _ => (pg_name (i := 2) sc_law_closed.nd rfl (Or.inl rfl))) (fun _ _ _ _ _ => pts_nil) (fun _ _ _ _ _ => (pe_tup (pa_cons (pe_tup (pa_cons (pv 2) (pa_cons (pv 2) pa_nil))) (pa_cons pe_int pa_nil))))) pa_nil)))
  (pss_cons (ps_for PassesOwn.never rfl (y_iL (K := K) rfl (pv 1)) (y_gTup (K := K) (n := 3) rfl rfl (pgs_cons (pg_name (i := 2) sc_law_closed.nd rfl (Or.inl rfl)) (pgs_cons (pg_name (i := 4) sc_law_closed.nd rfl (Or.inl rfl)) (pgs_cons (pg_name (i := 5) sc_law_closed.nd rfl (Or.inl rfl)) pgs_nil))))
  (pss_one (ps_dput hu (pv 3) (pe_tup (pa_cons (pv 2) (pa_cons (pv 4) pa_nil))) (pe_callB (k_min2 rfl) rfl T.z_min (by decide +kernel) (pa_cons (pv 5) (pa_cons (pe_dget2 hu (pv 3) (pe_tup (pa_cons (pv 2) (pa_cons (pv 4) pa_nil))) (pv 5) ⟨rfl, rfl, rfl, rfl⟩) pa_nil))) rfl)))
  (pss_cons (ps_for PassesOwn.never rfl (y_iL (K := K) rfl (pv 0)) (pg_name (i := 6) sc_law_closed.nd rfl (Or.inr rfl))
  (pss_cons (ps_setLc (i := 7) (own := [("_law_here", 2)]) rfl sc_law_closed.nd rfl rfl (sw_true rfl rfl rfl (by decide +kernel)) (y_iL (K := K) rfl (pv 0)) (blkOk_by (own := [("_law_here", 2)]) (N := n_law_closed) (sc := defScope s_law_closed) (by decide +kernel)) (fun _ _ _ _ _ => (pg_name (i := 2) sc_law_closed.nd rfl (Or.inl rfl))) (fun _ _ _ _ _ => (pts_one (pt_cmp (pc_din hu (pe_tup (pa_cons (pv 2) (pa_cons (pv 6) pa_nil))) (pv 3))))) (fun _ _ _ _ _ => (pv 2)))
  (pss_cons (ps_setLc (i := 8) (own := [("_law_there", 4)]) rfl sc_law_closed.nd rfl rfl (sw_true rfl rfl rfl (by decide +kernel)) (y_iL (K := K) rfl (pv 0)) (blkOk_by (own := [("_law_there", 4)]) (N := n_law_closed) (sc := defScope s_law_closed) (by decide +kernel)) (fun _ _ _ _ _ => (pg_name (i := 4) sc_law_closed.nd rfl (Or.inl rfl))) (fun _ _ _ _ _ => (pts_one (pt_cmp (pc_din hu (pe_tup (pa_cons (pv 6) (pa_cons (pv 4) pa_nil))) (pv 3))))) (fun _ _ _ _ _ => (pv 4)))
  (pss_one (ps_for PassesOwn.never rfl (y_iL (K := K) rfl (pv 7)) (pg_name (i := 2) sc_law_closed.nd rfl (Or.inl rfl))
  (pss_one (ps_for PassesOwn.never rfl (y_iL (K := K) rfl (pv 8)) (pg_name (i := 4) sc_law_closed.nd rfl (Or.inl rfl))
  (pss_cons (ps_set (i := 5) sc_law_closed.nd rfl (Or.inl rfl) (pe_op op_add (pe_dget hu (pv 3) (pe_tup (pa_cons (pv 2) (pa_cons (pv 6) pa_nil))) (fun _ _ => rfl)) (pe_dget hu (pv 3) (pe_tup (pa_cons (pv 6) (pa_cons (pv 4) pa_nil))) (fun _ _ => rfl))))
  (pss_one (ps_dput hu (pv 3) (pe_tup (pa_cons (pv 2) (pa_cons (pv 4) pa_nil))) (pe_callB (k_min2 rfl) rfl T.z_min (by decide +kernel) (pa_cons (pv 5) (pa_cons (pe_dget2 hu (pv 3) (pe_tup (pa_cons (pv 2) (pa_cons (pv 4) pa_nil))) (pv 5) ⟨rfl, rfl, rfl, rfl⟩) pa_nil))) rfl))))))))))
  (pss_one (ps_ret (pe_ifExp (pt_cmpR (y_eqD (K := K) rfl hr.units) (pe_lc (own := [("_law_here", 2)]) rfl sc_law_closed.nd (y_iL (K := K) rfl (pv 0)) (blkOk_by (own := [("_law_here", 2)]) (N := n_law_closed) (sc := defScope s_law_closed) (by decide +kernel)) (fun _ _ _ _ _ => (pg_name (i := 2) sc_law_closed.nd rfl (Or.inl rfl))) (fun _ _ _ _ _ => (pts_one (pt_cmpR op_lt (pe_dget hu (pv 3) (pe_tup (pa_cons (pv 2) (pa_cons (pv 2) pa_nil))) (fun _ _ => rfl)) pe_int (nomark _)))) (fun _ _ _ _ _ => (pv 2))) (pe_lst pa_nil) (nomark _)) (pv 3) pe_non)))))), ?_⟩
    fail "go"
    refine lc_l (xs := N.map kV) S (fun i G acc => ∃ ts : List Addr, acc = ts.map V.ref ∧ Paired (Row G) ts (diagR (N.take i))) ⟨[], rfl, .nil⟩ (fun G1 H1 y s1 S1 => S1.isin (s1.to ea)) (fun o1 G1 H1 acc s1 S1 hl1 hv => ?_) (fun i v o1 G1 H1 acc hi s1 S1 hl1 hv => ?_)
    · obtain ⟨ts, rfl, pr⟩ := hv
      rw [List.take_of_length_le (by rw [List.length_map]; exact Nat.le_refl _)] at pr
      fail "go"
      refine ⟨o1, ts, _, rfl, SqL.of (S1.at (i := 0) rfl), pr_mono (fun t r h => ?_) pr, ?_⟩
      · obtain ⟨q1, e1, e2⟩ := h
        exact ⟨q1, S1.isin e1, S1.isin e2⟩
      rw [diag_merge nd]
      refine n_own S1 fun p3 H3 S3 => ?_
      have S3 : Sta M0 none G H G1 H3 [(p3, .dT (tvl (diagT N)))] := S3.drop 1
      clear S1 pr
      fail "go"
      refine for_l (xs := fv) (fun i σ H1 => ∃ (G2 : Hp) (t : Tb) (x2 x4 x5 : Option V), Sub G1 G2 ∧ σ = [some (.ref a), some (.ref b), x2, some (.ref p3), x4, x5, none, none, none] ∧ TM N t (Sh.mrules (R.take i) (Sh.mdiag N)) ∧ Sta M0 none G H G2 H1 [(p3, .dT (tvl t))]) ⟨G1, diagT N, none, none, none, Sub.rfl' _, rfl, TM.diag nd, S3⟩ (fun i σ H1 h => ?_) (fun σ H1 h => ?_) (fun i v σ H1 hv h => ?_)
      · obtain ⟨G2, t, x2, x4, x5, s2, rfl, tm, S2⟩ := h
        exact S2.isin (s2.to (s1.to eb))
      · obtain ⟨G2, t, x2, x4, x5, s2, rfl, tm, S2⟩ := h
        rw [lf, List.take_of_length_le (Nat.le_refl _)] at tm
        fail "go"
        have hdg : ∀ k ∈ N, ∃ d, Sh.mclosed N R k k = some d := fun k hk => mclosed_diag hk
        have hcl : Sh.mclosed N R = N.foldl (Sh.mphase N) (Sh.mrules R (Sh.mdiag N)) := rfl
        generalize Sh.mclosed N R = FC at q hcl hdg
        generalize Sh.mrules R (Sh.mdiag N) = F0 at tm hcl
        refine for_l (xs := N.map kV) (fun i σ H1 => ∃ (G3 : Hp) (t : Tb) (x2 x4 x5 x6 x7 x8 : Option V), Sub G1 G3 ∧ σ = [some (.ref a), some (.ref b), x2, some (.ref p3), x4, x5, x6, x7, x8] ∧ TM N t ((N.take i).foldl (Sh.mphase N) F0) ∧ Sta M0 none G H G3 H1 [(p3, .dT (tvl t))]) ⟨G2, t, x2, x4, x5, none, none, none, s2, rfl, tm, S2⟩ (fun i σ H1 h => ?_) (fun σ H1 h => ?_) (fun i v σ H1 hv h => ?_)
        · obtain ⟨G3, t, x2, x4, x5, x6, x7, x8, s3, rfl, tm, S3⟩ := h
          exact S3.isin (s3.to (s1.to ea))
        · obtain ⟨G3, t, x2, x4, x5, x6, x7, x8, s3, rfl, tm, S3⟩ := h
          rw [List.length_map, List.take_of_length_le (Nat.le_refl _), ← hcl] at tm
          fail "go"
          refine x_if ?_
          fail "go"
          refine lc_l (xs := N.map kV) S3 (fun i G acc => acc = ((N.take i).filter fun a => (FC a a).any fun d => decide (d < 0)).map kV) rfl (fun G5 H5 y s5 S5 => S5.isin (s5.to (s3.to (s1.to ea)))) (fun o1 G4 H4 acc s4 S4 hl4 hv => ?_) (fun i v o1 G4 H4 acc hi s4 S4 hl4 hv => ?_)
          · rw [List.length_map, List.take_of_length_le (Nat.le_refl _)] at hv
            subst hv
            fail "go"
            refine n_fix S4 fun p5 G5 H5 s5 S5 e5 => ?_
            refine ls_eqNil S5 (S5.at (i := 0) rfl) rep_keys (clL_map dKey fun k hk => ok.cl k (List.mem_filter.mp hk).1) dep_keys (S5.isin e5) ?_
            refine ⟨_, rfl, ?_⟩
            refine l_ifd (fun z => ?_) (fun z => ?_)
            · fail "go"
              have hne : ¬ Sh.MNeg N FC := by
                rintro ⟨k, hk, d, hd, hlt⟩
                have hm : k ∈ N.filter fun a => (FC a a).any fun d => decide (d < 0) := List.mem_filter.mpr ⟨hk, by rw [hd]; exact decide_eq_true hlt⟩
                rw [List.map_eq_nil_iff.mp z] at hm
                exact nomatch hm
              obtain ⟨G6, s6, S6, e6⟩ := (S5.drop 0).fix0 0 rfl
              exact q _ _ _ S6.go (.inr ⟨p3, t, rfl, e6, tm, hne⟩)
            · fail "go"
              refine q _ _ _ S5.go (.inl ⟨rfl, ?_⟩)
              obtain ⟨k, hk⟩ := List.exists_mem_of_ne_nil (N.filter fun a => (FC a a).any fun d => decide (d < 0)) fun e => z (by rw [e]; rfl)
              obtain ⟨h1, h2⟩ := List.mem_filter.mp hk
              obtain ⟨d, hd⟩ := hdg k h1
              rw [hd] at h2
              exact ⟨k, h1, d, hd, of_decide_eq_true h2⟩
          · obtain ⟨k, hk, rfl, hkm⟩ := nget hi
            have hlt := (List.getElem?_eq_some_iff.mp hk).1
            have tk : N.take (i + 1) = N.take i ++ [k] := by rw [List.take_add_one, hk]; rfl
            subst hv
            obtain ⟨d, hd⟩ := hdg k hkm
            fail "go"
            refine n_fix S4 fun p5 G5 H5 s5 S5 e5 => ?_
            fail "go"
            refine l_dgT (S5.at (i := 1) rfl) (S5.isin e5) ((tm.get _ _).trans hd) ?_
            fail "go"
            refine l_ifd (fun z => ?_) (fun z => ?_)
            · fail "go"
              refine lc_in (s4.tr s5) S5 (by omega) (by omega) ?_
              have fp : [k].filter (fun a => (FC a a).any fun d => decide (d < 0)) = [k] := by simp [hd, z]
              rw [tk, List.filter_append, List.map_append, fp]
              rfl
            · refine lc_out (s4.tr s5) S5 (by omega) ?_
              have fp : [k].filter (fun a => (FC a a).any fun d => decide (d < 0)) = [] := by simpa [hd] using z
              rw [tk, List.filter_append, fp, List.append_nil]
        · obtain ⟨G3, t, x2, x4, x5, x6, x7, x8, s3, rfl, tm, S3⟩ := h
          obtain ⟨m, hm, rfl, hmm⟩ := nget hv
          have tk : (N.take (i + 1)).foldl (Sh.mphase N) F0 = Sh.mphase N ((N.take i).foldl (Sh.mphase N) F0) m := by rw [List.take_add_one, hm, List.foldl_append]; rfl
          rw [tk]
          generalize (N.take i).foldl (Sh.mphase N) F0 = F at tm
          fail "go"
          refine lc_l (xs := N.map kV) S3 (fun i G acc => acc = ((N.take i).filter fun a => (F a m).isSome).map kV) rfl (fun G4 H4 y s4 S4 => S4.isin (s4.to (s3.to (s1.to ea)))) (fun o4 G4 H4 acc s4 S4 hl4 hv => ?_) (fun i v o4 G4 H4 acc hi s4 S4 hl4 hv => ?_)
          · rw [List.length_map, List.take_of_length_le (Nat.le_refl _)] at hv
            have S5 := S4
            fail "go"
            refine lc_l (xs := N.map kV) S4 (fun i G acc => acc = ((N.take i).filter fun b => (F m b).isSome).map kV) rfl (fun G5 H5 y s5 S5 => S5.isin (s5.to (s4.to (s3.to (s1.to ea))))) (fun o5 G5 H5 acc5 s5 S5 hl5 hv5 => ?_) (fun i v o5 G5 H5 acc5 hi s5 S5 hl5 hv5 => ?_)
            · rw [List.length_map, List.take_of_length_le (Nat.le_refl _)] at hv5
              subst hv hv5
              have hA : ∀ k ∈ N.filter (fun a => (F a m).isSome), k ∈ N ∧ (F k m).isSome = true := fun k h => List.mem_filter.mp h
              have hB : ∀ k ∈ N.filter (fun b => (F m b).isSome), k ∈ N ∧ (F m k).isSome = true := fun k h => List.mem_filter.mp h
              have hph : Sh.mphase N F m = ((N.filter fun a => (F a m).isSome).flatMap fun a => (N.filter fun b => (F m b).isSome).map fun b => (a, b)).foldl (Sh.mstep m) F := rfl
              generalize N.filter (fun a => (F a m).isSome) = As at S5 hA hph
              generalize N.filter (fun b => (F m b).isSome) = Bs at S5 hB hph
              fail "go"
              obtain ⟨G6, s6, S6, e5⟩ := S5.fix0 0 rfl
              obtain ⟨G7, s7, S7, e4⟩ := S6.fix0 0 rfl
              have e5 : G7 o5 = some (.lst (Bs.map kV)) := s7.to e5
              have t7 : Sub G1 G7 := s3.tr (s4.tr (s5.tr (s6.tr s7)))
              clear S4 S5 S6 S3
              refine for_l (xs := As.map kV) (fun j σ H1 => ∃ (G8 : Hp) (t : Tb) (x2 x4 x5 : Option V), Sub G7 G8 ∧ σ = [some (.ref a), some (.ref b), x2, some (.ref p3), x4, x5, some (kV m), some (.ref o4), some (.ref o5)] ∧ TM N t (((As.take j).flatMap fun a => Bs.map fun b => (a, b)).foldl (Sh.mstep m) F) ∧ Sta M0 none G H G8 H1 [(p3, .dT (tvl t))]) ⟨G7, t, x2, x4, x5, Sub.rfl' _, rfl, tm, S7⟩ (fun j σ H1 h => ?_) (fun σ H1 h => ?_) (fun j v σ H1 hv h => ?_)
              · obtain ⟨G8, t, x2, x4, x5, s8, rfl, tm, S8⟩ := h
                exact S8.isin (s8.to e4)
              · obtain ⟨G8, t, x2, x4, x5, s8, rfl, tm, S8⟩ := h
                rw [List.length_map, List.take_of_length_le (Nat.le_refl _), ← hph] at tm
                exact ⟨G8, t, _, _, _, _, _, _, t7.tr s8, rfl, tm, S8⟩
              · obtain ⟨G8, t, x2, x4, x5, s8, rfl, tm, S8⟩ := h
                rw [List.getElem?_map] at hv
                obtain ⟨k, hk, rfl⟩ := Option.map_eq_some_iff.mp hv
                have hkA := hA k (List.mem_of_getElem? hk)
                have tk : (As.take (j + 1)).flatMap (fun a => Bs.map fun b => (a, b)) = (As.take j).flatMap (fun a => Bs.map fun b => (a, b)) ++ Bs.map fun b => (k, b) := by rw [List.take_add_one, hk, List.flatMap_append]; show _ ++ ((Bs.map fun b => (k, b)) ++ []) = _; rw [List.append_nil]
                rw [tk, List.foldl_append]
                have le1 : Sh.MLe F (((As.take j).flatMap fun a => Bs.map fun b => (a, b)).foldl (Sh.mstep m) F) := Sh.mfold_le m _ F
                generalize ((As.take j).flatMap fun a => Bs.map fun b => (a, b)).foldl (Sh.mstep m) F = F1 at tm le1
                fail "go"
                refine for_l (xs := Bs.map kV) (fun l σ H1 => ∃ (G9 : Hp) (t : Tb) (x4 x5 : Option V), Sub G8 G9 ∧ σ = [some (.ref a), some (.ref b), some (kV k), some (.ref p3), x4, x5, some (kV m), some (.ref o4), some (.ref o5)] ∧ TM N t (((Bs.take l).map fun b => (k, b)).foldl (Sh.mstep m) F1) ∧ Sta M0 none G H G9 H1 [(p3, .dT (tvl t))]) ⟨G8, t, x4, x5, Sub.rfl' _, rfl, tm, S8⟩ (fun l σ H1 h => ?_) (fun σ H1 h => ?_) (fun l v σ H1 hv h => ?_)
                · obtain ⟨G9, t, x4, x5, s9, rfl, tm, S9⟩ := h
                  exact S9.isin (s9.to (s8.to e5))
                · obtain ⟨G9, t, x4, x5, s9, rfl, tm, S9⟩ := h
                  rw [List.length_map, List.take_of_length_le (Nat.le_refl _)] at tm
                  exact ⟨G9, t, _, _, _, s8.tr s9, rfl, tm, S9⟩
                · obtain ⟨G9, t, x4, x5, s9, rfl, tm, S9⟩ := h
                  rw [List.getElem?_map] at hv
                  obtain ⟨n, hn, rfl⟩ := Option.map_eq_some_iff.mp hv
                  have hnB := hB n (List.mem_of_getElem? hn)
                  have tk : (Bs.take (l + 1)).map (fun b => (k, b)) = (Bs.take l).map (fun b => (k, b)) ++ [(k, n)] := by rw [List.take_add_one, hn, List.map_append]; rfl
                  rw [tk, List.foldl_append]
                  have le2 : Sh.MLe F (((Bs.take l).map fun b => (k, b)).foldl (Sh.mstep m) F1) := le1.trans (Sh.mfold_le m _ F1)
                  generalize ((Bs.take l).map fun b => (k, b)).foldl (Sh.mstep m) F1 = F2 at tm le2
                  obtain ⟨u1, hu1⟩ := Option.isSome_iff_exists.mp hkA.2
                  obtain ⟨u2, hu2⟩ := Option.isSome_iff_exists.mp hnB.2
                  obtain ⟨d1, hd1, _⟩ := le2 _ _ _ hu1
                  obtain ⟨d2, hd2, _⟩ := le2 _ _ _ hu2
                  have stp : [(k, n)].foldl (Sh.mstep m) F2 = Sh.mput F2 k n (d1 + d2) := by
                    show Sh.mstep m F2 (k, n) = _
                    unfold Sh.mstep
                    rw [hd1, hd2]
                  rw [stp]
                  have tl := tm.len
                  fail "go"
                  refine n_fix S9 fun p10 G10 H10 s10 S10 e10 => ?_
                  fail "go"
                  refine l_dgT (S10.at (i := 0) rfl) (S10.isin e10) ((tm.get _ _).trans hd1) ?_
                  fail "go"
                  refine n_fix S10 fun p11 G11 H11 s11 S11 e11 => ?_
                  fail "go"
                  refine l_dgT (S11.at (i := 0) rfl) (S11.isin e11) ((tm.get _ _).trans hd2) ?_
                  fail "go"
                  refine n_fix S11 fun p12 G12 H12 s12 S12 e12 => ?_
                  fail "go"
                  refine ⟨_, DGet.t (k := [k, n]) (S12.at (i := 0) rfl) (S12.isin e12), ?_⟩
                  rw [tvl_get, tm.get]
                  fail "go"
                  have hz : ((F2 k n).map V.int).getD (.int (d1 + d2)) = .int ((F2 k n).getD (d1 + d2)) := by cases F2 k n <;> rfl
                  rw [hz]
                  refine l_min2 ?_
                  rw [mlow_if]
                  fail "go"
                  refine n_fix S12 fun p13 G13 H13 s13 S13 e13 => ?_
                  fail "go"
                  refine ls_putTb S13 0 rfl (S13.isin e13) (by omega) fun H14 S14 => ?_
                  exact ⟨G13, _, _, _, s9.tr (s10.tr (s11.tr (s12.tr s13))), rfl, tm.put hkA.1 hnB.1 (d1 + d2), S14⟩
            · obtain ⟨k, hk, rfl, hkm⟩ := nget hi
              have hlt := (List.getElem?_eq_some_iff.mp hk).1
              have tk : N.take (i + 1) = N.take i ++ [k] := by rw [List.take_add_one, hk]; rfl
              subst hv5
              fail "go"
              refine n_fix S5 fun p6 G6 H6 s6 S6 e6 => ?_
              fail "go"
              refine l_doT (S6.at (i := 2) rfl) (S6.isin e6) ?_
              rw [tm.get, Option.isSome_map]
              refine ⟨_, rfl, ?_⟩
              refine l_if (fun z => ?_) (fun z => ?_)
              · fail "go"
                refine lc_in (s5.tr s6) S6 (by omega) (by omega) ?_
                have fp : [k].filter (fun b => (F m b).isSome) = [k] := by simp [z]
                rw [tk, List.filter_append, List.map_append, fp]
                rfl
              · refine lc_out (s5.tr s6) S6 (by omega) ?_
                have fp : [k].filter (fun b => (F m b).isSome) = [] := by simpa using z
                rw [tk, List.filter_append, fp, List.append_nil]
          · obtain ⟨k, hk, rfl, hkm⟩ := nget hi
            have hlt := (List.getElem?_eq_some_iff.mp hk).1
            have tk : N.take (i + 1) = N.take i ++ [k] := by rw [List.take_add_one, hk]; rfl
            subst hv
            fail "go"
            refine n_fix S4 fun p5 G5 H5 s5 S5 e5 => ?_
            fail "go"
            refine l_doT (S5.at (i := 1) rfl) (S5.isin e5) ?_
            rw [tm.get, Option.isSome_map]
            refine ⟨_, rfl, ?_⟩
            refine l_if (fun z => ?_) (fun z => ?_)
            · fail "go"
              refine lc_in (s4.tr s5) S5 (by omega) (by omega) ?_
              have fp : [k].filter (fun a => (F a m).isSome) = [k] := by simp [z]
              rw [tk, List.filter_append, List.map_append, fp]
              rfl
            · refine lc_out (s4.tr s5) S5 (by omega) ?_
              have fp : [k].filter (fun a => (F a m).isSome) = [] := by simpa using z
              rw [tk, List.filter_append, fp, List.append_nil]
      · obtain ⟨G2, t, x2, x4, x5, s2, rfl, tm, S2⟩ := h
        obtain ⟨d1, k1, r1⟩ := rf.got hv
        rw [List.getElem?_map] at k1
        obtain ⟨⟨⟨m, n⟩, g⟩, mm, rfl⟩ := Option.map_eq_some_iff.mp k1
        obtain ⟨pe, rfl, ee⟩ := rep_rule.mp r1
        have tk : Sh.mrules (R.take (i + 1)) (Sh.mdiag N) = Sh.mput (Sh.mrules (R.take i) (Sh.mdiag N)) m n g := by
          rw [List.take_add_one, mm]
          unfold Sh.mrules
          rw [List.foldl_append]
          rfl
        rw [tk]
        have hmn := hn _ (List.mem_of_getElem? mm)
        generalize Sh.mrules (R.take i) (Sh.mdiag N) = F at tm ⊢
        have tl := tm.len
        dsimp only at ee hmn
        refine x_gTup (S2.isin (s2.to (s1.to ee))) rfl ?_
        fail "go"
        refine n_fix S2 fun p4 G4 H4 s4 S4 e4 => ?_
        fail "go"
        refine ⟨_, DGet.t (k := [m, n]) (S4.at (i := 0) rfl) (S4.isin e4), ?_⟩
        rw [tvl_get, tm.get]
        fail "go"
        have hz : ((F m n).map V.int).getD (.int g) = .int ((F m n).getD g) := by cases F m n <;> rfl
        rw [hz]
        refine l_min2 ?_
        rw [mlow_if]
        fail "go"
        refine n_fix S4 fun p5 G5 H5 s5 S5 e5 => ?_
        fail "go"
        refine ls_putTb S5 0 rfl (S5.isin e5) (by omega) fun H6 S6 => ?_
        exact ⟨G5, _, _, _, _, s2.tr (s4.tr s5), rfl, tm.put hmn.1 hmn.2 g, S6⟩
    · obtain ⟨ts, rfl, pr⟩ := hv
      obtain ⟨k, hk, rfl, hmem⟩ := nget hi
      have hlt := (List.getElem?_eq_some_iff.mp hk).1
      have tk : N.take (i + 1) = N.take i ++ [k] := by rw [List.take_add_one, hk]; rfl
      fail "go"
      refine n_fix S1 fun p4 G4 H4 s4 S4 e4 => ?_
      fail "go"
      refine n_fix S4 fun p5 G5 H5 s5 S5 e5 => ?_
      refine lc_in (s1.tr (s4.tr s5)) S5 (by omega) (by omega) ⟨ts ++ [p5], by rw [List.map_append]; rfl, ?_⟩
      have : diagR (N.take (i + 1)) = diagR (N.take i) ++ [([k, k], .int 0)] := by rw [tk]; unfold diagR; rw [List.map_append]; rfl
      rw [this]
      refine pr_snoc (pr_mono (fun t r h => ?_) pr) ⟨p4, e5, s5.to e4⟩
      obtain ⟨q1, e1, e2⟩ := h
      exact ⟨q1, (s4.tr s5).to e1, (s4.tr s5).to e2⟩
end
section
variable {P : Program} {w : World} {K : PySem.W.Frag} {mg : Str → Option Value} {base : Heap} [TL]
def spUnited : Sp := Pur (fun G vs (r : List Sh.Span) => (∃ v, vs = [v] ∧ Rep G (dSpans r) v) ∧ r.length ≤ 1 ∧ Sh.Bnd (10 ^ 39) r) fun G _ r v => Rep G (dSpans r) v
theorem ok_law_united (T : Txt K mg) : FnOk P w K mg base CX0 1 T.law_united.a T.law_united.fd ["_law_ranges_here"] spUnited := by
  refine T.law_united.F.ok sc_law_united (fun vs H Q E h => ?_) (fun cdv A outer s H vs Q E hr h => ?_)
  · obtain ⟨_, _, _, ⟨⟨_, rfl, _⟩, _⟩, _⟩ := h
    rfl
  · obtain ⟨r, G, hs, ⟨⟨v, rfl, ⟨a, rv, rfl, ea, rr⟩⟩, h1, hb⟩, q⟩ := h
    have hu := hu_of hr
    have S := Sta.start hs
    have rl : rv.length = r.length := by rw [rr.len, List.length_map]
    have el : (Sh.endsL r).length = r.length := by unfold Sh.endsL; rw [List.length_map]
    refine ⟨_, (pss_cons (ps_par (i := 3) (j := 4) rfl sc_law_united.nd rfl rfl (by decide) rfl rfl (pa_cons (pe_lst pa_nil) (pa_cons (pe_lc (own := [("_law_low", 1), ("_law_high", 2)]) rfl sc_law_united.nd (y_iL (K := K) rfl (pv 0)) (blkOk_by (own := [("_law_low", 1), ("_law_high", 2)]) (N := n_law_united) (sc := defScope s_law_united) (by decide +kernel)) (fun _ _ _ _ _ => (y_gTup (K := K) (n := 2) rfl rfl (pgs_cons (pg_name (i := 1) sc_law_united.nd rfl (Or.inl rfl)) (pgs_cons (pg_name (i := 2) sc_law_united.nd rfl (Or.inl rfl)) pgs_nil)))) (fun _ _ _ _ _ => pts_nil) (fun _ _ _ _ _ => (pe_tup (pa_cons (pe_ifExp (pt_cmpR k_isN (pv 1) pe_non (nomark _)) (pe_un un_neg (pe_op op_pow pe_int pe_int)) (pv 1)) (pa_cons (pe_ifExp (pt_cmpR k_isN (pv 2) pe_non (nomark _)) (pe_op op_pow pe_int pe_int) (pv 2)) pa_nil))))) pa_nil)) (by rfl))
  (pss_cons (ps_for PassesOwn.never rfl (y_iL (K := K) rfl (pe_callB (y_srtP (K := K) rfl) rfl T.z_sorted (by decide +kernel) (pa_cons (pv 4) pa_nil))) (y_gTup (K := K) (n := 2) rfl rfl (pgs_cons (pg_name (i := 1) sc_law_united.nd rfl (Or.inl rfl)) (pgs_cons (pg_name (i := 2) sc_law_united.nd rfl (Or.inl rfl)) pgs_nil)))
  (pss_one (ps_if (PW.pt (pw_and (pt_cmpR (y_neD (K := K) rfl hr.units) (pv 3) (pe_lst pa_nil) (nomark _)) (pw_and1 (pt_cmpR op_ge (pe_op op_add (pe_ix ix_seq (pe_ix (y_ixL (K := K) rfl) (pv 3) (pe_un un_neg pe_int) (fun _ _ => rfl)) pe_int (fun _ _ => rfl)) pe_int) (pv 1) (nomark _)))))
  pss_never
  (pss_one (ps_expr (y_app (K := K) rfl (pv 3) (pa_cons (pe_tup (pa_cons (pv 1) (pa_cons (pv 2) pa_nil))) pa_nil)))))))
  (pss_one (ps_ret (pe_lc (own := [("_law_low", 1), ("_law_high", 2)]) rfl sc_law_united.nd (y_iL (K := K) rfl (pv 3)) (blkOk_by (own := [("_law_low", 1), ("_law_high", 2)]) (N := n_law_united) (sc := defScope s_law_united) (by decide +kernel)) (fun _ _ _ _ _ => (y_gTup (K := K) (n := 2) rfl rfl (pgs_cons (pg_name (i := 1) sc_law_united.nd rfl (Or.inl rfl)) (pgs_cons (pg_name (i := 2) sc_law_united.nd rfl (Or.inl rfl)) pgs_nil)))) (fun _ _ _ _ _ => pts_nil) (fun _ _ _ _ _ => (pe_tup (pa_cons (pe_ifExp (pt_cmpR op_eq (pv 1) (pe_un un_neg (pe_op op_pow pe_int pe_int)) (nomark _)) pe_non (pv 1)) (pa_cons (pe_ifExp (pt_cmpR op_eq (pv 2) (pe_op op_pow pe_int pe_int) (nomark _)) pe_non (pv 2)) pa_nil))))))))), ?_⟩
    fail "go"
    refine n_own S fun pf H1 S1 => ?_
    fail "go"
    refine lc_l (xs := rv) S1 (fun i G acc => RepL G ((Sh.endsL (r.take i)).map dPair) acc) rfl (fun G1 H1 x s1 S1 => S1.isin (s1.to ea)) (fun l G2 H2 acc s2 S2 hl hv => ?_) (fun i v l G1 H1 acc hi s1 S1 hl hv => ?_)
    · rw [rl, List.take_of_length_le (Nat.le_refl _)] at hv
      have accl : acc.length = r.length := by rw [hv.len, List.length_map, el]
      obtain ⟨G3, s3, S3, e3⟩ := S2.fix0 0 rfl
      fail "go"
      refine ls_sortedP (xs := acc) (S3.isin e3) (fun x hx => ?_) (fun ys hys => ?_)
      · obtain ⟨i, hi⟩ := List.getElem?_of_mem hx
        obtain ⟨dp, hdp, rdp⟩ := hv.got hi
        rw [List.getElem?_map] at hdp
        obtain ⟨p, hp, rfl⟩ := Option.map_eq_some_iff.mp hdp
        obtain ⟨t, rfl, et⟩ := rep_pair.mp rdp
        exact ⟨t, p.1, p.2, rfl, S3.isin (s3.to et)⟩
      · have := perm_le1 hys (by omega)
        subst this
        refine n_fix S3 fun p4 G4 H4 s4 S4 e4 => ?_
        fail "go"
        have hv4 := hv.mono (s3.tr s4)
        refine for_l (xs := ys) (fun i σ H1 => ∃ (G5 : Hp) (fv : List V) (x1 x2 : Option V), Sub G4 G5 ∧ σ = [some (.ref a), x1, x2, some (.ref pf), some (.ref l)] ∧ Sta M0 none G H G5 H1 [(pf, .lst fv)] ∧ RepL G5 (((Sh.endsL r).take i).map dPair) fv)
          ⟨G4, [], none, none, Sub.rfl' _, rfl, S4, rfl⟩ (fun i σ H1 h => ?_) (fun σ H1 h => ?_) (fun i v σ H1 hi h => ?_)
        · obtain ⟨G5, fv, x1, x2, s5, rfl, S5, _⟩ := h
          exact S5.isin (s5.to e4)
        · obtain ⟨G5, fv, x1, x2, s5, rfl, S5, r5⟩ := h
          rw [accl, ← el, List.take_of_length_le (Nat.le_refl _)] at r5
          have fvl : fv.length = r.length := by rw [r5.len, List.length_map, el]
          fail "go"
          refine lc_l (xs := fv) S5 (fun i G acc => RepL G ((r.take i).map dSpan) acc) rfl (fun G1 H1 x s1 S1 => S1.at (i := 1) rfl) (fun l G6 H6 acc s6 S6 hl hv => ?_) (fun i v l G6 H6 acc hi s6 S6 hl hv => ?_)
          · rw [fvl, List.take_of_length_le (Nat.le_refl _)] at hv
            obtain ⟨G7, s7, S7, e7⟩ := S6.fix0 0 rfl
            exact q _ _ _ S7.go ⟨l, acc, rfl, e7, hv.mono s7⟩
          · obtain ⟨dp, hdp, rdp⟩ := r5.got hi
            rw [List.getElem?_map] at hdp
            obtain ⟨p, hp, rfl⟩ := Option.map_eq_some_iff.mp hdp
            obtain ⟨t, rfl, et⟩ := rep_pair.mp rdp
            have hlt := (List.getElem?_eq_some_iff.mp hp).1
            unfold Sh.endsL at hp
            rw [List.getElem?_map] at hp
            obtain ⟨sp, hsp, rfl⟩ := Option.map_eq_some_iff.mp hp
            have bsp := hb sp (List.mem_of_getElem? hsp)
            have et6 : G6 t = _ := s6.to et
            have tk : r.take (i + 1) = r.take i ++ [sp] := by rw [List.take_add_one, hsp]; rfl
            dsimp only at et6
            fail "go"
            refine x_join (fun v H' => v = optV sp.1 ∧ H' = H6) (fun v H7 h => ?_) (fun nx => x_if ?_)
            · obtain ⟨rfl, rfl⟩ := h
              fail "go"
              refine x_join (fun v H' => v = optV sp.2 ∧ H' = H7) (fun v H8 h => ?_) (fun nx => x_if ?_)
              · obtain ⟨rfl, rfl⟩ := h
                fail "go"
                refine n_fix S6 fun p7 G7 H7 s7 S7 e7 => ?_
                refine lc_in (s6.tr s7) S7 (by omega) (by omega) ?_
                rw [tk, List.map_append]
                exact (hv.mono s7).snoc (rep_span.mpr ⟨p7, rfl, e7⟩)
              · fail "go"
                rcases sp with ⟨lo, hi⟩
                refine l_ifd (fun hz => ?_) (fun hz => ?_)
                · fail "go"
                  refine nx _ _ ⟨?_, rfl⟩
                  cases hi with
                  | none => rfl
                  | some i =>
                    have z : i = (10 : Int) ^ 40 := V.int.inj hz
                    have := bsp.2 i rfl
                    omega
                · fail "go"
                  refine nx _ _ ⟨?_, rfl⟩
                  cases hi with
                  | none => exact absurd rfl hz
                  | some i => rfl
            · fail "go"
              rcases sp with ⟨lo, hi⟩
              refine l_ifd (fun hz => ?_) (fun hz => ?_)
              · fail "go"
                refine nx _ _ ⟨?_, rfl⟩
                cases lo with
                | none => rfl
                | some i =>
                  have z : i = -(10 : Int) ^ 40 := V.int.inj hz
                  have := bsp.1 i rfl
                  omega
              · fail "go"
                refine nx _ _ ⟨?_, rfl⟩
                cases lo with
                | none => exact absurd rfl hz
                | some i => rfl
        · obtain ⟨G5, fv, x1, x2, s5, rfl, S5, r5⟩ := h
          have hil := (List.getElem?_eq_some_iff.mp hi).1
          have : i = 0 := by omega
          subst this
          rw [List.take_zero] at r5
          have : fv = [] := r5
          subst this
          obtain ⟨dp, hdp, rdp⟩ := hv4.got hi
          rw [List.getElem?_map] at hdp
          obtain ⟨p, hp, rfl⟩ := Option.map_eq_some_iff.mp hdp
          obtain ⟨t, rfl, et⟩ := rep_pair.mp rdp
          refine x_gTup (S5.isin (s5.to et)) rfl ?_
          fail "go"
          refine n_fix S5 fun p6 G6 H6 s6 S6 e6 => ?_
          refine ls_neNil (ds := []) S6 (by fail "hp") rfl rfl (by decide) (by fail "hp") ?_
          fail "go"
          rw [decide_eq_true rfl]
          refine l_iF ?_
          fail "go"
          refine n_fix S6 fun p7 G7 H7 s7 S7 e7 => ?_
          fail "go"
          refine ls_app (xs := []) S7 0 rfl (by decide) fun H8 S8 => ?_
          refine ⟨G7, [] ++ [V.ref p7], _, _, s5.tr (s6.tr s7), rfl, S8, ?_⟩
          have tk : (Sh.endsL r).take (0 + 1) = [p] := by rw [List.take_add_one, hp]; rfl
          rw [tk]
          exact ⟨_, _, rfl, rep_pair.mpr ⟨p7, rfl, e7⟩, rfl⟩
    · obtain ⟨ds, hds, rds⟩ := rr.got hi
      rw [List.getElem?_map] at hds
      obtain ⟨sp, hsp, rfl⟩ := Option.map_eq_some_iff.mp hds
      obtain ⟨t, rfl, et⟩ := rep_span.mp rds
      have hlt := (List.getElem?_eq_some_iff.mp hsp).1
      have et1 : G1 t = _ := s1.to et
      have tk : r.take (i + 1) = r.take i ++ [sp] := by rw [List.take_add_one, hsp]; rfl
      fail "go"
      refine x_join (fun v H' => v = .int (sp.1.getD (-10 ^ 40)) ∧ H' = H1) (fun v H2 h => ?_) (fun nx => x_if ?_)
      · obtain ⟨rfl, rfl⟩ := h
        fail "go"
        refine x_join (fun v H' => v = .int (sp.2.getD (10 ^ 40)) ∧ H' = H2) (fun v H2 h => ?_) (fun nx => x_if ?_)
        · obtain ⟨rfl, rfl⟩ := h
          fail "go"
          refine n_fix S1 fun p2 G2 H2 s2 S2 e2 => ?_
          refine lc_in (s1.tr s2) S2 (by omega) (by omega) ?_
          have : (Sh.endsL (r.take (i + 1))).map dPair = (Sh.endsL (r.take i)).map dPair ++ [dPair (sp.1.getD (-10 ^ 40), sp.2.getD (10 ^ 40))] := by
            rw [tk]
            unfold Sh.endsL
            rw [List.map_append, List.map_append]
            rfl
          rw [this]
          exact (hv.mono s2).snoc (rep_pair.mpr ⟨p2, rfl, e2⟩)
        · fail "go"
          rw [isNon_opt]
          refine l_if (fun hb => ?_) (fun hb => ?_)
          · fail "go"
            exact nx _ _ ⟨opt_t hb _, rfl⟩
          · fail "go"
            exact nx _ _ ⟨opt_f hb _, rfl⟩
      · fail "go"
        rw [isNon_opt]
        refine l_if (fun hb => ?_) (fun hb => ?_)
        · fail "go"
          exact nx _ _ ⟨opt_t hb _, rfl⟩
        · fail "go"
          exact nx _ _ ⟨opt_f hb _, rfl⟩
end
section
variable {P : Program} {w : World} {K : PySem.W.Frag} {mg : Str → Option Value} {base : Heap} [TL]
theorem zero_cl : (dKey zeroK).cl = true := by decide +kernel
theorem spot_cl (i : Nat) : (dKey (spotK i)).cl = true := by
  match i with
  | 0 => show (dKey (.inr "spot0")).cl = true; decide +kernel
  | i + 1 => show (dKey (.inr "spot1")).cl = true; decide +kernel
theorem nodes_cl {n m : Nat} : ∀ k ∈ nodesK n m, (dKey k).cl = true := fun k hk => by
  unfold nodesK at hk
  rcases List.mem_append.mp hk with hk | hk
  · rcases List.mem_append.mp hk with hk | hk
    · rw [List.mem_singleton.mp hk]
      exact zero_cl
    · obtain ⟨i, _, rfl⟩ := List.mem_map.mp hk
      rfl
  · obtain ⟨i, _, rfl⟩ := List.mem_map.mp hk
    exact spot_cl i
theorem nodesK_len {n m : Nat} : (nodesK n m).length = 1 + n + m := by
  unfold nodesK
  rw [List.length_append, List.length_append, List.length_map, List.length_map, List.length_range, List.length_range]
  rfl
theorem nodesK_nodup {n m : Nat} (h : m ≤ 2) : (nodesK n m).Nodup := by
  unfold nodesK
  refine List.nodup_append.mpr ⟨List.nodup_append.mpr ⟨by simp, ?_, fun a ha b hb => ?_⟩, ?_, fun a ha b hb => ?_⟩
  · refine List.Pairwise.map _ (fun a b hab z => hab ?_) List.nodup_range
    have := Sum.inl.inj z
    omega
  · obtain ⟨i, _, rfl⟩ := List.mem_map.mp hb
    rw [List.mem_singleton.mp ha]
    exact fun z => nomatch z
  · match m, h with
    | 0, _ => exact .nil
    | 1, _ => show [spotK 0].Nodup; simp
    | 2, _ =>
      show [spotK 0, spotK 1].Nodup
      refine List.nodup_cons.mpr ⟨fun z => ?_, by simp⟩
      have := List.mem_singleton.mp z
      have := Sum.inr.inj (show (Sum.inr "spot0" : Key) = .inr "spot1" from this)
      exact absurd this (by decide +kernel)
  · obtain ⟨i, _, rfl⟩ := List.mem_map.mp hb
    rcases List.mem_append.mp ha with ha | ha
    · rw [List.mem_singleton.mp ha]
      match i with
      | 0 => exact fun z => absurd (Sum.inr.inj (show (Sum.inr "zero" : Key) = .inr "spot0" from z)) (by decide +kernel)
      | i + 1 => exact fun z => absurd (Sum.inr.inj (show (Sum.inr "zero" : Key) = .inr "spot1" from z)) (by decide +kernel)
    · obtain ⟨j, _, rfl⟩ := List.mem_map.mp ha
      match i with
      | 0 => exact fun z => nomatch z
      | i + 1 => exact fun z => nomatch z
structure RngX where
  x : StpX
  a : Key
  b : Key
def spRanges : Sp := PurH (fun G H vs (x : RngX) => (∃ n d s, vs = [n, d, s, kV x.a, kV x.b] ∧ Rep G (dNet x.x.1.1 x.x.1.2) n ∧ Rep G (dDeeds x.x.2.1) d ∧ Rep G (.lst (x.x.2.2.map dSpot)) s) ∧ StpOk x.x ∧ (x.a ∈ nodesK x.x.2.1.length x.x.2.2.length ∧ x.b ∈ nodesK x.x.2.1.length x.x.2.2.length) ∧ TabOk G H)
  fun G _ x v => ∃ (r : List Sh.Span) (R : Tb), Rep G (dSpans r) v ∧ (∀ τ, Sh.Runs R τ ↔ Sh.DriftK (lk x.x.1.1) τ (Sh.PtK x.x.2.1 Sh.evN (spotsL x.x.2.2)) ∧ Sh.FactsK x.x.2.1 Sh.evN zeroK τ) ∧ Sh.Desc (fun v => ∃ t, Sh.Runs R t ∧ t x.b - t x.a = v) r ∧ Sh.Bnd (10 ^ 30) r
theorem ok_law_ranges (T : Txt K mg) (X1 : TxtL T base) : FnOk P w K mg base CX0 4 T.law_ranges.a T.law_ranges.fd ["_law_net", "_law_deeds_here", "_law_spots", "_law_here", "_law_there"] spRanges := by
  refine T.law_ranges.F.ok sc_law_ranges (fun vs H Q E h => ?_) (fun cdv A outer s H vs Q E hr h => ?_)
  · obtain ⟨_, _, _, ⟨⟨_, _, _, rfl, _⟩, _⟩, _⟩ := h
    rfl
  · obtain ⟨⟨⟨⟨lean, vo⟩, ds, us⟩, ka, kb⟩, G, hs, ⟨⟨n, d, s, rfl, rn, rd, rs⟩, ok, ⟨ma, mb⟩, ht⟩, q⟩ := h
    dsimp only at rn rd rs ok ma mb q
    have hu := hu_of hr
    have S := Sta.start hs
    have rd' := rd
    obtain ⟨dl, bs, rfl, edl, rb⟩ := rep_deeds.mp rd
    have rs' := rs
    obtain ⟨sl, ss, rfl, esl, rss⟩ := rs
    have lb : bs.length = ds.length := ext_len rb
    have lss : ss.length = us.length := ext_len rss
    have dok : DeedsOk lean vo ds := ok.ds
    have d5 : ds.length ≤ 5 := dok.len
    have u2 : us.length ≤ 2 := ok.us
    refine ⟨_, (pss_cons (ps_set (i := 5) sc_law_ranges.nd rfl (Or.inl rfl) (pe_lst pa_nil))
  (pss_cons (ps_for PassesOwn.never rfl (y_iL (K := K) rfl (pe_call (ok_law_choices T) (hr.mono (by decide)) rfl T.law_choices.g T.law_choices.F.kp T.law_choices.b .nil pass0 (pa_cons (pv 0) pa_nil))) (pg_name (i := 6) sc_law_ranges.nd rfl (Or.inl rfl))
  (pss_cons (ps_set (i := 7) sc_law_ranges.nd rfl (Or.inl rfl) (pe_call (ok_law_closed T) (hr.mono (by decide)) rfl T.law_closed.g T.law_closed.F.kp T.law_closed.b .nil pass0 (pa_cons (pe_call (ok_law_nodes T) (hr.mono (by decide)) rfl T.law_nodes.g T.law_nodes.F.kp T.law_nodes.b .nil pass0 (pa_cons (pv 1) (pa_cons (pv 2) pa_nil))) (pa_cons (pe_call (ok_law_rules T X1) (hr.mono (by decide)) rfl T.law_rules.g T.law_rules.F.kp T.law_rules.b .nil pass0 (pa_cons (pv 0) (pa_cons (pv 1) (pa_cons (pv 6) (pa_cons (pv 2) pa_nil))))) pa_nil))))
  (pss_one (ps_if (pt_cmpR k_notN (pv 7) pe_non (nomark _))
  (pss_cons (ps_set (i := 8) sc_law_ranges.nd rfl (Or.inl rfl) (pe_dget1 hu (pv 7) (pe_tup (pa_cons (pv 4) (pa_cons (pv 3) pa_nil))) ⟨rfl, rfl, rfl, rfl⟩))
  (pss_one (ps_expr (y_app (K := K) rfl (pv 5) (pa_cons (pe_tup (pa_cons (pe_ifExp (pt_cmpR k_isN (pv 8) pe_non (nomark _)) pe_non (pe_un un_neg (pv 8))) (pa_cons (pe_dget1 hu (pv 7) (pe_tup (pa_cons (pv 3) (pa_cons (pv 4) pa_nil))) ⟨rfl, rfl, rfl, rfl⟩) pa_nil))) pa_nil)))))
  pss_nil))))
  (pss_one (ps_ret (pe_call (ok_law_united T) (hr.mono (by decide)) rfl T.law_united.g T.law_united.F.kp T.law_united.b .nil pass0 (pa_cons (pv 5) pa_nil)))))), ?_⟩
    fail "go"
    refine n_own S fun p1 H1 S1 => ?_
    fail "go"
    refine c_pur S1 (lean, vo) ⟨_, rfl, rn⟩ fun G2 H2 v2 s2 S2 w2 => ?_
    obtain ⟨l2, t2, rfl, el2, et2⟩ := w2
    fail "go"
    have t02 : Sub G G2 := s2
    refine for_l (xs := [.ref t2]) (fun i σ H1 => ∃ (G3 : Hp) (x6 x7 x8 : Option V) (fv : List V), Sub G2 G3 ∧ σ = [some n, some (.ref dl), some (.ref sl), some (kV ka), some (kV kb), some (.ref p1), x6, x7, x8] ∧ Sta M0 none G H G3 H1 [(p1, .lst fv)] ∧ ((i = 0 ∧ fv = []) ∨ i = 1 ∧ ∃ (r : List Sh.Span) (R : Tb), RepL G3 (r.map dSpan) fv ∧ (∀ τ, Sh.Runs R τ ↔ Sh.DriftK (lk lean) τ (Sh.PtK ds Sh.evN (spotsL us)) ∧ Sh.FactsK ds Sh.evN zeroK τ) ∧ Sh.Desc (fun v => ∃ t, Sh.Runs R t ∧ t kb - t ka = v) r ∧ Sh.Bnd (10 ^ 30) r)) ⟨G2, none, none, none, [], Sub.rfl' _, rfl, S2, .inl ⟨rfl, rfl⟩⟩ (fun i σ H1 h => ?_) (fun σ H1 h => ?_) (fun i v σ H1 hv h => ?_)
    · obtain ⟨G3, x6, x7, x8, fv, s3, rfl, S3, _⟩ := h
      exact S3.isin (s3.to el2)
    · obtain ⟨G3, x6, x7, x8, fv, s3, rfl, S3, ⟨z, _⟩ | ⟨_, r, R, rr, run, de, bd⟩⟩ := h
      · exact absurd z (Nat.succ_ne_zero 0)
      · fail "go"
        obtain ⟨G4, s4, S4, e4⟩ := S3.fix0 0 rfl
        refine c_pur S4 r ⟨⟨_, rfl, p1, fv, rfl, e4, rr.mono s4⟩, de.len, bd.mono (by decide)⟩ fun G5 H5 v5 s5 S5 w5 => ?_
        exact q _ _ _ S5.go ⟨r, R, w5, run, de, bd⟩
    · obtain ⟨G3, x6, x7, x8, fv, s3, rfl, S3, hz⟩ := h
      have hlt := (List.getElem?_eq_some_iff.mp hv).1
      obtain rfl : i = 0 := by simpa using hlt
      cases hv
      rcases hz with ⟨_, rfl⟩ | hz
      · fail "go"
        refine c_pur S3 (ds.length, us.length) ⟨dl, sl, bs, ss, rfl, s3.to (s2.to edl), lb, by show ds.length ≤ 30; omega, s3.to (s2.to esl), lss, u2⟩ fun G4 H4 v4 s4 S4 w4 => ?_
        obtain ⟨ln, rfl, eln⟩ := w4
        have s04 : Sub G G4 := s2.tr (s3.tr s4)
        fail "go"
        refine c_purOT S4 ((lean, vo), ds, us) ⟨⟨_, _, t2, _, rfl, rn.mono s04, rd'.mono s04, s4.to (s3.to et2), rs'.mono s04⟩, ok, S4.tabs ht⟩ fun G5 H5 p5 o5 s5 S5 w5 => ?_
        obtain ⟨R, fv, rfl, rf, rok, run⟩ := w5
        obtain ⟨G6, s6, S6, e6⟩ := S5.fix0 0 rfl
        fail "go"
        have hnl : (nodesK ds.length us.length).length ≤ 8 := by rw [nodesK_len]; omega
        have hrn : ∀ e ∈ R, e.1.1 ∈ nodesK ds.length us.length ∧ e.1.2 ∈ nodesK ds.length us.length := rok.n
        refine c_pur S6 (nodesK ds.length us.length, R) ⟨⟨ln, p5, fv, rfl, s6.to (s5.to eln), e6, rf.mono s6⟩, nodesK_nodup u2, hnl, hrn, nodes_cl⟩ fun G7 H7 v7 s7 S7 w7 => ?_
        obtain ⟨md1, md2⟩ := Sh.mclosed_desc (B := 3000000) (by decide) rok.b hrn ma mb
        have s27 : Sub G2 G7 := s3.tr (s4.tr (s5.tr (s6.tr s7)))
        rcases w7 with ⟨rfl, hneg⟩ | ⟨pf, tf, rfl, ef, tm, hneg⟩
        · fail "go"
          exact ⟨G7, _, _, _, [], s27, rfl, S7, .inr ⟨rfl, [], R, rfl, run, md1 hneg, Sh.Bnd.nil _⟩⟩
        · have hnn : (nodesK ds.length us.length, R).1 = nodesK ds.length us.length := rfl
          obtain ⟨de, bd⟩ := md2 hneg
          have bd30 : Sh.Bnd (10 ^ 30) [Sh.mspan (Sh.mclosed (nodesK ds.length us.length) R) ka kb] := bd.mono (by
            have : (2 : Int) ^ (nodesK ds.length us.length).length ≤ 2 ^ 8 := by
              have := Nat.pow_le_pow_right (n := 2) (by decide) hnl
              have e1 : ((2 ^ (nodesK ds.length us.length).length : Nat) : Int) = (2 : Int) ^ (nodesK ds.length us.length).length := by rw [Int.natCast_pow]; rfl
              have e2 : ((2 ^ 8 : Nat) : Int) = (2 : Int) ^ 8 := rfl
              omega
            omega)
          have tg := tm.get
          generalize Sh.mclosed (nodesK ds.length us.length) R = F at de bd30 tg
          fail "go"
          refine l_ifn (fun _ => ?_) (fun z => nomatch z)
          fail "go"
          refine n_fix S7 fun p8 G8 H8 s8 S8 e8 => ?_
          fail "go"
          refine ⟨_, DGet.t (k := [kb, ka]) (S8.isin (s8.to ef)) (S8.isin e8), ?_⟩
          rw [tvl_get, tg]
          have fin : ∀ (G9 H9 : Hp) (p9 : Addr) (x8 : Option V), Sub G8 G9 → G9 p9 = some (.tup [optV (Sh.mspan F ka kb).1, optV (Sh.mspan F ka kb).2]) → Sta M0 none G H G9 H9 [(p1, .lst [.ref p9])] →
            ∃ (G3 : Hp) (y6 y7 y8 : Option V) (fv : List V), Sub G2 G3 ∧ [some n, some (.ref dl), some (.ref sl), some (kV ka), some (kV kb), some (.ref p1), some (V.ref t2), some (V.ref pf), x8] = [some n, some (.ref dl), some (.ref sl), some (kV ka), some (kV kb), some (.ref p1), y6, y7, y8] ∧ Sta M0 none G H G3 H9 [(p1, .lst fv)] ∧ ((0 + 1 = 0 ∧ fv = []) ∨ 0 + 1 = 1 ∧ ∃ (r : List Sh.Span) (R : Tb), RepL G3 (r.map dSpan) fv ∧ (∀ τ, Sh.Runs R τ ↔ Sh.DriftK (lk lean) τ (Sh.PtK ds Sh.evN (spotsL us)) ∧ Sh.FactsK ds Sh.evN zeroK τ) ∧ Sh.Desc (fun v => ∃ t, Sh.Runs R t ∧ t kb - t ka = v) r ∧ Sh.Bnd (10 ^ 30) r) := fun G9 H9 p9 x8 s9 e9 S9 =>
            ⟨G9, _, _, _, _, s27.tr (s8.tr s9), rfl, S9, .inr ⟨rfl, [Sh.mspan F ka kb], R, ⟨_, _, rfl, rep_span.mpr ⟨p9, rfl, e9⟩, rfl⟩, run, de, bd30⟩⟩
          have hz : ∀ o : Option Int, (o.map V.int).getD .non = optV o := fun o => by cases o <;> rfl
          cases e1 : F kb ka with
          | none =>
            have m1 : optV (Sh.mspan F ka kb).1 = .non := by show optV ((F kb ka).map _) = _; rw [e1]; rfl
            rw [show ((none : Option Int).map V.int).getD .non = V.non from rfl]
            fail "go"
            refine x_if ?_
            fail "go"
            refine l_ifd (fun _ => ?_) (fun z => absurd rfl z)
            fail "go"
            refine n_fix S8 fun p9 G9 H9 s9 S9 e9 => ?_
            fail "go"
            refine ⟨_, DGet.t (k := [ka, kb]) (S9.isin (s9.to (s8.to ef))) (S9.isin e9), ?_⟩
            rw [tvl_get, tg]
            fail "go"
            refine n_fix S9 fun p10 G10 H10 s10 S10 e10 => ?_
            fail "go"
            refine ls_app S10 0 rfl (by decide) fun H11 S11 => ?_
            fail "go"
            exact fin G10 H11 p10 _ (s9.tr s10) (by rw [e10, m1, hz]; rfl) S11
          | some m =>
            have m1 : optV (Sh.mspan F ka kb).1 = .int (-m) := by show optV ((F kb ka).map _) = _; rw [e1]; rfl
            rw [show ((some m).map V.int).getD .non = V.int m from rfl]
            fail "go"
            refine x_if ?_
            fail "go"
            refine l_ifd (fun z => nomatch z) (fun _ => ?_)
            fail "go"
            refine n_fix S8 fun p9 G9 H9 s9 S9 e9 => ?_
            fail "go"
            refine ⟨_, DGet.t (k := [ka, kb]) (S9.isin (s9.to (s8.to ef))) (S9.isin e9), ?_⟩
            rw [tvl_get, tg]
            fail "go"
            refine n_fix S9 fun p10 G10 H10 s10 S10 e10 => ?_
            fail "go"
            refine ls_app S10 0 rfl (by decide) fun H11 S11 => ?_
            fail "go"
            exact fin G10 H11 p10 _ (s9.tr s10) (by rw [e10, m1, hz]; rfl) S11
      · exact nomatch hz.1
end
section
variable {P : Program} {w : World} {K : PySem.W.Frag} {mg : Str → Option Value} {base : Heap} [TL]
theorem tells1_of {R : Tb} {lean : Str → Int} {ds : List (Sh.Deed Str)} {u : Str × Int} (run : ∀ τ, Sh.Runs R τ ↔ Sh.DriftK lean τ (Sh.PtK ds Sh.evN (spotsL [u])) ∧ Sh.FactsK ds Sh.evN zeroK τ) : Sh.Tells1 R ("zero" : Str) "spot0" lean ds u := fun t => (run t).trans Sh.graph_sem
theorem tells2_of {R : Tb} {lean : Str → Int} {ds : List (Sh.Deed Str)} {u v : Str × Int} (run : ∀ τ, Sh.Runs R τ ↔ Sh.DriftK lean τ (Sh.PtK ds Sh.evN (spotsL [u, v])) ∧ Sh.FactsK ds Sh.evN zeroK τ) : Sh.Tells2 R ("zero" : Str) "spot0" "spot1" lean ds u v := fun t => (run t).trans Sh.graph_sem
theorem ne_s0 : ("spot0" : Str) ≠ "zero" := by decide +kernel
theorem ne_s1 : ("spot1" : Str) ≠ "zero" := by decide +kernel
theorem ne_s01 : ("spot0" : Str) ≠ "spot1" := by decide +kernel
structure ToldX where
  lean : List (Str × Int)
  vs : List Str
  ds : List (Sh.Deed Str)
  u : Str × Int
def spTold : Sp := PurH (fun G H vs (x : ToldX) => (∃ n d s, vs = [n, d, s] ∧ Rep G (dNet x.lean x.vs) n ∧ Rep G (dDeeds x.ds) d ∧ Rep G (dSpot x.u) s) ∧ StpOk ((x.lean, x.vs), x.ds, [x.u]) ∧ TabOk G H)
  fun G _ x v => ∃ r : List Sh.Span, Rep G (dSpans r) v ∧ Sh.Desc (Sh.Poss (lk x.lean) x.ds x.u) r ∧ Sh.Bnd (10 ^ 30) r
theorem ok_law_told (T : Txt K mg) (X1 : TxtL T base) : FnOk P w K mg base CX0 5 T.law_told.a T.law_told.fd ["_law_net", "_law_deeds_here", "_law_spot_here"] spTold := by
  refine T.law_told.F.ok sc_law_told (fun vs H Q E h => ?_) (fun cdv A outer s H vs Q E hr h => ?_)
  · obtain ⟨_, _, _, ⟨⟨_, _, _, rfl, _⟩, _⟩, _⟩ := h
    rfl
  · obtain ⟨⟨lean, vo, ds, u⟩, G, hs, ⟨⟨n, d, s, rfl, rn, rd, rs⟩, ok, ht⟩, q⟩ := h
    dsimp only at rn rd rs ok q
    have hu := hu_of hr
    have S := Sta.start hs
    refine ⟨_, (pss_one (ps_ret (pe_call (ok_law_ranges T X1) (hr.mono (by decide)) rfl T.law_ranges.g T.law_ranges.F.kp T.law_ranges.b .nil pass0 (pa_cons (pv 0) (pa_cons (pv 1) (pa_cons (pe_lst (pa_cons (pv 2) pa_nil)) (pa_cons pe_str (pa_cons pe_str pa_nil)))))))), ?_⟩
    fail "go"
    refine n_fix S fun p1 G1 H1 s1 S1 e1 => ?_
    fail "go"
    refine c_purH S1 ⟨((lean, vo), ds, [u]), zeroK, spotK 0⟩ ⟨⟨_, _, _, rfl, rn.mono s1, rd.mono s1, _, _, rfl, e1, _, _, rfl, rs.mono s1, rfl⟩, ok, ⟨zero_mem, spotK_mem (Nat.succ_pos 0)⟩, S1.tabs ht⟩ fun G2 H2 v2 s2 S2 w2 => ?_
    obtain ⟨r, R, rr, run, de, bd⟩ := w2
    exact q _ _ _ S2.go ⟨r, rr, de.congr fun v => (tells1_of run).poss ne_s0 v, bd⟩
end
section
variable {P : Program} {w : World} {K : PySem.W.Frag} {mg : Str → Option Value} {base : Heap} [TL]
theorem lk_of {lean : List (Str × Int)} (nd : (lean.map Prod.fst).Nodup) {s : Str} {x : Int} (h : (s, x) ∈ lean) : lk lean s = x := by
  have hm : s ∈ lean.map Prod.fst := List.mem_map.mpr ⟨(s, x), h, rfl⟩
  have h2 := lk_mem hm
  obtain ⟨i, hi⟩ := List.getElem?_of_mem h
  obtain ⟨j, hj⟩ := List.getElem?_of_mem h2
  have e := nodup_get nd (i := i) (j := j) (x := s) (by rw [List.getElem?_map, hi]; rfl) (by rw [List.getElem?_map, hj]; rfl)
  subst e
  rw [hi] at hj
  exact (congrArg Prod.snd (Option.some.inj hj)).symm
def gr (g0 g1 : Grp) : Bool → Grp
  | false => g0
  | true => g1
def gOf (g0 g1 : Grp) (k : Bool) : Sh.Group Str := ⟨lk (gr g0 g1 k).lean, (gr g0 g1 k).ds⟩
def eOf (e0 e1 : Nat) : Bool → Nat
  | false => e0
  | true => e1
theorem gr_ds {g0 g1 : Grp} {k : Bool} : dsOf g0 g1 k = (gr g0 g1 k).ds := by cases k <;> rfl
section
variable {g0 g1 : Grp} {shuf : List Str} {lean : List (Str × Int)}
theorem GrpsOk.k (ok : GrpsOk g0 g1 shuf) (k : Bool) : GrpOk (gr g0 g1 k) := by
  cases k
  · exact ok.k0
  · exact ok.k1
theorem perm_in (hp : lean.Perm (g0.lean ++ g1.lean)) (k : Bool) {x : Str × Int} (h : x ∈ (gr g0 g1 k).lean) : x ∈ lean := by
  rw [hp.mem_iff, List.mem_append]
  cases k
  · exact .inl h
  · exact .inr h
theorem perm_nd (ok : GrpsOk g0 g1 shuf) (hp : lean.Perm (g0.lean ++ g1.lean)) : (lean.map Prod.fst).Nodup := (hp.map Prod.fst).nodup_iff.mpr ok.nd
theorem perm_lk (ok : GrpsOk g0 g1 shuf) (hp : lean.Perm (g0.lean ++ g1.lean)) (k : Bool) {s : Str} (h : s ∈ (gr g0 g1 k).lean.map Prod.fst) : lk lean s = lk (gr g0 g1 k).lean s := lk_of (perm_nd ok hp) (perm_in hp k (lk_mem h))
theorem perm_nm (hp : lean.Perm (g0.lean ++ g1.lean)) (k : Bool) {s : Str} (h : s ∈ (gr g0 g1 k).lean.map Prod.fst) : s ∈ lean.map Prod.fst := by
  obtain ⟨x, hx, rfl⟩ := List.mem_map.mp h
  exact List.mem_map.mpr ⟨x, perm_in hp k hx, rfl⟩
theorem nm_apart (ok : GrpsOk g0 g1 shuf) {k k' : Bool} {s : Str} (h : s ∈ (gr g0 g1 k).lean.map Prod.fst) (h' : s ∈ (gr g0 g1 k').lean.map Prod.fst) : k = k' := by
  have nd := ok.nd
  rw [List.map_append] at nd
  have a := (List.nodup_append.mp nd).2.2
  cases k <;> cases k'
  · rfl
  · exact absurd rfl (a s h s h')
  · exact absurd rfl (a s h' s h)
  · rfl
theorem perm_lean (ok : GrpsOk g0 g1 shuf) (hp : lean.Perm (g0.lean ++ g1.lean)) : LeanOk lean where
  ne := fun z => by
    have := hp.length_eq
    rw [z, List.length_append] at this
    have := List.length_pos_iff.mpr ok.k0.lean.ne
    simp at *
    omega
  len := by rw [hp.length_eq]; exact ok.len
  nd := perm_nd ok hp
  wd := fun p h => (List.mem_append.mp (hp.mem_iff.mp h)).elim (ok.k0.lean.wd p) (ok.k1.lean.wd p)
  b := fun p h => (List.mem_append.mp (hp.mem_iff.mp h)).elim (ok.k0.lean.b p) (ok.k1.lean.b p)
theorem vs_in (ok : GrpsOk g0 g1 shuf) (k : Bool) {v : Str} (h : v ∈ (gr g0 g1 k).vs) : v ∈ shuf := by
  rw [ok.perm.mem_iff, List.mem_append]
  cases k
  · exact .inl h
  · exact .inr h
variable {e0 e1 : Nat} {least most : Int} {found : List (Sh.Deed Str)} {pl : Bool → List Nat}
theorem fl_get {l : List Nat} {i : Nat} (h : i < l.length) : l[i]? = some (fl l i) := by
  unfold fl
  rw [List.getD_eq_getElem?_getD, List.getElem?_eq_getElem h]
  rfl
theorem up_lt {l : List Nat} (h : l.Pairwise (· < ·)) {i j : Nat} (hij : i < j) (hj : j < l.length) : fl l i < fl l j := by
  have a := fl_get (l := l) (Nat.lt_trans hij hj)
  have b := fl_get hj
  obtain ⟨_, a2⟩ := List.getElem?_eq_some_iff.mp a
  obtain ⟨_, b2⟩ := List.getElem?_eq_some_iff.mp b
  have := List.pairwise_iff_getElem.mp h i j (Nat.lt_trans hij hj) hj hij
  omega
theorem up_inj {l : List Nat} (h : l.Pairwise (· < ·)) {i j : Nat} (hi : i < l.length) (hj : j < l.length) (e : fl l i = fl l j) : i = j := by
  rcases Nat.lt_trichotomy i j with z | z | z
  · have := up_lt h z hj; omega
  · exact z
  · have := up_lt h z hi; omega
/-- where an event stands -/
theorem wv_from (w : Wv (dsOf g0 g1) (Xf e1 (fl (pl false) e0) least most) found pl) {p : Nat} {d : Sh.Deed Str} (h : found[p]? = some d) : ∃ k i d', i < (pl k).length ∧ p = fl (pl k) i ∧ (gr g0 g1 k).ds[i]? = some d' ∧ d = carry (pl k) d' (Xf e1 (fl (pl false) e0) least most k i) := by
  obtain ⟨k, hk⟩ := w.cov p (List.getElem?_eq_some_iff.mp h).1
  obtain ⟨i, hi⟩ := List.getElem?_of_mem hk
  obtain ⟨d', h1, h2⟩ := w.at_ k i p hi
  rw [h] at h2
  have hl := (List.getElem?_eq_some_iff.mp hi).1
  have := fl_get hl
  rw [hi] at this
  exact ⟨k, i, d', hl, Option.some.inj this, by rw [← gr_ds]; exact h1, Option.some.inj h2⟩
theorem evs_of (ok : GrpsOk g0 g1 shuf) (hp : lean.Perm (g0.lean ++ g1.lean)) (hb : 0 ≤ least ∧ least ≤ most ∧ most ≤ 1000000) (n3 : ∀ d, g1.ds[e1]? = some d → d.notes.length ≠ 3)
    (w : Wv (dsOf g0 g1) (Xf e1 (fl (pl false) e0) least most) found pl) (hlt : fl (pl false) e0 < fl (pl true) e1) : EvsIn lean shuf found where
  len := by
    have a := w.n false
    have b := w.n true
    have c := ok.k0.ds.len
    have d := ok.k1.ds.len
    have a : (pl false).length ≤ g0.ds.length := a
    have b : (pl true).length ≤ g1.ds.length := b
    rw [w.len]
    omega
  ev := fun p d h => by
    obtain ⟨k, i, d', hi, rfl, h1, rfl⟩ := wv_from w h
    have dk := (ok.k k).ds
    have hm := List.mem_of_getElem? h1
    have hn := dk.notes i d' h1
    have ht := dk.tick d' hm
    refine ⟨perm_nm hp k (dk.st d' hm), ⟨ht.1, by show d'.tick ≤ _; omega⟩, ?_, fun n hnn => ?_⟩
    · show (d'.notes.map (Sh.Note.ren (fl (pl k))) ++ Xf e1 (fl (pl false) e0) least most k i).length ≤ 3
      rw [List.length_append, List.length_map]
      unfold Xf
      by_cases q : k = true ∧ i = e1
      · rw [if_pos q]
        obtain ⟨rfl, rfl⟩ := q
        have := n3 d' h1
        have := hn.1
        show d'.notes.length + 1 ≤ 3
        omega
      · rw [if_neg q]
        exact hn.1
    · rcases List.mem_append.mp hnn with hnn | hny
      · obtain ⟨m, hm, rfl⟩ := List.mem_map.mp hnn
        have hmi := hn.2 m hm
        cases m with
        | frm j l u => exact ⟨up_lt (w.up k) hmi.1 hi, hmi.2⟩
        | says v l u => exact ⟨vs_in ok k hmi.1, hmi.2⟩
      · unfold Xf at hny
        by_cases q : k = true ∧ i = e1
        · rw [if_pos q] at hny
          obtain ⟨rfl, rfl⟩ := q
          rw [List.mem_singleton.mp hny]
          exact ⟨hlt, hb⟩
        · rw [if_neg q] at hny
          exact nomatch hny
  mono := by
    rw [List.pairwise_iff_getElem]
    intro p q hpl hql hpq hst
    obtain ⟨k, i, d, hi, e1', h1, c1⟩ := wv_from w (List.getElem?_eq_getElem hpl)
    obtain ⟨k', j, d', hj, e2', h2, c2⟩ := wv_from w (List.getElem?_eq_getElem hql)
    rw [c1, c2] at hst ⊢
    have hst : d.st = d'.st := hst
    have m1 := (ok.k k).ds.st d (List.mem_of_getElem? h1)
    have m2 := (ok.k k').ds.st d' (List.mem_of_getElem? h2)
    rw [hst] at m1
    obtain rfl := nm_apart ok m1 m2
    have hij : i < j := by
      rcases Nat.lt_trichotomy i j with z | z | z
      · exact z
      · subst z; omega
      · have := up_lt (w.up k) z hi; omega
    obtain ⟨l1, g1'⟩ := List.getElem?_eq_some_iff.mp h1
    obtain ⟨l2, g2'⟩ := List.getElem?_eq_some_iff.mp h2
    have := List.pairwise_iff_getElem.mp (ok.k k).ds.mono i j l1 l2 hij
    rw [g1', g2'] at this
    exact this hst
theorem joined_of (ok : GrpsOk g0 g1 shuf) (hp : lean.Perm (g0.lean ++ g1.lean)) (he0 : e0 < g0.ds.length) (he1 : e1 < g1.ds.length)
    (w : Wv (dsOf g0 g1) (Xf e1 (fl (pl false) e0) least most) found pl) (hl : ∀ k, (pl k).length = (dsOf g0 g1 k).length) : Sh.Joined (gOf g0 g1) (lk lean) found (fun k i => fl (pl k) i) (eOf e0 e1) least most where
  endok := fun k => by
    cases k
    · exact he0
    · exact he1
  at_ := fun k i d h => by
    have h : (dsOf g0 g1 k)[i]? = some d := by rw [gr_ds]; exact h
    have hi : i < (pl k).length := by rw [hl]; exact (List.getElem?_eq_some_iff.mp h).1
    obtain ⟨d', h1, h2⟩ := w.at_ k i _ (fl_get hi)
    rw [h] at h1
    cases h1
    exact h2
  all := fun p d h => by
    obtain ⟨k, i, d', hi, e, h1, _⟩ := wv_from w h
    exact ⟨k, i, (List.getElem?_eq_some_iff.mp h1).1, e⟩
  inj := fun k k' i i' hi hi' e => by
    have hi : i < (pl k).length := by rw [hl, gr_ds]; exact hi
    have hi' : i' < (pl k').length := by rw [hl, gr_ds]; exact hi'
    have m1 : fl (pl k) i ∈ pl k := List.mem_of_getElem? (fl_get hi)
    have m2 : fl (pl k') i' ∈ pl k' := List.mem_of_getElem? (fl_get hi')
    have e : fl (pl k) i = fl (pl k') i' := e
    have ek : k = k' := by
      cases k <;> cases k'
      · rfl
      · exact absurd (e ▸ m2) (w.ap _ m1)
      · exact absurd m1 (e ▸ w.ap _ m2)
      · rfl
    subst ek
    exact ⟨rfl, up_inj (w.up k) hi hi' e⟩
  apart := fun d hd d' hd' z => by
    have m1 := ok.k0.ds.st d hd
    have m2 := ok.k1.ds.st d' hd'
    rw [z] at m1
    exact nomatch nm_apart ok (k := false) (k' := true) m1 m2
  leanok := fun k d hd => perm_lk ok hp k ((ok.k k).ds.st d hd)
  back := fun k d hd j l m hm => by
    obtain ⟨i, hi⟩ := List.getElem?_of_mem hd
    exact Nat.lt_trans (((ok.k k).ds.notes i d hi).2 _ hm).1 (List.getElem?_eq_some_iff.mp hi).1
theorem own_of (ok : GrpsOk g0 g1 shuf) (hp : lean.Perm (g0.lean ++ g1.lean)) (k : Bool) {s : Str} (h : s ∈ (gr g0 g1 k).lean.map Prod.fst) : Sh.Own (gOf g0 g1) (lk lean) k s := by
  refine ⟨fun d hd z => ?_, perm_lk ok hp k h⟩
  have m1 := (ok.k (!k)).ds.st d hd
  rw [z] at m1
  have := nm_apart ok m1 h
  cases k <;> exact nomatch this
end
end
section
variable {P : Program} {w : World} {K : PySem.W.Frag} {mg : Str → Option Value} {base : Heap} [TL]
structure SpotIn where
  lean : List (Str × Int)
  vs : List Str
  ds : List (Sh.Deed Str)
def spSpot : Sp := Drw (fun G vs (x : SpotIn) => (∃ v u, vs = [v, u] ∧ Rep G (dNet x.lean x.vs) v ∧ Rep G (dDeeds x.ds) u) ∧ LeanOk x.lean ∧ Wds x.vs ∧ DeedsOk x.lean x.vs x.ds) fun G _ x v => ∃ s : Str × Int, Rep G (dSpot s) v ∧ s.1 ∈ x.lean.map Prod.fst ∧ 0 ≤ s.2 ∧ s.2 ≤ 2000
theorem ok_law_spot (T : Txt K mg) : FnOk P w K mg base CX0 3 T.law_spot.a T.law_spot.fd ["_law_draw", "_law_net", "_law_deeds_here"] spSpot := by
  refine T.law_spot.F.ok sc_law_spot (fun vs H Q E h => ?_) (fun cdv A outer s H vs Q E hr h => ?_)
  · obtain ⟨n, G, D, ws, rfl, _, ⟨⟨_, _, rfl, _⟩, _⟩, _⟩ := h
    rfl
  · obtain ⟨⟨lean, vo, ds⟩, G, D, ws, rfl, k, ⟨⟨v, u, rfl, rn, rd⟩, lo, hw, ok⟩, q⟩ := h
    dsimp only at rn rd lo hw ok q
    obtain ⟨a, b, c, rfl, ea, eb, ec⟩ := rep_net.mp rn
    obtain ⟨d, fv, rfl, ed, rf⟩ := rep_deeds.mp rd
    have fl : fv.length = ds.length := by rw [rf.len, List.length_map]
    have z0 := ok.len
    have hu := hu_of hr
    have S := Sta.startD k
    refine ⟨_, (pss_cons (ps_asg (pe_tup (pa_cons (pe_call (ok_law_pick T) (hr.mono (by decide)) rfl T.law_pick.g T.law_pick.F.kp T.law_pick.b .nil pass0 (pa_cons (pv 0) (pa_cons (pe_callTy (k_lstD rfl) rfl T.z_list (by decide +kernel) (pa_cons (pe_ix (y_ixT (K := K) rfl) (pv 1) pe_int (fun _ _ => rfl)) pa_nil)) pa_nil))) (pa_cons (pe_lst (pa_cons pe_int pa_nil)) pa_nil))) (y_gTup (K := K) (n := 2) rfl rfl (pgs_cons (pg_name (i := 3) sc_law_spot.nd rfl (Or.inr rfl)) (pgs_cons (pg_name (i := 4) sc_law_spot.nd rfl (Or.inl rfl)) pgs_nil))))
  (pss_cons (ps_if (PW.pt (pw_and (pt_cmpR (y_neD (K := K) rfl hr.units) (pv 2) (pe_lst pa_nil) (nomark _)) (pw_and1 (pt_cmpR op_gt (pe_call (ok_law_take T) (hr.mono (by decide)) rfl T.law_take.g T.law_take.F.kp T.law_take.b .nil pass0 (pa_cons (pv 0) (pa_cons pe_int pa_nil))) pe_int (nomark _)))))
  (pss_one (ps_set (i := 3) sc_law_spot.nd rfl (Or.inr rfl) (pe_ix (y_ixT (K := K) rfl) (pe_call (ok_law_pick T) (hr.mono (by decide)) rfl T.law_pick.g T.law_pick.F.kp T.law_pick.b .nil pass0 (pa_cons (pv 0) (pa_cons (pv 2) pa_nil))) pe_int (fun _ _ => rfl))))
  pss_nil)
  (pss_cons (ps_set (i := 4) sc_law_spot.nd rfl (Or.inl rfl) (pe_op op_cat (pv 4) (pe_lc (own := [("_law_deed", 5)]) rfl sc_law_spot.nd (y_iL (K := K) rfl (pv 2)) (blkOk_by (own := [("_law_deed", 5)]) (N := n_law_spot) (sc := defScope s_law_spot) (by decide +kernel)) (fun _ _ _ _ _ => (pg_name (i := 5) sc_law_spot.nd rfl (Or.inl rfl))) (fun _ _ _ _ _ => (pts_one (pt_cmpR op_eq (pe_ix (y_ixT (K := K) rfl) (pv 5) pe_int (fun _ _ => rfl)) (pv 3) (nomark _)))) (fun _ _ _ _ _ => (pe_ix (y_ixT (K := K) rfl) (pv 5) pe_int (fun _ _ => rfl))))))
  (pss_one (ps_ret (pe_tup (pa_cons (pv 3) (pa_cons (pe_callB (k_max2 rfl) rfl T.z_max (by decide +kernel) (pa_cons pe_int (pa_cons (pe_op op_add (pe_call (ok_law_pick T) (hr.mono (by decide)) rfl T.law_pick.g T.law_pick.F.kp T.law_pick.b .nil pass0 (pa_cons (pv 0) (pa_cons (pv 4) pa_nil))) (pe_call (ok_law_pick T) (hr.mono (by decide)) rfl T.law_pick.g T.law_pick.F.kp T.law_pick.b .nil pass0 (pa_cons (pv 0) (pa_cons (pe_lst (pa_cons pe_int (pa_cons pe_int (pa_cons pe_int (pa_cons pe_int (pa_cons pe_int (pa_cons pe_int (pa_cons (pe_un un_neg pe_int) pa_nil)))))))) pa_nil)))) pa_nil))) pa_nil)))))))), ?_⟩
    fail "go"
    rw [lkv_names]
    refine n_fix S fun p1 G1 H1 s1 S1 e1 => ?_
    have lpos := List.length_pos_iff.mpr lo.ne
    refine c_pickS S1 (lean.map Prod.fst) (by fail "gp") (by rw [List.length_map]; omega) (by rw [List.length_map]; have := lo.len; omega) fun G2 H2 pl0 s2 S2 hpl0 => ?_
    fail "go"
    refine n_fix S2 fun p3 G3' H3' s3' S3' e3' => ?_
    fail "go"
    refine n_fix S3' fun pt G3 H3 s3 S3 et => ?_
    have e3 := s3.to e3'
    fail "go"
    refine x_seqC (fun σ H' => ∃ (G4 : Hp) (pl : Str), σ = [some (.ref D.d), some (.ref a), some (.ref d), some (.str pl), some (.ref p3), none] ∧ Sub G3 G4 ∧ Sta D.has (some D) G H G4 H' [] ∧ pl ∈ lean.map Prod.fst) (fun σ H4 h => ?_) (fun nx => ?_)
    · obtain ⟨G4, pl, rfl, s4, S4, hpl⟩ := h
      fail "go"
      refine lc_l (xs := fv) S4 (fun i _ acc => ∃ ns : List Int, acc = ns.map V.int ∧ ∀ n ∈ ns, 0 ≤ n ∧ n ≤ 1000) ⟨[], rfl, fun _ z => (nomatch z)⟩ (fun G1 H1 x s1 S1 => S1.isin (s1.to (by fail "gp"))) (fun l G5 H5 acc s5 S5 hl hv => ?_) (fun i v l G5 H5 acc hi s5 S5 hl hv => ?_)
      · obtain ⟨ns, rfl, hns⟩ := hv
        rw [List.length_map] at hl
        fail "go"
        refine ls_cat (xs := [.int 0]) (by fail "hp") (by fail "hp") (by rw [List.length_map]; show 1 + ns.length ≤ 1000; omega) (n_fix S5 fun p6 G6 H6 s6 S6 e6 => ?_)
        fail "go"
        refine c_pickI S6 (0 :: ns) e6 (Nat.le_add_left _ _) (by rw [List.length_cons]; omega) fun G7 H7 t7 s7 S7 ht7 => ?_
        have ht7' : 0 ≤ t7 ∧ t7 ≤ 1000 := by
          rcases List.mem_cons.mp ht7 with rfl | ht7
          · exact ⟨by decide, by decide⟩
          · exact hns t7 ht7
        fail "go"
        refine n_fix S7 fun p8 G8 H8 s8 S8 e8 => ?_
        refine c_pickI S8 [0, 0, 1, 2, 5, 100, -1] e8 (by decide) (by decide) fun G9 H9 t9 s9 S9 ht9 => ?_
        have ht9' : -1 ≤ t9 ∧ t9 ≤ 100 := by simp at ht9; omega
        fail "go"
        obtain ⟨tk, etk, k0, k1⟩ : ∃ tk : Int, (if t7 + t9 > 0 then t7 + t9 else 0) = tk ∧ 0 ≤ tk ∧ tk ≤ 2000 := ⟨_, rfl, by split <;> omega, by split <;> omega⟩
        rw [etk]
        refine n_fix S9 fun p10 G10 H10 s10 S10 e10 => ?_
        exact q _ _ _ S10.go S10.ok ⟨(pl, tk), rep_spot.mpr ⟨p10, rfl, e10⟩, hpl, k0, k1⟩
      · obtain ⟨ns, rfl, hns⟩ := hv
        obtain ⟨dd, hdd, rdd⟩ := rf.got hi
        rw [List.getElem?_map] at hdd
        obtain ⟨de, hde, rfl⟩ := Option.map_eq_some_iff.mp hdd
        obtain ⟨t6, n6, rfl, e6, _⟩ := rep_deed.mp rdd
        have hil := (List.getElem?_eq_some_iff.mp hi).1
        have e6' : G5 t6 = _ := s5.to (s4.to (s3.to (s3'.to (s2.to (s1.to e6)))))
        fail "go"
        refine l_ifd (fun hb => ?_) (fun hb => ?_)
        · fail "go"
          refine lc_in s5 S5 (by omega) (by omega) ⟨ns ++ [de.tick], by rw [List.map_append]; rfl, fun n hn => ?_⟩
          rcases List.mem_append.mp hn with hn | hn
          · exact hns n hn
          · rw [List.mem_singleton.mp hn]
            exact ok.tick de (List.mem_of_getElem? hde)
        · exact lc_out s5 S5 (by omega) ⟨ns, rfl, hns⟩
    · fail "go"
      refine n_fix S3 fun p4 G4 H4 s4 S4 e4 => ?_
      refine ls_neNil S4 (by fail "hp") (rf.mono (by fail "sb")) (ok.cl lo hw) (deeds_dep ds) (by fail "hp") ?_
      fail "go"
      refine l_ifn (fun hne => ?_) (fun he => ?_)
      · have hne' : ds ≠ [] := fun z => hne (by rw [z]; rfl)
        have dpos := List.length_pos_iff.mpr hne'
        fail "go"
        refine c_take S4 4 (by decide) (by decide) fun G5 H5 k5 s5 S5 _ _ => ?_
        fail "go"
        refine l_ifd (fun _ => ?_) (fun _ => ?_)
        · fail "go"
          refine c_pickV S5 fv (by fail "gp") (by omega) (by omega) fun G6 H6 v6 s6 S6 hv6 => ?_
          obtain ⟨i, hi⟩ := List.getElem?_of_mem hv6
          obtain ⟨dd, hdd, rdd⟩ := rf.got hi
          rw [List.getElem?_map] at hdd
          obtain ⟨de, hde, rfl⟩ := Option.map_eq_some_iff.mp hdd
          obtain ⟨t6, n6, rfl, e6, _⟩ := rep_deed.mp rdd
          fail "go"
          exact nx _ _ ⟨G6, de.st, rfl, s4.tr (s5.tr s6), S6, ok.st de (List.mem_of_getElem? hde)⟩
        · fail "go"
          exact nx _ _ ⟨G5, pl0, rfl, s4.tr s5, S5, hpl0⟩
      · fail "go"
        exact nx _ _ ⟨G4, pl0, rfl, s4, S4, hpl0⟩
end
section
variable {P : Program} {w : World} {K : PySem.W.Frag} {mg : Str → Option Value} {base : Heap} [TL]
structure ShrX where
  g0 : Grp
  g1 : Grp
  lean : List (Str × Int)
  vs : List Str
  found : List (Sh.Deed Str)
  s0 : Str × Int
  s1 : Str × Int
  t0 : List Sh.Span
  t1 : List Sh.Span
def two {α : Type} (a b : α) : Bool → α
  | false => a
  | true => b
structure ShrOk (x : ShrX) : Prop where
  k : ∀ k, GrpOk (gr x.g0 x.g1 k)
  his : HisOk ((x.lean, x.vs), x.found)
  nm : ∀ k s, s ∈ (gr x.g0 x.g1 k).lean.map Prod.fst → s ∈ x.lean.map Prod.fst ∧ Sh.Own (gOf x.g0 x.g1) (lk x.lean) k s
  sp : ∀ k, (two x.s0 x.s1 k).1 ∈ (gr x.g0 x.g1 k).lean.map Prod.fst ∧ 0 ≤ (two x.s0 x.s1 k).2 ∧ (two x.s0 x.s1 k).2 ≤ 2000
  jn : ∃ pl e least most, Sh.Joined (gOf x.g0 x.g1) (lk x.lean) x.found pl e least most ∧ Sh.Ends2 (gOf x.g0 x.g1) e (two x.s0 x.s1)
  tk : ∀ k, Sh.Desc (Sh.Poss (lk x.lean) x.found (two x.s0 x.s1 k)) (two x.t0 x.t1 k) ∧ Sh.Bnd (10 ^ 31) (two x.t0 x.t1 k)
def spShares (T : Txt K mg) : Sp := DrwH (fun _ G H vs (x : ShrX) => (∃ a v u w, vs = [.ref a, v, u, w] ∧ HisAt T G a x.lean x.vs x.found ∧ Rep G (.lst [dGroup x.g0, dGroup x.g1]) v ∧ Rep G (.lst [dSpot x.s0, dSpot x.s1]) u ∧ Rep G (.lst [dSpans x.t0, dSpans x.t1]) w) ∧ ShrOk x ∧ TabOk G H) fun _ _ _ v => v = .bl true
theorem ok_law_shares_right (T : Txt K mg) (X1 : TxtL T base) : FnOk P w K mg base CX0 8 T.law_shares_right.a T.law_shares_right.fd ["_law_draw", "_law_story", "_law_groups_here", "_law_spots", "_law_told_here"] (spShares T) := by
  refine T.law_shares_right.F.ok sc_law_shares_right (fun vs H Q E h => ?_) (fun cdv A outer s H vs Q E hr h => ?_)
  · obtain ⟨_, _, _, _, rfl, _, ⟨⟨_, _, _, _, rfl, _⟩, _⟩, _⟩ := h
    rfl
  · obtain ⟨x, G, D, ws, rfl, k, ⟨⟨a, v, u, w', rfl, hi, rv, ru, rww⟩, ok, ht⟩, q⟩ := h
    have hu := hu_of hr
    have S := Sta.startD k
    obtain ⟨pg, _, rfl, eg, v0, _, rfl, r0, v1, _, rfl, r1, rfl⟩ := rv
    obtain ⟨pu, _, rfl, eu, u0, _, rfl, ru0, u1, _, rfl, ru1, rfl⟩ := ru
    obtain ⟨pw, _, rfl, ew, w0, _, rfl, rw0, w1, _, rfl, rw1, rfl⟩ := rww
    obtain ⟨pl, e, least, most, J, en⟩ := ok.jn
    refine ⟨_, (pss_cons (ps_for PassesOwn.never rfl (pi_range1 rfl T.z_range (pa_cons pe_int pa_nil)) (pg_name (i := 5) sc_law_shares_right.nd rfl (Or.inl rfl))
  (pss_cons (ps_par (i := 6) (j := 7) rfl sc_law_shares_right.nd rfl rfl (by decide) rfl rfl (pa_cons (pe_dget hu (pe_ix (y_ixL (K := K) rfl) (pv 2) (pv 5) (fun _ _ => rfl)) pe_str (fun _ _ => rfl)) (pa_cons (pe_dget hu (pe_ix (y_ixL (K := K) rfl) (pv 2) (pv 5) (fun _ _ => rfl)) pe_str (fun _ _ => rfl)) pa_nil)) (by rfl))
  (pss_cons (ps_if (pt_cmpR (y_neD (K := K) rfl hr.units) (pe_call (ok_known T X1) (hr.mono (by decide)) rfl T.known.g T.known.F.kp T.known.b .nil pass0 (pa_cons (pv 1) (pa_cons (pe_ix (y_ixL (K := K) rfl) (pv 3) (pv 5) (fun _ _ => rfl)) pa_nil))) (pe_ix (y_ixL (K := K) rfl) (pv 4) (pv 5) (fun _ _ => rfl)) (nomark _))
  (pss_one (ps_ret pe_bl))
  pss_nil)
  (pss_cons (ps_set (i := 8) sc_law_shares_right.nd rfl (Or.inl rfl) (pe_call (ok_law_spot T) (hr.mono (by decide)) rfl T.law_spot.g T.law_spot.F.kp T.law_spot.b .nil pass0 (pa_cons (pv 0) (pa_cons (pv 6) (pa_cons (pv 7) pa_nil)))))
  (pss_cons (ps_set (i := 9) sc_law_shares_right.nd rfl (Or.inl rfl) (pe_call (ok_law_ranges T X1) (hr.mono (by decide)) rfl T.law_ranges.g T.law_ranges.F.kp T.law_ranges.b .nil pass0 (pa_cons (pv 6) (pa_cons (pv 7) (pa_cons (pe_lst (pa_cons (pe_ix (y_ixL (K := K) rfl) (pv 3) (pv 5) (fun _ _ => rfl)) (pa_cons (pv 8) pa_nil))) (pa_cons pe_str (pa_cons pe_str pa_nil)))))))
  (pss_cons (ps_set (i := 10) sc_law_shares_right.nd rfl (Or.inl rfl) (pe_call (ok_law_both T) (hr.mono (by decide)) rfl T.law_both.g T.law_both.F.kp T.law_both.b .nil pass0 (pa_cons (pe_call (ok_law_told T X1) (hr.mono (by decide)) rfl T.law_told.g T.law_told.F.kp T.law_told.b .nil pass0 (pa_cons (pv 6) (pa_cons (pv 7) (pa_cons (pv 8) pa_nil)))) (pa_cons (pe_call (ok_law_moved T) (hr.mono (by decide)) rfl T.law_moved.g T.law_moved.F.kp T.law_moved.b .nil pass0 (pa_cons (pe_ix (y_ixL (K := K) rfl) (pv 4) (pv 5) (fun _ _ => rfl)) (pa_cons (pv 9) pa_nil))) pa_nil))))
  (pss_one (ps_if (pt_cmpR (y_neD (K := K) rfl hr.units) (pe_call (ok_known T X1) (hr.mono (by decide)) rfl T.known.g T.known.F.kp T.known.b .nil pass0 (pa_cons (pv 1) (pa_cons (pv 8) pa_nil))) (pv 10) (nomark _))
  (pss_one (ps_ret pe_bl))
  pss_nil))))))))
  (pss_one (ps_ret pe_bl))), ?_⟩
    fail "go"
    refine l_rng 2 (by decide) ?_
    refine for_r (fun i σ H1 => ∃ (G1 : Hp) (x5 x6 x7 x8 x9 x10 : Option V), Sub G G1 ∧ σ = [some (.ref D.d), some (.ref a), some (.ref pg), some (.ref pu), some (.ref pw), x5, x6, x7, x8, x9, x10] ∧ Sta D.has (some D) G H G1 H1 []) ⟨G, none, none, none, none, none, none, Sub.rfl' _, rfl, S⟩ (fun σ H1 h => ?_) (fun i σ H1 hi2 h => ?_)
    · obtain ⟨G1, x5, x6, x7, x8, x9, x10, s1, rfl, S1⟩ := h
      fail "go"
      exact q _ _ _ S1.go S1.ok rfl
    · obtain ⟨G1, x5, x6, x7, x8, x9, x10, s1, rfl, S1⟩ := h
      obtain ⟨k, hv, hu', hw⟩ : ∃ k, atI [v0, v1] (0 + (i : Int)) = some (two v0 v1 k) ∧ atI [u0, u1] (0 + (i : Int)) = some (two u0 u1 k) ∧ atI [w0, w1] (0 + (i : Int)) = some (two w0 w1 k) := by
        match i, hi2 with
        | 0, _ => exact ⟨false, rfl, rfl, rfl⟩
        | 1, _ => exact ⟨true, rfl, rfl, rfl⟩
      have rg : Rep G (dGroup (gr x.g0 x.g1 k)) (two v0 v1 k) := by cases k; exact r0; exact r1
      have rsp : Rep G (dSpot (two x.s0 x.s1 k)) (two u0 u1 k) := by cases k; exact ru0; exact ru1
      have rtk : Rep G (dSpans (two x.t0 x.t1 k)) (two w0 w1 k) := by cases k; exact rw0; exact rw1
      have gk := ok.k k
      have nm := ok.nm k
      have spk := ok.sp k
      obtain ⟨dtk, btk⟩ := ok.tk k
      have hel : (gOf x.g0 x.g1 k).lean = lk (gr x.g0 x.g1 k).lean := rfl
      have hed : (gOf x.g0 x.g1 k).deeds = (gr x.g0 x.g1 k).ds := rfl
      have due := fun (s : Str × Int) (told ap tk : List Sh.Span) (R : Tb) => Sh.law_due (R := R) (o := ("zero" : Str)) (a := "spot0") (b := "spot1") (k := k) (s := s) (told := told) (ap := ap) (tk := tk) J en
      rw [hel, hed] at due
      have lge : ∀ s, s ∈ (gr x.g0 x.g1 k).lean.map Prod.fst → 0 ≤ lk (gr x.g0 x.g1 k).lean s := fun s hs => (gk.lean.b _ (lk_mem hs)).1
      generalize two v0 v1 k = vk at hv rg
      generalize two u0 u1 k = uk at hu' rsp
      generalize two w0 w1 k = wk at hw rtk
      generalize two x.t0 x.t1 k = tk at rtk dtk btk
      generalize gr x.g0 x.g1 k = gk' at rg gk nm spk due lge
      have own : ∀ s, s ∈ gk'.lean.map Prod.fst → Sh.Own (gOf x.g0 x.g1) (lk x.lean) k s := fun s hs => (nm s hs).2
      generalize two x.s0 x.s1 k = sp at rsp spk due dtk
      obtain ⟨ga, gn, gd, gh, rfl, eg2, rn, rd, rh⟩ := rep_group.mp rg
      obtain ⟨m, rfl, em⟩ := rep_spot.mp rsp
      fail "go"
      refine l_ixL (S1.isin (s1.to eg)) hv ?_
      fail "go"
      refine l_dgS (S1.isin (s1.to eg2)) (group_net _ _ _) ?_
      fail "go"
      refine l_ixL (S1.isin (s1.to eg)) hv ?_
      fail "go"
      refine l_dgS (S1.isin (s1.to eg2)) (group_deeds _ _ _) ?_
      fail "go"
      refine x_seq ?_
      fail "go"
      refine l_ixL (S1.isin (s1.to eu)) hu' ?_
      fail "go"
      refine c_purH S1 (((x.lean, x.vs), x.found), sp) ⟨⟨a, m, rfl, hi.mono s1, s1.to em⟩, ok.his, ⟨(nm _ spk.1).1, spk.2.1, Int.le_trans spk.2.2 (by decide)⟩, S1.tabs ht⟩ fun G2 H2 v2 s2 S2 w2 => ?_
      obtain ⟨l2, rl2, d2⟩ := w2
      have s02 := s1.tr s2
      obtain rfl : l2 = tk := d2.uniq dtk
      fail "go"
      refine l_ixL (S2.isin (s02.to ew)) hw ?_
      fail "go"
      refine ls_neSp S2 rl2 (rtk.mono s02) ?_
      rw [decide_eq_true rfl]
      fail "go"
      refine c_drw S2 ⟨gk'.lean, gk'.vs, gk'.ds⟩ ⟨⟨gn, gd, rfl, rn.mono s02, rd.mono s02⟩, gk.lean, gk.vwd, gk.ds⟩ fun G3 H3 v3 s3 S3 w3 => ?_
      obtain ⟨u, rsu, un, ub⟩ := w3
      have s03 := s02.tr s3
      fail "go"
      refine l_ixL (S3.isin (s03.to eu)) hu' ?_
      fail "go"
      refine n_fix S3 fun p4 G4 H4 s4 S4 e4 => ?_
      have s04 := s03.tr s4
      fail "go"
      refine c_purH S4 ⟨((gk'.lean, gk'.vs), gk'.ds, [sp, u]), spotK 0, spotK 1⟩ ⟨⟨gn, gd, _, rfl, rn.mono s04, rd.mono s04, _, _, rfl, e4, _, _, rfl, rsp.mono s04, _, _, rfl, rsu.mono s4, rfl⟩, ⟨gk.lean, gk.ds, Nat.le_refl _, fun z hz => ?_⟩, ⟨spotK_mem (show 0 < 2 from Nat.succ_pos 1), spotK_mem (show 1 < 2 from Nat.lt_succ_self 1)⟩, S4.tabs ht⟩ fun G5 H5 v5 s5 S5 w5 => ?_
      · rcases List.mem_cons.mp hz with rfl | hz
        · exact spk
        · rw [List.mem_singleton.mp hz]
          exact ⟨un, ub⟩
      obtain ⟨ap, R, rap, run, dap, bap⟩ := w5
      have s05 := s04.tr s5
      have dap2 : Sh.Desc (Sh.Apart (lk gk'.lean) gk'.ds sp u) ap := dap.congr fun v => (tells2_of run).apart ne_s0 ne_s1 ne_s01 v
      obtain ⟨md, mb⟩ := Sh.moved_desc (by decide) (by decide) dtk dap2 btk bap
      fail "go"
      refine c_purH S5 ⟨gk'.lean, gk'.vs, gk'.ds, u⟩ ⟨⟨gn, gd, _, rfl, rn.mono s05, rd.mono s05, rsu.mono (s4.tr s5)⟩, ⟨gk.lean, gk.ds, Nat.le_succ 1, fun z hz => ?_⟩, S5.tabs ht⟩ fun G6 H6 v6 s6 S6 w6 => ?_
      · rw [List.mem_singleton.mp hz]
        exact ⟨un, ub⟩
      obtain ⟨told, rto, dto, bto⟩ := w6
      have s06 := s05.tr s6
      fail "go"
      refine l_ixL (S6.isin (s06.to ew)) hw ?_
      fail "go"
      refine c_pur S6 ⟨l2, ap⟩ ⟨⟨_, _, rfl, rtk.mono s06, rap.mono s6⟩, Nat.le_trans dtk.len (by decide), Nat.le_trans dap.len (by decide)⟩ fun G7 H7 v7 s7 S7 w7 => ?_
      fail "go"
      refine c_pur S7 ⟨told, Sh.movedL l2 ap⟩ ⟨⟨_, _, rfl, rto.mono s7, w7⟩, Nat.le_trans dto.len (by decide), Nat.le_trans md.len (by decide)⟩ fun G8 H8 v8 s8 S8 w8 => ?_
      have s08 := s06.tr (s7.tr s8)
      fail "go"
      have s38 := s4.tr (s5.tr (s6.tr (s7.tr s8)))
      obtain ⟨mu, rfl, emu⟩ := rep_spot.mp rsu
      refine c_purH S8 (((x.lean, x.vs), x.found), u) ⟨⟨a, mu, rfl, hi.mono s08, s38.to emu⟩, ok.his, ⟨(nm _ un).1, ub.1, Int.le_trans ub.2 (by decide)⟩, S8.tabs ht⟩ fun G9 H9 v9 s9 S9 w9 => ?_
      obtain ⟨l9, rl9, d9⟩ := w9
      have d9' := due u told ap l2 R (own _ un) (tells2_of run) ne_s0 ne_s1 ne_s01 (lge _ spk.1) (lge _ un) dto dap2 dtk bto bap btk
      obtain rfl := d9.uniq d9'
      fail "go"
      refine ls_neSp S9 rl9 (w8.mono s9) ?_
      rw [decide_eq_true rfl]
      fail "go"
      exact ⟨G9, _, _, _, _, _, _, s08.tr s9, rfl, S9⟩
end
section
variable {P : Program} {w : World} {K : PySem.W.Frag} {mg : Str → Option Value} {base : Heap} [TL]
theorem x_make {C : Addr} {sp : Sp} {vs : List V} {E : XK} {t : TA} {σ : L2.St} {H : Hp} {Q : VK} (h : t σ H fun us H1 => ∀ x dx, H1 x = none → H1 dx = none → dx ≠ x → sp (.ref x :: (us ++ vs)) (upd (upd H1 dx (.own x)) x (.ins C dx [])) (fun v H2 => v = .non ∧ Q (.ref x) H2) E) : tMake C sp vs E t σ H Q := h
theorem make_S {M : Addr → Prop} {D : Option Dr} {G0 H0 G H : Hp} {L : List (Addr × HO)} {C x dx : Addr} (S : Sta M D G0 H0 G H L) (hx : H x = none) (hd : H dx = none) (hn : dx ≠ x) : ∃ G', Sub G G' ∧ Sta M D G0 H0 G' (upd (upd H dx (.own x)) x (.ins C dx [])) ((x, .ins C dx []) :: L) :=
  ⟨_, Sub.new (S.inn.nn hd), (S.new (o := .own x) hd ⟨(fun _ z => by cases z), (fun _ z => by cases z)⟩).mine (o := .ins C dx []) (by rw [upd_ne (Ne.symm hn)]; exact hx) ⟨(fun _ z => by cases z), (fun _ z => by cases z)⟩⟩
theorem sql_start {H : Hp} {a : Addr} {xs : List V} (h : SqL K H a xs) : ∃ G, Sub G H ∧ SqL K G a xs ∧ ∀ b ps, G b ≠ some (.tbl ps) := by
  rcases h with (h | ⟨o, h⟩) | h
  · refine ⟨fun b => if b = a then H a else none, fun b o e => ?_, .inl (.inl ((if_pos rfl).trans h)), fun b ps e => ?_⟩
    · have e : (if b = a then H a else none) = some o := e
      split at e
      · rename_i z; rw [z]; exact e
      · cases e
    · have e : (if b = a then H a else none) = some (.tbl ps) := e
      split at e
      · rw [h] at e; cases e
      · cases e
  · refine ⟨fun b => if b = a then H a else none, fun b o e => ?_, .inl (.inr ⟨o, (if_pos rfl).trans h⟩), fun b ps e => ?_⟩
    · have e : (if b = a then H a else none) = some o := e
      split at e
      · rename_i z; rw [z]; exact e
      · cases e
    · have e : (if b = a then H a else none) = some (.tbl ps) := e
      split at e
      · rw [h] at e; cases e
      · cases e
  · exact ⟨fun _ => none, (fun b o e => by cases e), .inr h, (fun b ps e => by cases e)⟩
def TlK (g : Grp) (s : Str × Int) (G : Hp) (v : V) (r : List Sh.Span) : Prop := Rep G (dSpans r) v ∧ Sh.Desc (Sh.Poss (lk g.lean) g.ds s) r ∧ Sh.Bnd (10 ^ 30) r
theorem TlK.mono {g : Grp} {s : Str × Int} {G G' : Hp} {v : V} {r : List Sh.Span} (s' : Sub G G') (h : TlK g s G v r) : TlK g s G' v r := ⟨h.1.mono s', h.2⟩
theorem rep_one {G : Hp} {p q : Addr} {a b : Int} (h : G p = some (.tup [.int a, .int b])) (h2 : G q = some (.lst [.ref p])) : Rep G (dSpans [(some a, some b)]) (.ref q) := ⟨q, _, rfl, h2, _, [], rfl, rep_span.mpr ⟨p, rfl, h⟩, rfl⟩
def spLaw (K : PySem.W.Frag) : Sp := fun vs H Q _ => ∃ (a : Addr) (ns : List Int), vs = [.ref a] ∧ ns.length ≤ 63 ∧ SqL K H a (ns.map V.int) ∧ LamX.Tabs TL.lt H ∧ ∀ H', Q (.bl true) H'
theorem ok_law (T : Txt K mg) (X1 : TxtL T base) : FnOk P w K mg base CX0 12 T.law.a T.law.fd ["_law_script"] (spLaw K) := by
  refine T.law.F.ok sc_law (fun vs H Q E h => ?_) (fun cdv A outer s H vs Q E hr h => ?_)
  · obtain ⟨_, _, rfl, _⟩ := h
    rfl
  · obtain ⟨a, ns, rfl, hl, sq, htb, q⟩ := h
    have hu := hu_of hr
    obtain ⟨G, hs, sqG, hnt⟩ := sql_start sq
    have S := Sta.start hs
    refine ⟨_, (pss_cons (ps_set (i := 1) sc_law.nd rfl (Or.inl rfl) (pe_call (ok_law_begin T) (hr.mono (by decide)) rfl T.law_begin.g T.law_begin.F.kp T.law_begin.b .nil pass0 (pa_cons (pv 0) pa_nil)))
  (pss_cons (ps_for PassesOwn.never rfl (pi_range1 rfl T.z_range (pa_cons (pe_op op_add pe_int (pe_callB (k_min2 rfl) rfl T.z_min (by decide +kernel) (pa_cons (pe_callB (y_len (K := K) rfl) rfl T.z_len (by decide +kernel) (pa_cons (pv 0) pa_nil)) (pa_cons pe_int pa_nil)))) pa_nil)) (pg_name (i := 2) sc_law.nd rfl (Or.inl rfl))
  (pss_cons (ps_asg (pe_call (ok_law_groups T) (hr.mono (by decide)) rfl T.law_groups.g T.law_groups.F.kp T.law_groups.b .nil pass0 (pa_cons (pv 1) (pa_cons pe_int pa_nil))) (y_gTup (K := K) (n := 2) rfl rfl (pgs_cons (pg_name (i := 3) sc_law.nd rfl (Or.inr rfl)) (pgs_cons (pg_name (i := 4) sc_law.nd rfl (Or.inl rfl)) pgs_nil))))
  (pss_cons (ps_if (PW.pt (pw_or (pt_cmpR (y_eqD (K := K) rfl hr.units) (pe_dget hu (pe_ix (y_ixL (K := K) rfl) (pv 3) pe_int (fun _ _ => rfl)) pe_str (fun _ _ => rfl)) (pe_lst pa_nil) (nomark _)) (pw_or1 (pt_cmpR (y_eqD (K := K) rfl hr.units) (pe_dget hu (pe_ix (y_ixL (K := K) rfl) (pv 3) pe_int (fun _ _ => rfl)) pe_str (fun _ _ => rfl)) (pe_lst pa_nil) (nomark _)))))
  (pss_one ps_continue)
  pss_nil)
  (pss_cons (ps_asg (pe_call (ok_law_bridge T) (hr.mono (by decide)) rfl T.law_bridge.g T.law_bridge.F.kp T.law_bridge.b .nil pass0 (pa_cons (pv 1) (pa_cons (pv 3) pa_nil))) (y_gTup (K := K) (n := 4) rfl rfl (pgs_cons (pg_name (i := 5) sc_law.nd rfl (Or.inl rfl)) (pgs_cons (pg_name (i := 6) sc_law.nd rfl (Or.inl rfl)) (pgs_cons (pg_name (i := 7) sc_law.nd rfl (Or.inl rfl)) (pgs_cons (pg_name (i := 8) sc_law.nd rfl (Or.inl rfl)) pgs_nil))))))
  (pss_cons (ps_if (pt_cmpR op_eq (pe_callB (y_len (K := K) rfl) rfl T.z_len (by decide +kernel) (pa_cons (pe_ix (y_ixT (K := K) rfl) (pe_ix (y_ixL (K := K) rfl) (pe_dget hu (pe_ix (y_ixL (K := K) rfl) (pv 3) pe_int (fun _ _ => rfl)) pe_str (fun _ _ => rfl)) (pv 6) (fun _ _ => rfl)) pe_int (fun _ _ => rfl)) pa_nil)) pe_int (nomark _))
  (pss_one ps_continue)
  pss_nil)
  (pss_cons (ps_set (i := 9) sc_law.nd rfl (Or.inl rfl) (pe_make T.History.M (ok_History_init T) (hr.mono (by decide)) rfl T.History.g T.History_init.b .nil pass0 (pa_cons (pe_make T.Network.M (ok_Network_init T) (hr.mono (by decide)) rfl T.Network.g T.Network_init.b .nil pass0 (pa_cons (pe_ix (y_ixT (K := K) rfl) (pv 4) pe_int (fun _ _ => rfl)) (pa_cons (pe_ix (y_ixT (K := K) rfl) (pv 4) pe_int (fun _ _ => rfl)) (pa_cons (pe_ix (y_ixT (K := K) rfl) (pv 4) pe_int (fun _ _ => rfl)) pa_nil)))) (pa_cons (pe_call (ok_law_joined T) (hr.mono (by decide)) rfl T.law_joined.g T.law_joined.F.kp T.law_joined.b .nil pass0 (pa_cons (pv 1) (pa_cons (pv 3) (pa_cons (pe_tup (pa_cons (pv 5) (pa_cons (pv 6) (pa_cons (pv 7) (pa_cons (pv 8) pa_nil))))) pa_nil)))) pa_nil))))
  (pss_cons (ps_set (i := 10) sc_law.nd rfl (Or.inr rfl) (pe_lst (pa_cons (pe_slice (y_slT (K := K) rfl) (pe_ix (y_ixL (K := K) rfl) (pe_dget hu (pe_ix (y_ixL (K := K) rfl) (pv 3) pe_int (fun _ _ => rfl)) pe_str (fun _ _ => rfl)) (pv 5) (fun _ _ => rfl)) po_none (po_some pe_int)) (pa_cons (pe_slice (y_slT (K := K) rfl) (pe_ix (y_ixL (K := K) rfl) (pe_dget hu (pe_ix (y_ixL (K := K) rfl) (pv 3) pe_int (fun _ _ => rfl)) pe_str (fun _ _ => rfl)) (pv 6) (fun _ _ => rfl)) po_none (po_some pe_int)) pa_nil))))
  (pss_cons (ps_asg (pe_lc (own := [("_law_k", 15)]) rfl sc_law.nd (pi_range1 rfl T.z_range (pa_cons pe_int pa_nil)) (blkOk_by (own := [("_law_k", 15)]) (N := n_law) (sc := defScope s_law) (by decide +kernel)) (fun _ _ _ _ _ => (pg_name (i := 15) sc_law.nd rfl (Or.inl rfl))) (fun _ _ _ _ _ => pts_nil) (fun _ _ _ _ _ => (pe_call (ok_law_told T X1) (hr.mono (by decide)) rfl T.law_told.g T.law_told.F.kp T.law_told.b .nil pass0 (pa_cons (pe_dget hu (pe_ix (y_ixL (K := K) rfl) (pv 3) (pv 15) (fun _ _ => rfl)) pe_str (fun _ _ => rfl)) (pa_cons (pe_dget hu (pe_ix (y_ixL (K := K) rfl) (pv 3) (pv 15) (fun _ _ => rfl)) pe_str (fun _ _ => rfl)) (pa_cons (pe_ix (y_ixL (K := K) rfl) (pv 10) (pv 15) (fun _ _ => rfl)) pa_nil)))))) (y_gUnl (K := K) (n := 2) rfl rfl (pgs_cons (pg_name (i := 11) sc_law.nd rfl (Or.inl rfl)) (pgs_cons (pg_name (i := 12) sc_law.nd rfl (Or.inl rfl)) pgs_nil))))
  (pss_cons (ps_set (i := 13) sc_law.nd rfl (Or.inl rfl) (pe_lst (pa_cons (pe_call (ok_law_both T) (hr.mono (by decide)) rfl T.law_both.g T.law_both.F.kp T.law_both.b .nil pass0 (pa_cons (pv 11) (pa_cons (pe_call (ok_law_moved T) (hr.mono (by decide)) rfl T.law_moved.g T.law_moved.F.kp T.law_moved.b .nil pass0 (pa_cons (pv 12) (pa_cons (pe_lst (pa_cons (pe_tup (pa_cons (pe_un un_neg (pv 8)) (pa_cons (pe_un un_neg (pv 7)) pa_nil))) pa_nil)) pa_nil))) pa_nil))) pa_nil)))
  (pss_cons (ps_expr (y_app (K := K) rfl (pv 13) (pa_cons (pe_call (ok_law_both T) (hr.mono (by decide)) rfl T.law_both.g T.law_both.F.kp T.law_both.b .nil pass0 (pa_cons (pv 12) (pa_cons (pe_call (ok_law_moved T) (hr.mono (by decide)) rfl T.law_moved.g T.law_moved.F.kp T.law_moved.b .nil pass0 (pa_cons (pv 11) (pa_cons (pe_lst (pa_cons (pe_tup (pa_cons (pv 7) (pa_cons (pv 8) pa_nil))) pa_nil)) pa_nil))) pa_nil))) pa_nil)))
  (pss_cons (ps_if (pt_not (pt_val (pe_call (ok_law_shares_right T X1) (hr.mono (by decide)) rfl T.law_shares_right.g T.law_shares_right.F.kp T.law_shares_right.b .nil pass0 (pa_cons (pv 1) (pa_cons (pv 9) (pa_cons (pv 3) (pa_cons (pv 10) (pa_cons (pv 13) pa_nil))))))))
  (pss_one (ps_ret pe_bl))
  pss_nil)
  (pss_cons (ps_set (i := 14) sc_law.nd rfl (Or.inl rfl) (pe_call (ok_law_both T) (hr.mono (by decide)) rfl T.law_both.g T.law_both.F.kp T.law_both.b .nil pass0 (pa_cons (pe_lst (pa_cons (pe_tup (pa_cons (pv 7) (pa_cons (pv 8) pa_nil))) pa_nil)) (pa_cons (pe_call (ok_law_moved T) (hr.mono (by decide)) rfl T.law_moved.g T.law_moved.F.kp T.law_moved.b .nil pass0 (pa_cons (pv 12) (pa_cons (pe_call (ok_law_turned T) (hr.mono (by decide)) rfl T.law_turned.g T.law_turned.F.kp T.law_turned.b .nil pass0 (pa_cons (pv 11) pa_nil)) pa_nil))) pa_nil))))
  (pss_cons (ps_if (pt_cmpR (y_neD (K := K) rfl hr.units) (pe_call (ok_differences T X1) (hr.mono (by decide)) rfl T.differences.g T.differences.F.kp T.differences.b .nil pass0 (pa_cons (pv 9) (pa_cons (pe_ix (y_ixL (K := K) rfl) (pv 10) pe_int (fun _ _ => rfl)) (pa_cons (pe_ix (y_ixL (K := K) rfl) (pv 10) pe_int (fun _ _ => rfl)) pa_nil)))) (pv 14) (nomark _))
  (pss_one (ps_ret pe_bl))
  pss_nil)
  (pss_one (ps_if (PW.pt (pw_and (pt_cmpR op_eq (pv 7) (pv 8) (nomark _)) (pw_and1 (pt_cmpR (y_neD (K := K) rfl hr.units) (pe_ix (y_ixL (K := K) rfl) (pv 13) pe_int (fun _ _ => rfl)) (pe_call (ok_law_moved T) (hr.mono (by decide)) rfl T.law_moved.g T.law_moved.F.kp T.law_moved.b .nil pass0 (pa_cons (pe_ix (y_ixL (K := K) rfl) (pv 13) pe_int (fun _ _ => rfl)) (pa_cons (pe_lst (pa_cons (pe_tup (pa_cons (pv 7) (pa_cons (pv 7) pa_nil))) pa_nil)) pa_nil))) (nomark _)))))
  (pss_one (ps_ret pe_bl))
  pss_nil)))))))))))))))
  (pss_one (ps_ret pe_bl)))), ?_⟩
    fail "go"
    refine c_pur S ns ⟨⟨a, rfl, sqG⟩, hl⟩ fun G1 H1 v1 s1 S1 w1 => ?_
    obtain ⟨D, rfl, k⟩ := w1
    have ht : TabOk G1 H1 := S1.tabs ⟨hnt, htb⟩
    have sq1 : SqL K G1 a (ns.map V.int) := sql_mono s1 sqG
    have S2 := Sta.startD k
    clear S S1 hs hnt htb sq sqG s1
    fail "go"
    refine ls_lenQ (sql_mono S2.inn sq1) ?_
    fail "go"
    show RngJ _ [V.int (3 + if 6 < ((ns.map V.int).length : Int) then 6 else ((ns.map V.int).length : Int))] _
    have eN : (3 : Int) + (if 6 < ((ns.map V.int).length : Int) then 6 else ((ns.map V.int).length : Int)) = ((3 + min ns.length 6 : Nat) : Int) := by rw [List.length_map]; split <;> omega
    rw [eN]
    refine l_rng (3 + min ns.length 6) (by omega) ?_
    refine for_r (fun i σ H2 => ∃ (G2 : Hp) (x2 x3 x4 x5 x6 x7 x8 x9 x10 x11 x12 x13 x14 x15 : Option V), Sub G1 G2 ∧ σ = [some (.ref a), some (.ref D.d), x2, x3, x4, x5, x6, x7, x8, x9, x10, x11, x12, x13, x14, x15] ∧ Sta D.has (some D) G1 H1 G2 H2 []) ⟨G1, none, none, none, none, none, none, none, none, none, none, none, none, none, none, Sub.rfl' _, rfl, S2⟩ (fun σ H2 h => ?_) (fun i σ H2 hi h => ?_)
    · obtain ⟨G2, x2, x3, x4, x5, x6, x7, x8, x9, x10, x11, x12, x13, x14, x15, s2, rfl, S3⟩ := h
      fail "go"
      exact q _
    · obtain ⟨G2, x2, x3, x4, x5, x6, x7, x8, x9, x10, x11, x12, x13, x14, x15, s2, rfl, S3⟩ := h
      clear S2 hi
      dsimp only [List.set]
      fail "go"
      refine c_drw S3 () rfl fun G3 H3 v3 s3 S4 w3 => ?_
      obtain ⟨pa, gs, n, g0, g1, shuf, rfl, ea, rg, rn, gok⟩ := w3
      fail "go"
      have rgG := rg
      obtain ⟨pg, _, rfl, eg, v0, _, rfl, r0, v1, _, rfl, r1, rfl⟩ := rg
      obtain ⟨a0, n0, d0, h0, rfl, e0, rn0, rd0, rh0⟩ := rep_group.mp r0
      obtain ⟨a1, n1, d1, h1, rfl, e1, rn1, rd1, rh1⟩ := rep_group.mp r1
      obtain ⟨b0, f0, rfl, eb0, rf0⟩ := rep_deeds.mp rd0
      obtain ⟨b1, f1, rfl, eb1, rf1⟩ := rep_deeds.mp rd1
      have k0 := gok.k0
      have k1 := gok.k1
      refine x_seq ?_
      fail "go"
      refine l_dgS (by fail "hp") (group_deeds _ _ _) ?_
      fail "go"
      refine n_fix S4 fun p5 G5 H5 s5 S5 e5 => ?_
      refine ls_eqNil S5 (S5.isin (s5.to eb0)) (rf0.mono s5) (k0.ds.cl k0.lean k0.vwd) (deeds_dep _) (S5.isin e5) ?_
      fail "go"
      refine l_ifd (fun z => ?_) (fun z0 => ?_)
      · fail "go"
        exact ⟨G5, _, _, _, _, _, _, _, _, _, _, _, _, _, _, s2.tr (s3.tr s5), rfl, S5⟩
      fail "go"
      refine l_dgS (by fail "hp") (group_deeds _ _ _) ?_
      fail "go"
      refine n_fix S5 fun p6 G6 H6 s6 S6 e6 => ?_
      refine ls_eqNil S6 (S6.isin (s6.to (s5.to eb1))) (rf1.mono (s5.tr s6)) (k1.ds.cl k1.lean k1.vwd) (deeds_dep _) (S6.isin e6) ?_
      fail "go"
      refine l_ifd (fun z => ?_) (fun z1 => ?_)
      · fail "go"
        exact ⟨G6, _, _, _, _, _, _, _, _, _, _, _, _, _, _, s2.tr (s3.tr (s5.tr s6)), rfl, S6⟩
      have ne0 : g0.ds ≠ [] := fun e => z0 (by rw [e]; rfl)
      have ne1 : g1.ds ≠ [] := fun e => z1 (by rw [e]; rfl)
      have s36 := s5.tr s6
      fail "go"
      refine c_drw S6 (g0, g1) ⟨⟨_, rfl, rgG.mono s36⟩, k0, k1, ne0, ne1⟩ fun G7 H7 v7 s7 S7 w7 => ?_
      obtain ⟨pb, j0, j1, least, most, rfl, epb, he0, he1, hb0, hb1, hb2⟩ := w7
      have s37 := s36.tr s7
      fail "go"
      clear S4 S5 S6 z0 z1 ne0 ne1 e5 e6
      replace he0 : j0 < g0.ds.length := he0
      replace he1 : j1 < g1.ds.length := he1
      have lf0 : f0.length = g0.ds.length := ext_len rf0
      have lf1 : f1.length = g1.ds.length := ext_len rf1
      obtain ⟨u0, hu0⟩ : ∃ u0, f0[j0]? = some u0 := ⟨_, List.getElem?_eq_getElem (by omega)⟩
      obtain ⟨u1, hu1⟩ : ∃ u1, f1[j1]? = some u1 := ⟨_, List.getElem?_eq_getElem (by omega)⟩
      obtain ⟨dd0, kq0, rq0⟩ := rf0.got hu0
      rw [List.getElem?_map] at kq0
      obtain ⟨q0, hq0, rfl⟩ := Option.map_eq_some_iff.mp kq0
      obtain ⟨dd1, kq1, rq1⟩ := rf1.got hu1
      rw [List.getElem?_map] at kq1
      obtain ⟨q1, hq1, rfl⟩ := Option.map_eq_some_iff.mp kq1
      obtain ⟨pd0, nv0, rfl, ed0, rnn0⟩ := rep_deed.mp rq0
      obtain ⟨pd1, nv1, rfl, ed1, rnn1⟩ := rep_deed.mp rq1
      obtain ⟨pn1, ns1, rfl, en1, rns1⟩ := rep_notes.mp rnn1
      have ln1 : ns1.length = q1.notes.length := ext_len rns1
      have m0 := k0.ds.st q0 (List.mem_of_getElem? hq0)
      have m1 := k1.ds.st q1 (List.mem_of_getElem? hq1)
      have tk0 := k0.ds.tick q0 (List.mem_of_getElem? hq0)
      have tk1 := k1.ds.tick q1 (List.mem_of_getElem? hq1)
      refine x_seq ?_
      fail "go"
      refine l_dgS (by fail "hp") (group_deeds _ _ _) ?_
      fail "go"
      refine l_ixL (S7.isin (s37.to eb1)) (atI_nat hu1) ?_
      fail "go"
      refine l_ifd (fun z => ?_) (fun z3 => ?_)
      · fail "go"
        exact ⟨G7, _, _, _, _, _, _, _, _, _, _, _, _, _, _, s2.tr (s3.tr s37), rfl, S7⟩
      have n3 : ∀ d, g1.ds[j1]? = some d → d.notes.length ≠ 3 := fun d hd z => z3 (by rw [hq1] at hd; cases hd; rw [ln1, z]; rfl)
      clear z3
      obtain ⟨na, nb, nc, rfl, ena, enb, enc⟩ := rep_net.mp rn
      fail "go"
      refine x_make ?_
      fail "go"
      refine x_make ?_
      fail "go"
      intro xn dxn hxn hdn hnn
      obtain ⟨G8, s8, S8⟩ := make_S (C := T.Network.C) S7 hxn hdn hnn
      have s38 := s37.tr s8
      refine c_mut S8 0 rfl (g0.lean ++ g1.lean, shuf) ⟨⟨nb, nc, rfl, s38.to enb, s38.to enc⟩, perm_lean gok (List.Perm.refl _), ⟨gok.vwd, gok.vlen, gok.vnd⟩, gok.nd, dxn, rfl⟩ fun G9 H9 v9 o9 s9 S9 w9 => ?_
      obtain ⟨rfl, lean, hperm, dx9, fs9, d9, t9, rfl, l91, l92, l93, e91, e92⟩ := w9
      refine ⟨rfl, ?_⟩
      obtain ⟨G10, s10, S10, e10⟩ := S9.fixD 0 rfl
      have hnet : NetAt T G10 xn lean shuf := ⟨dx9, fs9, d9, t9, e10, l91, l92, l93, s10.to e91, s10.to e92⟩
      have s310 := s38.tr (s9.tr s10)
      clear S7 S8 S9 e10 e91 e92
      fail "go"
      refine n_fix S10 fun p11 G11 H11 s11 S11 e11 => ?_
      fail "go"
      refine c_drw S11 ⟨g0, g1, j0, j1, least, most⟩ ⟨⟨_, p11, rfl, rgG.mono (s310.tr s11), e11⟩, k0, k1, he0, he1⟩ fun G12 H12 v12 s12 S12 w12 => ?_
      obtain ⟨found, pl, rfd, wv, wl, wlt⟩ := w12
      dsimp only at wv wl wlt
      have s312 := s310.tr (s11.tr s12)
      have evs := evs_of gok hperm ⟨hb0, hb1, hb2⟩ n3 wv wlt
      have jn := joined_of gok hperm he0 he1 wv wl
      have hok : HisOk ((lean, shuf), found) := ⟨perm_lean gok hperm, perm_nd gok hperm, evs, gok.vlen⟩
      obtain ⟨pe, fe, rfl, epe, rfe⟩ := rep_deeds.mp rfd
      fail "go"
      intro xh dxh hxh hdh hnh
      obtain ⟨G13, s13, S13⟩ := make_S (C := T.History.C) S12 hxh hdh hnh
      refine c_mut S13 0 rfl ((lean, shuf), found) ⟨⟨pe, xn, rfl, hnet.mono (s11.tr (s12.tr s13)), ⟨pe, fe, rfl, s13.to epe, rfe.mono s13⟩⟩, evs, dxh, rfl⟩ fun G14 H14 v14 o14 s14 S14 w14 => ?_
      obtain ⟨rfl, dx14, fs14, n14, e14, rfl, l141, l142, hn14, re14⟩ := w14
      refine ⟨rfl, ?_⟩
      obtain ⟨G15, s15, S15, e15⟩ := S14.fixD 0 rfl
      have hhis : HisAt T G15 xh lean shuf found := ⟨dx14, fs14, n14, e14, e15, l141, l142, hn14.mono s15, re14.mono s15⟩
      have s315 := s312.tr (s13.tr (s14.tr s15))
      clear S10 S11 S12 S13 S14 e15 hn14 re14 wv wl wlt
      have S16 : Sta D.has (some D) G1 H1 G15 H14 [] := S15
      clear S15
      dsimp only [List.set]
      fail "go"
      refine l_dgS (by fail "hp") (group_deeds _ _ _) ?_
      fail "go"
      refine l_ixL (S16.isin (s315.to eb0)) (atI_nat hu0) ?_
      fail "go"
      refine ls_slT (S16.isin (s315.to ed0)) (by show ¬(HT.sIx 3 0 none = 0 ∧ HT.sIx 3 3 (some 2) = 3); decide) ?_
      refine n_fix S16 fun p17 G17 H17 s17 S17 e17 => ?_
      have e17 : G17 p17 = some (.tup [.str q0.st, .int q0.tick]) := e17
      fail "go"
      refine l_dgS (by fail "hp") (group_deeds _ _ _) ?_
      fail "go"
      have s317 := s315.tr s17
      refine l_ixL (S17.isin (s317.to eb1)) (atI_nat hu1) ?_
      fail "go"
      refine ls_slT (S17.isin (s317.to ed1)) (by show ¬(HT.sIx 3 0 none = 0 ∧ HT.sIx 3 3 (some 2) = 3); decide) ?_
      refine n_fix S17 fun p18 G18 H18 s18 S18 e18 => ?_
      have e18 : G18 p18 = some (.tup [.str q1.st, .int q1.tick]) := e18
      fail "go"
      refine n_fix S18 fun p19 G19 H19 s19 S19 e19 => ?_
      have e17' : G19 p17 = some (.tup [.str q0.st, .int q0.tick]) := s19.to (s18.to e17)
      have e18' : G19 p18 = some (.tup [.str q1.st, .int q1.tick]) := s19.to e18
      have s1519 := s17.tr (s18.tr s19)
      have s319 := s315.tr s1519
      have hhis19 := hhis.mono s1519
      clear S16 S17 S18 e17 e18 s317 hhis
      dsimp only [List.set]
      fail "go"
      refine l_rng 2 (by decide) ?_
      refine lc_r S19 (fun i G acc => (i = 0 ∧ acc = []) ∨ (i = 1 ∧ ∃ v r, acc = [v] ∧ TlK g0 (q0.st, q0.tick) G v r) ∨ (i = 2 ∧ ∃ v r u t, acc = [v, u] ∧ TlK g0 (q0.st, q0.tick) G v r ∧ TlK g1 (q1.st, q1.tick) G u t)) (.inl ⟨rfl, rfl⟩) (fun l G20 H20 acc s20 S20 hl hv => ?_) (fun i l G20 H20 acc hi s20 S20 hl hv => ?_)
      · have hv : ∃ v r u t, acc = [v, u] ∧ TlK g0 (q0.st, q0.tick) G20 v r ∧ TlK g1 (q1.st, q1.tick) G20 u t := by
          rcases hv with ⟨z, _⟩ | ⟨z, _⟩ | ⟨_, h⟩
          · exact absurd z (by decide)
          · exact absurd z (by decide)
          · exact h
        obtain ⟨v, ours, u, theirs, rfl, tO, tT⟩ := hv
        dsimp only [List.set]
        refine x_gUnl (S20.at (i := 0) rfl) rfl ?_
        have S21 : Sta D.has (some D) G1 H1 G20 H20 [] := S20.drop 0
        clear S19 S20
        fail "go"
        obtain ⟨rO, dO, bO⟩ := tO
        obtain ⟨rT, dT, bT⟩ := tT
        have o5 : ours.length ≤ 5 := Nat.le_trans dO.len (by decide)
        have t5 : theirs.length ≤ 5 := Nat.le_trans dT.len (by decide)
        clear hl hv
        refine n_fix S21 fun p22 G22 H22 s22 S22 e22 => ?_
        fail "go"
        refine n_fix S22 fun p23 G23 H23 s23 S23 e23 => ?_
        fail "go"
        have m30 : most ≤ 10 ^ 30 := Int.le_trans hb2 (by decide)
        have md1 := Sh.moved_desc (B := 10 ^ 30) (D := 10 ^ 30) (by decide) (by decide) dT (Sh.one_desc (a := -most) (b := -least) (by omega)) bT (Sh.one_bnd (by omega) (by omega) (by omega) (by omega))
        refine c_pur S23 ⟨theirs, [(some (-most), some (-least))]⟩ ⟨⟨_, _, rfl, rT.mono (s22.tr s23), rep_one (s23.to e22) e23⟩, t5, Nat.le_of_ble_eq_true rfl⟩ fun G24 H24 v24 s24 S24 w24 => ?_
        have w24 : Rep G24 (dSpans (Sh.movedL theirs [(some (-most), some (-least))])) v24 := w24
        fail "go"
        refine c_pur S24 ⟨ours, Sh.movedL theirs [(some (-most), some (-least))]⟩ ⟨⟨_, _, rfl, rO.mono (s22.tr (s23.tr s24)), w24⟩, o5, Nat.le_trans md1.1.len (by decide)⟩ fun G25 H25 v25 s25 S25 w25 => ?_
        have w25 : Rep G25 (dSpans (Sh.told0 ours theirs least most)) v25 := w25
        have s2025 := s22.tr (s23.tr (s24.tr s25))
        clear S21 S22 S23 S24 w24 e22 e23
        fail "go"
        refine n_own S25 fun p26 H26 S26 => ?_
        clear S25
        dsimp only [List.set]
        fail "go"
        refine n_fix S26 fun p27 G27 H27 s27 S27 e27 => ?_
        fail "go"
        refine n_fix S27 fun p28 G28 H28 s28 S28 e28 => ?_
        fail "go"
        have md2 := Sh.moved_desc (B := 10 ^ 30) (D := 10 ^ 30) (by decide) (by decide) dO (Sh.one_desc (a := least) (b := most) hb1) bO (Sh.one_bnd (by omega) (by omega) (by omega) (by omega))
        refine c_pur S28 ⟨ours, [(some least, some most)]⟩ ⟨⟨_, _, rfl, rO.mono (s2025.tr (s27.tr s28)), rep_one (s28.to e27) e28⟩, o5, Nat.le_of_ble_eq_true rfl⟩ fun G29 H29 v29 s29 S29 w29 => ?_
        have w29 : Rep G29 (dSpans (Sh.movedL ours [(some least, some most)])) v29 := w29
        fail "go"
        refine c_pur S29 ⟨theirs, Sh.movedL ours [(some least, some most)]⟩ ⟨⟨_, _, rfl, rT.mono (s2025.tr (s27.tr (s28.tr s29))), w29⟩, t5, Nat.le_trans md2.1.len (by decide)⟩ fun G30 H30 v30 s30 S30 w30 => ?_
        have w30 : Rep G30 (dSpans (Sh.told1 ours theirs least most)) v30 := w30
        have s2530 := s27.tr (s28.tr (s29.tr s30))
        clear S26 S27 S28 S29 w29 e27 e28
        fail "go"
        refine ls_app S30 0 rfl (Nat.le_of_ble_eq_true rfl) fun H31 S31 => ?_
        obtain ⟨G32, s32, S32, e32⟩ := S31.fixD 0 rfl
        replace S32 : Sta D.has (some D) G1 H1 G32 H31 [] := S32
        replace e32 : G32 p26 = some (.lst [v25, v30]) := e32
        have w25 := w25.mono (s2530.tr s32)
        have w30 := w30.mono s32
        have s2032 := s2025.tr (s2530.tr s32)
        clear S30 S31
        have en : Sh.Ends2 (gOf g0 g1) (eOf j0 j1) (two (q0.st, q0.tick) (q1.st, q1.tick)) := ⟨fun k => by
          cases k
          · exact ⟨q0, hq0, rfl⟩
          · exact ⟨q1, hq1, rfl⟩⟩
        have tkk := Sh.law_told jn en hb1 hb0 m30 dO dT bO bT
        have sok : ShrOk ⟨g0, g1, lean, shuf, found, (q0.st, q0.tick), (q1.st, q1.tick), Sh.told0 ours theirs least most, Sh.told1 ours theirs least most⟩ := ⟨gok.k, hok, fun k s hs => ⟨perm_nm hperm k hs, own_of gok hperm k hs⟩, fun k => by
          cases k
          · exact ⟨m0, tk0.1, Int.le_trans tk0.2 (by decide)⟩
          · exact ⟨m1, tk1.1, Int.le_trans tk1.2 (by decide)⟩, ⟨_, _, _, _, jn, en⟩, fun k => by
          cases k
          · exact tkk false
          · exact tkk true⟩
        fail "go"
        refine x_seq ?_
        fail "go"
        refine c_drwH S32 _ ⟨⟨xh, _, _, _, rfl, hhis19.mono (s20.tr s2032), rgG.mono (s319.tr (s20.tr s2032)), ⟨p19, _, rfl, s2032.to (s20.to e19), _, _, rfl, rep_spot.mpr ⟨p17, rfl, s2032.to (s20.to e17')⟩, _, _, rfl, rep_spot.mpr ⟨p18, rfl, s2032.to (s20.to e18')⟩, rfl⟩, ⟨p26, _, rfl, e32, _, _, rfl, w25, _, _, rfl, w30, rfl⟩⟩, sok, S32.tabs ht⟩ fun G33 H33 v33 s33 S33 w33 => ?_
        obtain rfl : v33 = .bl true := w33
        fail "go"
        dsimp only [List.set]
        refine n_fix S33 fun p34 G34 H34 s34 S34 e34 => ?_
        fail "go"
        refine n_fix S34 fun p35 G35 H35 s35 S35 e35 => ?_
        have s2035 := s2032.tr (s33.tr (s34.tr s35))
        have one35 : Rep G35 (dSpans [(some least, some most)]) (.ref p35) := rep_one (s35.to e34) e35
        clear S33 S34 e34 e35
        fail "go"
        obtain ⟨td1, td2⟩ := Sh.turned_desc dO bO
        have md3 := Sh.moved_desc (B := 10 ^ 30) (D := 10 ^ 30) (by decide) (by decide) dT td1 bT td2
        refine c_pur S35 ours ⟨⟨_, rfl, rO.mono s2035⟩, o5⟩ fun G36 H36 v36 s36 S36 w36 => ?_
        fail "go"
        refine c_pur S36 ⟨theirs, Sh.turnedL ours⟩ ⟨⟨_, _, rfl, rT.mono (s2035.tr s36), w36⟩, t5, Nat.le_trans td1.len (by decide)⟩ fun G37 H37 v37 s37' S37 w37 => ?_
        fail "go"
        refine c_pur S37 ⟨[(some least, some most)], Sh.movedL theirs (Sh.turnedL ours)⟩ ⟨⟨_, _, rfl, one35.mono (s36.tr s37'), w37⟩, Nat.le_of_ble_eq_true rfl, Nat.le_trans md3.1.len (by decide)⟩ fun G38 H38 v38 s38' S38 w38 => ?_
        have w38 : Rep G38 (dSpans (Sh.bothL [(some least, some most)] (Sh.movedL theirs (Sh.turnedL ours)))) v38 := w38
        have s3538 := s36.tr (s37'.tr s38')
        have s2038 := s2035.tr s3538
        have s3238 := s33.tr (s34.tr (s35.tr s3538))
        have d2 := Sh.law_apart jn en hb1 hb0 m30 dO dT bO bT
        clear S35 S36 S37 w36 w37
        fail "go"
        refine x_seq ?_
        fail "go"
        refine c_purH S38 (((lean, shuf), found), (q0.st, q0.tick), (q1.st, q1.tick)) ⟨⟨xh, p17, p18, rfl, hhis19.mono (s20.tr s2038), s2038.to (s20.to e17'), s2038.to (s20.to e18')⟩, hok, ⟨perm_nm hperm false m0, tk0.1, Int.le_trans tk0.2 (by decide)⟩, ⟨perm_nm hperm true m1, tk1.1, Int.le_trans tk1.2 (by decide)⟩, S38.tabs ht⟩ fun G39 H39 v39 s39 S39 w39 => ?_
        obtain ⟨l39, r39, d39⟩ := w39
        obtain rfl := d39.uniq d2
        fail "go"
        refine ls_neSp S39 r39 (w38.mono s39) ?_
        rw [decide_eq_true rfl]
        fail "go"
        have s3239 := s3238.tr s39
        have s2G39 := s2.tr (s3.tr (s319.tr (s20.tr (s2038.tr s39))))
        refine l_ifd (fun z => ?_) (fun z => ?_)
        · have heq : least = most := V.int.inj z
          have ex := Sh.law_exact jn en heq hb0 m30 dO dT bO bT
          fail "go"
          refine l_ixL (S39.isin (s3239.to e32)) (show atI [v25, v30] 1 = some v30 from rfl) ?_
          fail "go"
          refine l_ixL (S39.isin (s3239.to e32)) (show atI [v25, v30] 0 = some v25 from rfl) ?_
          fail "go"
          refine n_fix S39 fun p40 G40 H40 s40 S40 e40 => ?_
          fail "go"
          refine n_fix S40 fun p41 G41 H41 s41 S41 e41 => ?_
          fail "go"
          have tf : (Sh.told0 ours theirs least most).length ≤ 1 := (tkk false).1.len
          refine c_pur S41 ⟨Sh.told0 ours theirs least most, [(some least, some least)]⟩ ⟨⟨_, _, rfl, w25.mono (s3239.tr (s40.tr s41)), rep_one (s41.to e40) e41⟩, Nat.le_trans tf (by decide), Nat.le_of_ble_eq_true rfl⟩ fun G42 H42 v42 s42 S42 w42 => ?_
          have w42 : Rep G42 (dSpans (Sh.movedL (Sh.told0 ours theirs least most) [(some least, some least)])) v42 := w42
          fail "go"
          refine ls_neSp S42 (w30.mono (s3239.tr (s40.tr (s41.tr s42)))) w42 ?_
          rw [ex, decide_eq_true rfl]
          fail "go"
          exact ⟨G42, _, _, _, _, _, _, _, _, _, _, _, _, _, _, s2G39.tr (s40.tr (s41.tr s42)), rfl, S42⟩
        · fail "go"
          exact ⟨G39, _, _, _, _, _, _, _, _, _, _, _, _, _, _, s2G39, rfl, S39⟩
      · have mk : ∀ (g : Grp) (ss : Str × Int), GrpOk g → ss.1 ∈ g.lean.map Prod.fst ∧ 0 ≤ ss.2 ∧ ss.2 ≤ 1000 → StpOk ((g.lean, g.vs), g.ds, [ss]) := fun g ss k h => ⟨k.lean, k.ds, Nat.le_succ 1, fun z hz => by
          rw [List.mem_singleton.mp hz]
          exact ⟨h.1, h.2.1, Int.le_trans h.2.2 (by decide)⟩⟩
        have s320 := s319.tr s20
        rcases hv with ⟨rfl, rfl⟩ | ⟨rfl, v, r, rfl, t0⟩ | ⟨rfl, _⟩
        · rw [show (0 : Int) + ((0 : Nat) : Int) = 0 from rfl]
          fail "go"
          refine l_dgS (by fail "hp") (group_net _ _ _) ?_
          fail "go"
          refine l_dgS (by fail "hp") (group_deeds _ _ _) ?_
          fail "go"
          refine l_ixL (S20.isin (s20.to e19)) rfl ?_
          fail "go"
          refine c_purH S20 ⟨g0.lean, g0.vs, g0.ds, (q0.st, q0.tick)⟩ ⟨⟨_, _, _, rfl, rn0.mono s320, rd0.mono s320, rep_spot.mpr ⟨p17, rfl, s20.to e17'⟩⟩, mk g0 _ k0 ⟨m0, tk0⟩, S20.tabs ht⟩ fun G21 H21 v21 s21 S21 w21 => ?_
          obtain ⟨r, rr, de, bd⟩ := w21
          exact lc_in (s20.tr s21) S21 (Nat.le_refl _) (by decide) (.inr (.inl ⟨rfl, _, r, rfl, rr, de, bd⟩))
        · rw [show (0 : Int) + ((1 : Nat) : Int) = 1 from rfl]
          fail "go"
          refine l_dgS (by fail "hp") (group_net _ _ _) ?_
          fail "go"
          refine l_dgS (by fail "hp") (group_deeds _ _ _) ?_
          fail "go"
          refine l_ixL (S20.isin (s20.to e19)) rfl ?_
          fail "go"
          refine c_purH S20 ⟨g1.lean, g1.vs, g1.ds, (q1.st, q1.tick)⟩ ⟨⟨_, _, _, rfl, rn1.mono s320, rd1.mono s320, rep_spot.mpr ⟨p18, rfl, s20.to e18'⟩⟩, mk g1 _ k1 ⟨m1, tk1⟩, S20.tabs ht⟩ fun G21 H21 v21 s21 S21 w21 => ?_
          obtain ⟨r1, rr, de, bd⟩ := w21
          exact lc_in (s20.tr s21) S21 (Nat.le_refl _) (by decide) (.inr (.inr ⟨rfl, v, r, _, r1, rfl, t0.mono s21, rr, de, bd⟩))
        · exact absurd hi (by decide)
end
end Sw
end
section
set_option maxRecDepth 100000
set_option maxHeartbeats 1000000
namespace Sw
open PySem L2
section
variable {K : PySem.W.Frag} {h : Heap} {mg : Str → Option Value}
theorem func_of {x : Str} {st : Stmt} {ps : List Str} (D : Df K mg x st ps) (e : D.a = He.fAd K (x, none)) : FunC K x x st D.a D.fd (He.codeOf K (x, none)) := by
  obtain ⟨oc, od, kV, doc, pm, an, cdv, ct, osl, e1, lk, hc⟩ := D.F.ex
  obtain ⟨c, rfl⟩ := He.codeIn_ref hc
  have := He.codeOf_eq (p := (x, none)) (by rw [← e]; exact lk) (c := c) (by rw [e1])
  rw [this]
  exact ⟨⟨oc, od, kV, doc, pm, an, ct, osl, e1, lk, hc⟩⟩
end
theorem txt_of {K : PySem.W.Frag} {h : Heap} {mg : Str → Option Value} {w : World} (X : K.In h) (G : h.Ns mainGlobals mg) (c : Says w h K) : ∃ T : Txt K mg, T.law.a = He.ga K "law" ∧ T.joined_spans.a = He.fAd K dJ ∧ T.law_steps.a = He.fAd K dS := by
  have d := c.1.t.d
  obtain ⟨D_is_between, e_is_between⟩ := df_of (mg := mg) (x := "is_between") (st := s_is_between) (ps := ["value", "least", "most"]) X G (d.def_ 0) (d.fact 0) (fun _ _ _ _ _ _ us hl => match us, hl with | [_, _, _], _ => rfl)
  obtain ⟨D_is_name, e_is_name⟩ := df_of (mg := mg) (x := "is_name") (st := s_is_name) (ps := ["value"]) X G (d.def_ 1) (d.fact 1) (fun _ _ _ _ _ _ us hl => match us, hl with | [_], _ => rfl)
  obtain ⟨D_is_list, e_is_list⟩ := df_of (mg := mg) (x := "is_list") (st := s_is_list) (ps := ["value"]) X G (d.def_ 2) (d.fact 2) (fun _ _ _ _ _ _ us hl => match us, hl with | [_], _ => rfl)
  obtain ⟨D_are_drifts, e_are_drifts⟩ := df_of (mg := mg) (x := "are_drifts") (st := s_are_drifts) (ps := ["value"]) X G (d.def_ 3) (d.fact 3) (fun _ _ _ _ _ _ us hl => match us, hl with | [_], _ => rfl)
  obtain ⟨D_are_sources, e_are_sources⟩ := df_of (mg := mg) (x := "are_sources") (st := s_are_sources) (ps := ["value"]) X G (d.def_ 4) (d.fact 4) (fun _ _ _ _ _ _ us hl => match us, hl with | [_], _ => rfl)
  obtain ⟨D_is_fact, e_is_fact⟩ := df_of (mg := mg) (x := "is_fact") (st := s_is_fact) (ps := ["value", "at", "network"]) X G (d.def_ 5) (d.fact 5) (fun _ _ _ _ _ _ us hl => match us, hl with | [_, _, _], _ => rfl)
  obtain ⟨D_is_event, e_is_event⟩ := df_of (mg := mg) (x := "is_event") (st := s_is_event) (ps := ["value", "at", "network"]) X G (d.def_ 6) (d.fact 6) (fun _ _ _ _ _ _ us hl => match us, hl with | [_, _, _], _ => rfl)
  obtain ⟨D_check_events, e_check_events⟩ := df_of (mg := mg) (x := "check_events") (st := s_check_events) (ps := ["events", "network"]) X G (d.def_ 7) (d.fact 7) (fun _ _ _ _ _ _ us hl => match us, hl with | [_, _], _ => rfl)
  obtain ⟨D_subsets, e_subsets⟩ := df_of (mg := mg) (x := "subsets") (st := s_subsets) (ps := ["names", "many"]) X G (d.def_ 8) (d.fact 8) (fun _ _ _ _ _ _ us hl => match us, hl with | [_, _], _ => rfl)
  obtain ⟨D_choices, e_choices⟩ := df_of (mg := mg) (x := "choices") (st := s_choices) (ps := ["network"]) X G (d.def_ 9) (d.fact 9) (fun _ _ _ _ _ _ us hl => match us, hl with | [_], _ => rfl)
  obtain ⟨D_is_moment, e_is_moment⟩ := df_of (mg := mg) (x := "is_moment") (st := s_is_moment) (ps := ["network", "value"]) X G (d.def_ 10) (d.fact 10) (fun _ _ _ _ _ _ us hl => match us, hl with | [_, _], _ => rfl)
  obtain ⟨D_check_moment, e_check_moment⟩ := df_of (mg := mg) (x := "check_moment") (st := s_check_moment) (ps := ["network", "value"]) X G (d.def_ 11) (d.fact 11) (fun _ _ _ _ _ _ us hl => match us, hl with | [_, _], _ => rfl)
  obtain ⟨D_put, e_put⟩ := df_of (mg := mg) (x := "put") (st := s_put) (ps := ["table", "one", "other", "bound"]) X G (d.def_ 12) (d.fact 12) (fun _ _ _ _ _ _ us hl => match us, hl with | [_, _, _, _], _ => rfl)
  obtain ⟨D_put_drift, e_put_drift⟩ := df_of (mg := mg) (x := "put_drift") (st := s_put_drift) (ps := ["table", "line", "drift"]) X G (d.def_ 13) (d.fact 13) (fun _ _ _ _ _ _ us hl => match us, hl with | [_, _, _], _ => rfl)
  obtain ⟨D_lines_of, e_lines_of⟩ := df_of (mg := mg) (x := "lines_of") (st := s_lines_of) (ps := ["history"]) X G (d.def_ 14) (d.fact 14) (fun _ _ _ _ _ _ us hl => match us, hl with | [_], _ => rfl)
  obtain ⟨D_put_moment, e_put_moment⟩ := df_of (mg := mg) (x := "put_moment") (st := s_put_moment) (ps := ["table", "line", "node", "reading"]) X G (d.def_ 15) (d.fact 15) (fun _ _ _ _ _ _ us hl => match us, hl with | [_, _, _, _], _ => rfl)
  obtain ⟨D_put_facts, e_put_facts⟩ := df_of (mg := mg) (x := "put_facts") (st := s_put_facts) (ps := ["table", "at", "facts", "choice"]) X G (d.def_ 16) (d.fact 16) (fun _ _ _ _ _ _ us hl => match us, hl with | [_, _, _, _], _ => rfl)
  obtain ⟨D_table_with, e_table_with⟩ := df_of (mg := mg) (x := "table_with") (st := s_table_with) (ps := ["history", "choice", "moments"]) X G (d.def_ 17) (d.fact 17) (fun _ _ _ _ _ _ us hl => match us, hl with | [_, _, _], _ => rfl)
  obtain ⟨D_nodes_of, e_nodes_of⟩ := df_of (mg := mg) (x := "nodes_of") (st := s_nodes_of) (ps := ["table"]) X G (d.def_ 18) (d.fact 18) (fun _ _ _ _ _ _ us hl => match us, hl with | [_], _ => rfl)
  obtain ⟨D_relaxed, e_relaxed⟩ := df_of (mg := mg) (x := "relaxed") (st := s_relaxed) (ps := ["table"]) X G (d.def_ 19) (d.fact 19) (fun _ _ _ _ _ _ us hl => match us, hl with | [_], _ => rfl)
  obtain ⟨D_negative_ring, e_negative_ring⟩ := df_of (mg := mg) (x := "negative_ring") (st := s_negative_ring) (ps := ["table"]) X G (d.def_ 20) (d.fact 20) (fun _ _ _ _ _ _ us hl => match us, hl with | [_], _ => rfl)
  obtain ⟨D_farthest, e_farthest⟩ := df_of (mg := mg) (x := "farthest") (st := s_farthest) (ps := ["table", "begin"]) X G (d.def_ 21) (d.fact 21) (fun _ _ _ _ _ _ us hl => match us, hl with | [_, _], _ => rfl)
  obtain ⟨D_joined_spans, e_joined_spans⟩ := df_of (mg := mg) (x := "joined_spans") (st := s_joined_spans) (ps := ["spans"]) X G (d.def_ 22) (d.fact 22) (fun _ _ _ _ _ _ us hl => match us, hl with | [_], _ => rfl)
  obtain ⟨D_span_between, e_span_between⟩ := df_of (mg := mg) (x := "span_between") (st := s_span_between) (ps := ["table", "one", "other"]) X G (d.def_ 23) (d.fact 23) (fun _ _ _ _ _ _ us hl => match us, hl with | [_, _, _], _ => rfl)
  obtain ⟨D_spans_between, e_spans_between⟩ := df_of (mg := mg) (x := "spans_between") (st := s_spans_between) (ps := ["history", "moments", "one", "other"]) X G (d.def_ 24) (d.fact 24) (fun _ _ _ _ _ _ us hl => match us, hl with | [_, _, _, _], _ => rfl)
  obtain ⟨D_known, e_known⟩ := df_of (mg := mg) (x := "known") (st := s_known) (ps := ["history", "moment"]) X G (d.def_ 25) (d.fact 25) (fun _ _ _ _ _ _ us hl => match us, hl with | [_, _], _ => rfl)
  obtain ⟨D_differences, e_differences⟩ := df_of (mg := mg) (x := "differences") (st := s_differences) (ps := ["history", "one", "other"]) X G (d.def_ 26) (d.fact 26) (fun _ _ _ _ _ _ us hl => match us, hl with | [_, _, _], _ => rfl)
  obtain ⟨D_law_begin, e_law_begin⟩ := df_of (mg := mg) (x := "_law_begin") (st := s_law_begin) (ps := ["_law_script"]) X G (d.def_ 27) (d.fact 27) (fun _ _ _ _ _ _ us hl => match us, hl with | [_], _ => rfl)
  obtain ⟨D_law_take, e_law_take⟩ := df_of (mg := mg) (x := "_law_take") (st := s_law_take) (ps := ["_law_draw", "_law_size"]) X G (d.def_ 28) (d.fact 28) (fun _ _ _ _ _ _ us hl => match us, hl with | [_, _], _ => rfl)
  obtain ⟨D_law_pick, e_law_pick⟩ := df_of (mg := mg) (x := "_law_pick") (st := s_law_pick) (ps := ["_law_draw", "_law_some"]) X G (d.def_ 29) (d.fact 29) (fun _ _ _ _ _ _ us hl => match us, hl with | [_, _], _ => rfl)
  obtain ⟨D_law_words, e_law_words⟩ := df_of (mg := mg) (x := "_law_words") (st := s_law_words) (ps := ["_law_draw", "_law_many"]) X G (d.def_ 30) (d.fact 30) (fun _ _ _ _ _ _ us hl => match us, hl with | [_, _], _ => rfl)
  obtain ⟨D_law_saying, e_law_saying⟩ := df_of (mg := mg) (x := "_law_saying") (st := s_law_saying) (ps := ["_law_draw", "_law_net", "_law_liars", "_law_hour"]) X G (d.def_ 31) (d.fact 31) (fun _ _ _ _ _ _ us hl => match us, hl with | [_, _, _, _], _ => rfl)
  obtain ⟨D_law_message, e_law_message⟩ := df_of (mg := mg) (x := "_law_message") (st := s_law_message) (ps := ["_law_draw", "_law_hours", "_law_hour"]) X G (d.def_ 32) (d.fact 32) (fun _ _ _ _ _ _ us hl => match us, hl with | [_, _, _], _ => rfl)
  obtain ⟨D_law_deeds, e_law_deeds⟩ := df_of (mg := mg) (x := "_law_deeds") (st := s_law_deeds) (ps := ["_law_draw", "_law_net", "_law_many"]) X G (d.def_ 33) (d.fact 33) (fun _ _ _ _ _ _ us hl => match us, hl with | [_, _, _], _ => rfl)
  obtain ⟨D_law_choices, e_law_choices⟩ := df_of (mg := mg) (x := "_law_choices") (st := s_law_choices) (ps := ["_law_net"]) X G (d.def_ 34) (d.fact 34) (fun _ _ _ _ _ _ us hl => match us, hl with | [_], _ => rfl)
  obtain ⟨D_law_steps, e_law_steps⟩ := df_of (mg := mg) (x := "_law_steps") (st := s_law_steps) (ps := ["_law_net", "_law_deeds_here", "_law_spots"]) X G (d.def_ 35) (d.fact 35) (fun _ _ _ _ _ _ us hl => match us, hl with | [_, _, _], _ => rfl)
  obtain ⟨D_law_rules, e_law_rules⟩ := df_of (mg := mg) (x := "_law_rules") (st := s_law_rules) (ps := ["_law_net", "_law_deeds_here", "_law_some", "_law_spots"]) X G (d.def_ 36) (d.fact 36) (fun _ _ _ _ _ _ us hl => match us, hl with | [_, _, _, _], _ => rfl)
  obtain ⟨D_law_closed, e_law_closed⟩ := df_of (mg := mg) (x := "_law_closed") (st := s_law_closed) (ps := ["_law_nodes_here", "_law_rules_here"]) X G (d.def_ 37) (d.fact 37) (fun _ _ _ _ _ _ us hl => match us, hl with | [_, _], _ => rfl)
  obtain ⟨D_law_nodes, e_law_nodes⟩ := df_of (mg := mg) (x := "_law_nodes") (st := s_law_nodes) (ps := ["_law_deeds_here", "_law_spots"]) X G (d.def_ 38) (d.fact 38) (fun _ _ _ _ _ _ us hl => match us, hl with | [_, _], _ => rfl)
  obtain ⟨D_law_united, e_law_united⟩ := df_of (mg := mg) (x := "_law_united") (st := s_law_united) (ps := ["_law_ranges_here"]) X G (d.def_ 39) (d.fact 39) (fun _ _ _ _ _ _ us hl => match us, hl with | [_], _ => rfl)
  obtain ⟨D_law_ranges, e_law_ranges⟩ := df_of (mg := mg) (x := "_law_ranges") (st := s_law_ranges) (ps := ["_law_net", "_law_deeds_here", "_law_spots", "_law_here", "_law_there"]) X G (d.def_ 40) (d.fact 40) (fun _ _ _ _ _ _ us hl => match us, hl with | [_, _, _, _, _], _ => rfl)
  obtain ⟨D_law_told, e_law_told⟩ := df_of (mg := mg) (x := "_law_told") (st := s_law_told) (ps := ["_law_net", "_law_deeds_here", "_law_spot_here"]) X G (d.def_ 41) (d.fact 41) (fun _ _ _ _ _ _ us hl => match us, hl with | [_, _, _], _ => rfl)
  obtain ⟨D_law_spot, e_law_spot⟩ := df_of (mg := mg) (x := "_law_spot") (st := s_law_spot) (ps := ["_law_draw", "_law_net", "_law_deeds_here"]) X G (d.def_ 42) (d.fact 42) (fun _ _ _ _ _ _ us hl => match us, hl with | [_, _, _], _ => rfl)
  obtain ⟨D_law_shuffled, e_law_shuffled⟩ := df_of (mg := mg) (x := "_law_shuffled") (st := s_law_shuffled) (ps := ["_law_draw", "_law_some"]) X G (d.def_ 43) (d.fact 43) (fun _ _ _ _ _ _ us hl => match us, hl with | [_, _], _ => rfl)
  obtain ⟨D_law_groups, e_law_groups⟩ := df_of (mg := mg) (x := "_law_groups") (st := s_law_groups) (ps := ["_law_draw", "_law_doubt"]) X G (d.def_ 44) (d.fact 44) (fun _ _ _ _ _ _ us hl => match us, hl with | [_, _], _ => rfl)
  obtain ⟨D_law_woven, e_law_woven⟩ := df_of (mg := mg) (x := "_law_woven") (st := s_law_woven) (ps := ["_law_draw", "_law_groups_here"]) X G (d.def_ 45) (d.fact 45) (fun _ _ _ _ _ _ us hl => match us, hl with | [_, _], _ => rfl)
  obtain ⟨D_law_ends, e_law_ends⟩ := df_of (mg := mg) (x := "_law_ends") (st := s_law_ends) (ps := ["_law_ranges_here"]) X G (d.def_ 46) (d.fact 46) (fun _ _ _ _ _ _ us hl => match us, hl with | [_], _ => rfl)
  obtain ⟨D_law_both, e_law_both⟩ := df_of (mg := mg) (x := "_law_both") (st := s_law_both) (ps := ["_law_ranges_here", "_law_others"]) X G (d.def_ 47) (d.fact 47) (fun _ _ _ _ _ _ us hl => match us, hl with | [_, _], _ => rfl)
  obtain ⟨D_law_moved, e_law_moved⟩ := df_of (mg := mg) (x := "_law_moved") (st := s_law_moved) (ps := ["_law_ranges_here", "_law_others"]) X G (d.def_ 48) (d.fact 48) (fun _ _ _ _ _ _ us hl => match us, hl with | [_, _], _ => rfl)
  obtain ⟨D_law_turned, e_law_turned⟩ := df_of (mg := mg) (x := "_law_turned") (st := s_law_turned) (ps := ["_law_ranges_here"]) X G (d.def_ 49) (d.fact 49) (fun _ _ _ _ _ _ us hl => match us, hl with | [_], _ => rfl)
  obtain ⟨D_law_bridge, e_law_bridge⟩ := df_of (mg := mg) (x := "_law_bridge") (st := s_law_bridge) (ps := ["_law_draw", "_law_groups_here"]) X G (d.def_ 50) (d.fact 50) (fun _ _ _ _ _ _ us hl => match us, hl with | [_, _], _ => rfl)
  obtain ⟨D_law_joined, e_law_joined⟩ := df_of (mg := mg) (x := "_law_joined") (st := s_law_joined) (ps := ["_law_draw", "_law_groups_here", "_law_bridge_here"]) X G (d.def_ 51) (d.fact 51) (fun _ _ _ _ _ _ us hl => match us, hl with | [_, _, _], _ => rfl)
  obtain ⟨D_law_shares_right, e_law_shares_right⟩ := df_of (mg := mg) (x := "_law_shares_right") (st := s_law_shares_right) (ps := ["_law_draw", "_law_story", "_law_groups_here", "_law_spots", "_law_told_here"]) X G (d.def_ 52) (d.fact 52) (fun _ _ _ _ _ _ us hl => match us, hl with | [_, _, _, _, _], _ => rfl)
  obtain ⟨D_law, e_law⟩ := df_of (mg := mg) (x := "law") (st := s_law) (ps := ["_law_script"]) X G (d.def_ 53) (d.fact 53) (fun _ _ _ _ _ _ us hl => match us, hl with | [_], _ => rfl)
  obtain ⟨D_Network_init, e_Network_init⟩ := mf_of (x := "__init__") (qual := "Network.__init__") (st := s_Network_init) (ps := ["self", "drifts", "sources", "wrong"]) (d.def_ 54) (fun _ _ _ _ _ _ us hl => match us, hl with | [_, _, _, _], _ => rfl)
  obtain ⟨fH, FH⟩ := d.def_ 55
  obtain ⟨D_Network_drifts, e_Network_drifts⟩ := mf_of (x := "drifts") (qual := "Network.drifts") (st := s_Network_drifts) (ps := ["self"]) (c.defA 0) (fun _ _ _ _ _ _ us hl => match us, hl with | [_], _ => rfl)
  obtain ⟨D_Network_stations, e_Network_stations⟩ := mf_of (x := "stations") (qual := "Network.stations") (st := s_Network_stations) (ps := ["self"]) (c.defA 1) (fun _ _ _ _ _ _ us hl => match us, hl with | [_], _ => rfl)
  obtain ⟨D_Network_sources, e_Network_sources⟩ := mf_of (x := "sources") (qual := "Network.sources") (st := s_Network_sources) (ps := ["self"]) (c.defA 2) (fun _ _ _ _ _ _ us hl => match us, hl with | [_], _ => rfl)
  obtain ⟨D_Network_wrong, e_Network_wrong⟩ := mf_of (x := "wrong") (qual := "Network.wrong") (st := s_Network_wrong) (ps := ["self"]) (c.defA 3) (fun _ _ _ _ _ _ us hl => match us, hl with | [_], _ => rfl)
  obtain ⟨D_History_network, e_History_network⟩ := mf_of (x := "network") (qual := "History.network") (st := s_History_network) (ps := ["self"]) (c.defA 4) (fun _ _ _ _ _ _ us hl => match us, hl with | [_], _ => rfl)
  obtain ⟨D_History_events, e_History_events⟩ := mf_of (x := "events") (qual := "History.events") (st := s_History_events) (ps := ["self"]) (c.defA 5) (fun _ _ _ _ _ _ us hl => match us, hl with | [_], _ => rfl)
  refine ⟨{
is_between := D_is_between,
    is_name := D_is_name,
    is_list := D_is_list,
    are_drifts := D_are_drifts,
    are_sources := D_are_sources,
    Network_init := D_Network_init,
    Network_drifts := D_Network_drifts,
    Network_stations := D_Network_stations,
    Network_sources := D_Network_sources,
    Network_wrong := D_Network_wrong,
    is_fact := D_is_fact,
    is_event := D_is_event,
    check_events := D_check_events,
    History_init := ⟨_, fH, _, FH, ?b⟩,
    History_network := D_History_network,
    History_events := D_History_events,
    subsets := D_subsets,
    choices := D_choices,
    is_moment := D_is_moment,
    check_moment := D_check_moment,
    put := D_put,
    put_drift := D_put_drift,
    lines_of := D_lines_of,
    put_moment := D_put_moment,
    put_facts := D_put_facts,
    table_with := D_table_with,
    nodes_of := D_nodes_of,
    relaxed := D_relaxed,
    negative_ring := D_negative_ring,
    farthest := D_farthest,
    joined_spans := D_joined_spans,
    span_between := D_span_between,
    spans_between := D_spans_between,
    known := D_known,
    differences := D_differences,
    law_begin := D_law_begin,
    law_take := D_law_take,
    law_pick := D_law_pick,
    law_words := D_law_words,
    law_saying := D_law_saying,
    law_message := D_law_message,
    law_deeds := D_law_deeds,
    law_choices := D_law_choices,
    law_steps := D_law_steps,
    law_rules := D_law_rules,
    law_closed := D_law_closed,
    law_nodes := D_law_nodes,
    law_united := D_law_united,
    law_ranges := D_law_ranges,
    law_told := D_law_told,
    law_spot := D_law_spot,
    law_shuffled := D_law_shuffled,
    law_groups := D_law_groups,
    law_woven := D_law_woven,
    law_ends := D_law_ends,
    law_both := D_law_both,
    law_moved := D_law_moved,
    law_turned := D_law_turned,
    law_bridge := D_law_bridge,
    law_joined := D_law_joined,
    law_shares_right := D_law_shares_right,
    law := D_law,
    Network := ⟨He.ga K "Network", He.cls_ok (d.fact 55), He.glo_ok X G (d.fact 54), by rw [e_Network_init]; exact He.mkr_ok (d.fact 56)⟩,
    History := ⟨He.ga K "History", He.cls_ok (d.fact 58), He.glo_ok X G (d.fact 57), He.mkr_ok (d.fact 59)⟩,
    nA_Network_n_drifts := He.noat_ok (d.fact 60),
    nA_Network_n_sources := He.noat_ok (d.fact 61),
    nA_Network_n_wrong := He.noat_ok (d.fact 62),
    nA_History_h_network := He.noat_ok (d.fact 63),
    nA_History_h_events := He.noat_ok (d.fact 64),
    p_Network_drifts := ⟨_, by rw [e_Network_drifts]; exact c.prop 0⟩,
    p_Network_stations := ⟨_, by rw [e_Network_stations]; exact c.prop 1⟩,
    p_Network_sources := ⟨_, by rw [e_Network_sources]; exact c.prop 2⟩,
    p_Network_wrong := ⟨_, by rw [e_Network_wrong]; exact c.prop 3⟩,
    p_History_network := ⟨_, by rw [e_History_network]; exact c.prop 4⟩,
    p_History_events := ⟨_, by rw [e_History_events]; exact c.prop 5⟩,
    c_ALPHABET := let ⟨t, e⟩ := He.str_ok X G (d.fact 65); ⟨_, e, t, rfl⟩,
    c_MOST_SIGNS := let ⟨t, e⟩ := He.int_ok X G (d.fact 66); ⟨_, e, t, rfl⟩,
    c_MOST_STATIONS := let ⟨t, e⟩ := He.int_ok X G (d.fact 67); ⟨_, e, t, rfl⟩,
    c_MOST_SOURCES := let ⟨t, e⟩ := He.int_ok X G (d.fact 68); ⟨_, e, t, rfl⟩,
    c_MOST_WRONG := let ⟨t, e⟩ := He.int_ok X G (d.fact 69); ⟨_, e, t, rfl⟩,
    c_MOST_DRIFT := let ⟨t, e⟩ := He.int_ok X G (d.fact 70); ⟨_, e, t, rfl⟩,
    c_MOST_EVENTS := let ⟨t, e⟩ := He.int_ok X G (d.fact 71); ⟨_, e, t, rfl⟩,
    c_MOST_FACTS := let ⟨t, e⟩ := He.int_ok X G (d.fact 72); ⟨_, e, t, rfl⟩,
    c_MOST_READING := let ⟨t, e⟩ := He.int_ok X G (d.fact 73); ⟨_, e, t, rfl⟩,
    c_MOST_TIME := let ⟨t, e⟩ := He.int_ok X G (d.fact 74); ⟨_, e, t, rfl⟩,
    c_MOST_DELAY := let ⟨t, e⟩ := He.int_ok X G (d.fact 75); ⟨_, e, t, rfl⟩,
    c_FROM := let ⟨t, e⟩ := He.str_ok X G (d.fact 76); ⟨_, e, t, rfl⟩,
    c_SAYS := let ⟨t, e⟩ := He.str_ok X G (d.fact 77); ⟨_, e, t, rfl⟩,
    c_MOMENT := let ⟨t, e⟩ := He.str_ok X G (d.fact 78); ⟨_, e, t, rfl⟩,
    c_OTHER := let ⟨t, e⟩ := He.str_ok X G (d.fact 79); ⟨_, e, t, rfl⟩,
    c_ORIGIN := let ⟨t, e⟩ := He.str_ok X G (d.fact 80); ⟨_, e, t, rfl⟩,
    c_EXACT := let ⟨t, e⟩ := He.int_ok X G (d.fact 81); ⟨_, e, t, rfl⟩,
    z_abs := He.free_ok X G (d.fact 82),
    z_all := He.free_ok X G (d.fact 83),
    z_bool := He.free_ok X G (d.fact 84),
    z_dict := He.free_ok X G (d.fact 85),
    z_divmod := He.free_ok X G (d.fact 86),
    z_enumerate := He.free_ok X G (d.fact 87),
    z_int := He.free_ok X G (d.fact 88),
    z_isinstance := He.free_ok X G (d.fact 89),
    z_len := He.free_ok X G (d.fact 90),
    z_list := He.free_ok X G (d.fact 91),
    z_max := He.free_ok X G (d.fact 92),
    z_min := He.free_ok X G (d.fact 93),
    z_range := He.free_ok X G (d.fact 94),
    z_sorted := He.free_ok X G (d.fact 95),
    z_str := He.free_ok X G (d.fact 96),
    z_tuple := He.free_ok X G (d.fact 97),
    z_zip := He.free_ok X G (d.fact 98)}, e_law, e_joined_spans, e_law_steps⟩
  case b =>
    obtain ⟨ds, hv, hb⟩ := FH.binds1 (ps := ["self", "network", "events"]) 3 1 (List.cons_ne_nil _ _) rfl fun T kV doc pm an cdv ct us its h1 h2 => match us, its, h1, h2 with | [_, _, _], [_], _, _ => ⟨_, rfl, rfl⟩
    cases hv
    exact hb
end Sw
end
section
set_option maxRecDepth 100000
set_option maxHeartbeats 1000000
namespace Sw
open PySem PySem.Spec PyProof.Rows L2
theorem law_at {w : World} {mg : Str → Option Value} {fa : Addr} {h : Heap} {K : PySem.W.Frag} (KX : K.In h) (c : Says w h K) (G : h.Ns mainGlobals mg) (hmg : mg "law" = some (.ref fa)) : LamX.LawAtS PySem.Challenge.rw_surehour_k85_whole_one_message_between_g w K CX0 12 63 "_law_script" mg fa h := by
  obtain ⟨T, e0, e1, e2⟩ := txt_of KX G c
  have ea := T.law.g.symm.trans hmg
  obtain rfl : T.law.a = fa := by
    have := Value.ref.inj (Option.some.inj ea)
    exact this
  have hP : (He.cT K dJ).2 ≠ (He.cT K dS).2 := c.ne
  letI : TL := ⟨[((He.cT K dJ).2, lamQ "joined_spans"), ((He.cT K dS).2, lamQ "_law_steps")]⟩
  have F1 : FunC K "joined_spans" "joined_spans" s_joined_spans T.joined_spans.a T.joined_spans.fd (He.cT K dJ).1 := func_of T.joined_spans e1
  have F2 : FunC K "_law_steps" "_law_steps" s_law_steps T.law_steps.a T.law_steps.fd (He.cT K dS).1 := func_of T.law_steps e2
  have inT : ∀ p ∈ [He.cT K dJ, He.cT K dS], ∃ d ∈ [dJ, dS], p = He.cT K d := fun p hp => by
    rcases List.mem_cons.mp hp with rfl | hp
    · exact ⟨dJ, List.mem_cons_self, rfl⟩
    · rw [List.mem_singleton.mp hp]
      exact ⟨dS, List.mem_cons_of_mem _ List.mem_cons_self, rfl⟩
  refine ⟨T.law.fd, [He.cT K dJ, He.cT K dS], spLaw K, fun p hp => ?_, fun p hp => ?_, fun p hp => ?_, fun s u => ?_, fun H a ns hl _ hH hS => ?_, fun base _ _ TB => ?_⟩
  · obtain ⟨d, hd, rfl⟩ := inT p hp
    exact c.1.empty d hd
  · obtain ⟨d, hd, rfl⟩ := inT p hp
    exact c.1.out d hd
  · obtain ⟨d, hd, rfl⟩ := inT p hp
    exact PySem.W.codeHd_of_K KX (c.1.hd d hd)
  · obtain ⟨oc, od, kV, doc, pm, an, cdv, ct, osl, e, lk, hc⟩ := T.law.F.ex
    rw [e]
    exact .of_eq rfl
  · refine ⟨a, ns, rfl, hl, hS, fun p hp => ?_, fun _ => rfl⟩
    have tb : H p.1 = some (.tbl #[]) := by
      rcases List.mem_cons.mp hp with rfl | hp
      · exact hH (He.cT K dJ) List.mem_cons_self
      · rw [List.mem_singleton.mp hp]
        exact hH (He.cT K dS) (List.mem_cons_of_mem _ List.mem_cons_self)
    exact ⟨#[], tb, trivial, fun pos cv z => by cases z⟩
  · refine ok_law T ⟨(He.cT K dJ).1, (He.cT K dJ).2, (He.cT K dS).1, (He.cT K dS).2, F1, F2, TB _ List.mem_cons_self, TB _ (List.mem_cons_of_mem _ List.mem_cons_self), List.mem_cons_self, fun p hp e => ?_, List.mem_cons_of_mem _ List.mem_cons_self, fun p hp e => ?_⟩
    · rcases List.mem_cons.mp hp with rfl | hp
      · rfl
      · rw [List.mem_singleton.mp hp] at e
        exact absurd e.symm hP
    · rcases List.mem_cons.mp hp with rfl | hp
      · exact absurd e hP
      · rw [List.mem_singleton.mp hp]
end Sw
end
open PySem PySem.W PyProof.Rows
theorem PySem.Challenge.cw_surehour_k85_whole_one_message_between_g_holds : PySem.Challenge.rw_surehour_k85_whole_one_message_between_g.Holds := by
  exact Sw.head fun w mg fa h K KX c G hmg => Sw.law_at KX c G hmg
