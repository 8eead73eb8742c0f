import PyProof.Rows.All
import Wide.All
import OpenK.AllK
import Wide.FinOn
import HandS.ForMost
import HandS.Walk
import HandS.IsInst
import HandS.Flow
import HandS.Replace
import HandS.TupAny
import HandS.Style
import HandS.Zip
import HandS.Wide
import KE.GoesNew
import HandS.DictComp
import HandS.TryOnly
import HandS.SortKw
import KE.DataMinMax
import KE.GoesEnum
import HandS.TupMul
import PyProof.StrOps2
import HandS.SortRule
import HandS.WordsDict
import PyProof.DictCompW
import PySem.Challenge.RW_liftcord_k21_whole_what_changes_no_cost
set_option Elab.async false
set_option linter.all false
set_option maxRecDepth 100000
set_option maxHeartbeats 4000000

/-! DL1: data trees, the stable part of the heap, judgments over data. -/
namespace DL
open PySem PySem.Spec PyProof.Rows L2

/-- data -/
inductive Da where
  | a (v : V) | lst (l : List Da) | tup (l : List Da) | dk (l : List (Key × V)) | dt (l : List (List Key × V)) | drw | scr (ns : List Int)
abbrev tx (l : List Nat) : Str := ⟨l.toArray⟩
abbrev Da.int (i : Int) : Da := .a (.int i)
abbrev Da.bl (b : Bool) : Da := .a (.bl b)
abbrev Da.non : Da := .a .non
abbrev Da.str (x : Str) : Da := .a (.str x)

/-- the list of draws, whatever it holds -/
def Drw (p : Addr) (h : Heap) : Prop := ∃ (n : Nat) (x y : Int) (t u : Tok), h.get? p = some { cls := .type "list", data := .seq #[.int x t, .int y u] n } ∧ 0 ≤ y ∧ y < 2147483648

mutual
inductive Rp (K : PySem.W.Frag) (H : Hp) : Da → V → Prop
  | a (v : V) : Rp K H (.a v) v
  | lst {p : Addr} {vs : List V} {ds : List Da} : H p = some (.lst vs) → RpAll K H ds vs → Rp K H (.lst ds) (.ref p)
  | tup {p : Addr} {vs : List V} {ds : List Da} : H p = some (.tup vs) → RpAll K H ds vs → Rp K H (.tup ds) (.ref p)
  | dk {p : Addr} {kvs : List (Key × V)} : H p = some (.dK kvs) → Rp K H (.dk kvs) (.ref p)
  | dt {p : Addr} {kvs : List (List Key × V)} : Rd H p (.dT kvs) → Rp K H (.dt kvs) (.ref p)
  | drw {p : Addr} : H p = some (.ext (Drw p)) → Rp K H .drw (.ref p)
  | scr {p : Addr} {ns : List Int} : SqL K H p (ns.map V.int) → Rp K H (.scr ns) (.ref p)
inductive RpAll (K : PySem.W.Frag) (H : Hp) : List Da → List V → Prop
  | nil : RpAll K H [] []
  | cons {d : Da} {ds : List Da} {v : V} {vs : List V} : Rp K H d v → RpAll K H ds vs → RpAll K H (d :: ds) (v :: vs)
end

section
variable {K : PySem.W.Frag} {H H' : Hp}
theorem rdS {p : Addr} {u : HO} (e : Same H H') (h : Rd H p u) : Rd H' p u := by
  rcases h with h | ⟨o, h⟩
  · exact .inl (e _ _ h)
  · exact .inr ⟨o, e _ _ h⟩
theorem sqlS {p : Addr} {xs : List V} (e : Same H H') (h : SqL K H p xs) : SqL K H' p xs := e.seq h
theorem sqtS {p : Addr} {xs : List V} (e : Same H H') (h : SqT K H p xs) : SqT K H' p xs := by
  rcases h with h | h
  · exact .inl (rdS e h)
  · exact .inr h
mutual
theorem Rp.mono (e : Same H H') : ∀ {d : Da} {v : V}, Rp K H d v → Rp K H' d v
  | _, _, .a v => .a v
  | _, _, .lst h r => .lst (e _ _ h) (RpAll.mono e r)
  | _, _, .tup h r => .tup (e _ _ h) (RpAll.mono e r)
  | _, _, .dk h => .dk (e _ _ h)
  | _, _, .dt h => .dt (rdS e h)
  | _, _, .drw h => .drw (e _ _ h)
  | _, _, .scr h => .scr (sqlS e h)
theorem RpAll.mono (e : Same H H') : ∀ {ds : List Da} {vs : List V}, RpAll K H ds vs → RpAll K H' ds vs
  | _, _, .nil => .nil
  | _, _, .cons r t => .cons (Rp.mono e r) (RpAll.mono e t)
end
theorem RpAll.len : ∀ {ds : List Da} {vs : List V}, RpAll K H ds vs → ds.length = vs.length
  | _, _, .nil => rfl
  | _, _, .cons _ t => congrArg (· + 1) (RpAll.len t)
theorem RpAll.get : ∀ {ds : List Da} {vs : List V} {i : Nat} {d : Da}, RpAll K H ds vs → ds[i]? = some d → ∃ v, vs[i]? = some v ∧ Rp K H d v
  | _, _, _, _, .nil, e => by simp at e
  | _, _, 0, _, .cons r _, e => by simp at e; subst e; exact ⟨_, rfl, r⟩
  | _, _, i + 1, d, .cons _ t, e => by
    obtain ⟨v, h1, h2⟩ := RpAll.get (i := i) (d := d) t (by simpa using e)
    exact ⟨v, by simpa using h1, h2⟩
theorem RpAll.getV : ∀ {ds : List Da} {vs : List V} {i : Nat} {v : V}, RpAll K H ds vs → vs[i]? = some v → ∃ d, ds[i]? = some d ∧ Rp K H d v
  | _, _, _, _, .nil, e => by simp at e
  | _, _, 0, _, .cons r _, e => by simp at e; subst e; exact ⟨_, rfl, r⟩
  | _, _, i + 1, d, .cons _ t, e => by
    obtain ⟨v, h1, h2⟩ := RpAll.getV (i := i) (v := d) t (by simpa using e)
    exact ⟨v, by simpa using h1, h2⟩
theorem RpAll.app : ∀ {ds es : List Da} {vs ws : List V}, RpAll K H ds vs → RpAll K H es ws → RpAll K H (ds ++ es) (vs ++ ws)
  | _, _, _, _, .nil, s => s
  | _, _, _, _, .cons r t, s => .cons r (RpAll.app t s)
theorem RpAll.take : ∀ {ds : List Da} {vs : List V} (n : Nat), RpAll K H ds vs → RpAll K H (ds.take n) (vs.take n)
  | _, _, 0, _ => by simpa using RpAll.nil
  | _, _, _ + 1, .nil => .nil
  | _, _, n + 1, .cons r t => .cons r (RpAll.take n t)
theorem RpAll.drop : ∀ {ds : List Da} {vs : List V} (n : Nat), RpAll K H ds vs → RpAll K H (ds.drop n) (vs.drop n)
  | _, _, 0, h => by simpa using h
  | _, _, _ + 1, .nil => .nil
  | _, _, n + 1, .cons r t => RpAll.drop n t
theorem RpAll.rev : ∀ {ds : List Da} {vs : List V}, RpAll K H ds vs → RpAll K H ds.reverse vs.reverse
  | _, _, .nil => .nil
  | _, _, .cons r t => by
    rw [List.reverse_cons, List.reverse_cons]
    exact (RpAll.rev t).app (.cons r .nil)
theorem RpAll.dropLast {ds : List Da} {vs : List V} (h : RpAll K H ds vs) : RpAll K H ds.dropLast vs.dropLast := by
  rw [List.dropLast_eq_take, List.dropLast_eq_take, ← h.len]
  exact h.take _
theorem RpAll.set : ∀ {ds : List Da} {vs : List V} (n : Nat) {d : Da} {v : V}, RpAll K H ds vs → Rp K H d v → RpAll K H (ds.set n d) (vs.set n v)
  | _, _, _, _, _, .nil, _ => .nil
  | _, _, 0, _, _, .cons _ t, r => .cons r t
  | _, _, n + 1, _, _, .cons r t, q => .cons r (RpAll.set n t q)
theorem RpAll.atoms : ∀ {xs vs : List V}, RpAll K H (xs.map Da.a) vs → vs = xs
  | [], _, .nil => rfl
  | x :: xs, _, .cons r t => by
    cases r
    rw [RpAll.atoms t]
theorem RpAll.ofAtoms : ∀ (xs : List V), RpAll K H (xs.map Da.a) xs
  | [] => .nil
  | x :: xs => .cons (.a x) (RpAll.ofAtoms xs)
theorem Rp.atom {x v : V} (h : Rp K H (.a x) v) : v = x := by
  cases h
  rfl
theorem Rp.lst_inv {ds : List Da} {v : V} (h : Rp K H (.lst ds) v) : ∃ p vs, v = .ref p ∧ H p = some (.lst vs) ∧ RpAll K H ds vs := by
  cases h with
  | lst h r => exact ⟨_, _, rfl, h, r⟩
theorem Rp.tup_inv {ds : List Da} {v : V} (h : Rp K H (.tup ds) v) : ∃ p vs, v = .ref p ∧ H p = some (.tup vs) ∧ RpAll K H ds vs := by
  cases h with
  | tup h r => exact ⟨_, _, rfl, h, r⟩
theorem Rp.dk_inv {kvs : List (Key × V)} {v : V} (h : Rp K H (.dk kvs) v) : ∃ p, v = .ref p ∧ H p = some (.dK kvs) := by
  cases h with
  | dk h => exact ⟨_, rfl, h⟩
theorem Rp.dt_inv {kvs : List (List Key × V)} {v : V} (h : Rp K H (.dt kvs) v) : ∃ p, v = .ref p ∧ Rd H p (.dT kvs) := by
  cases h with
  | dt h => exact ⟨_, rfl, h⟩
theorem Rp.drw_inv {v : V} (h : Rp K H .drw v) : ∃ p, v = .ref p ∧ H p = some (.ext (Drw p)) := by
  cases h with
  | drw h => exact ⟨_, rfl, h⟩
end

/-! ### the stable part of the heap -/
structure Go (Hs H Hs' H' : Hp) : Prop where
  ss : Same Hs Hs'
  hh : Same H H'
  sub : Same Hs' H'
  no : ∀ p, H p ≠ none → Hs p = none → Hs' p = none
section
variable {Hs H Hs1 H1 Hs2 H2 : Hp}
theorem Go.refl (h : Same Hs H) : Go Hs H Hs H := ⟨Same.refl _, Same.refl _, h, fun _ _ h => h⟩
theorem same_ne {H H' : Hp} (e : Same H H') {p : Addr} (h : H p ≠ none) : H' p ≠ none := by
  cases q : H p with
  | none => exact absurd q h
  | some o => rw [e p o q]; exact fun z => nomatch z
theorem Go.trans (a : Go Hs H Hs1 H1) (b : Go Hs1 H1 Hs2 H2) : Go Hs H Hs2 H2 :=
  ⟨a.ss.trans b.ss, a.hh.trans b.hh, b.sub, fun p hp hs => b.no p (same_ne a.hh hp) (a.no p hp hs)⟩
theorem same_upd {H : Hp} {p : Addr} {o : HO} (h : H p = none) : Same H (upd H p o) := fun b x e => by
  rw [upd_ne (ne_of_none e h)]
  exact e
theorem same_upd2 {H H' : Hp} {p : Addr} {o : HO} (e : Same H H') : Same (upd H p o) (upd H' p o) := fun b x q => by
  by_cases hb : b = p
  · subst hb; rw [upd_same] at q ⊢; exact q
  · rw [upd_ne hb] at q ⊢; exact e b x q
/-- a new object, stable -/
theorem Go.new (h : Same Hs H) {p : Addr} {o : HO} (hp : H p = none) : Go Hs H (upd Hs p o) (upd H p o) :=
  ⟨same_upd (h.free hp), same_upd hp, same_upd2 h, fun q hq hs => by
    rw [upd_ne (fun z => by rw [z] at hq; exact hq hp)]
    exact hs⟩
/-- a new object, not stable -/
theorem Go.own (h : Same Hs H) {p : Addr} {o : HO} (hp : H p = none) : Go Hs H Hs (upd H p o) :=
  ⟨Same.refl _, same_upd hp, h.trans (same_upd hp), fun _ _ hs => hs⟩
/-- an object that is not of the stable part, nor of the base, changes -/
theorem Go.mut (g : Go Hs H Hs1 H1) {p : Addr} {o : HO} (hp : H p = none) (hs : Hs1 p = none) : Go Hs H Hs1 (upd H1 p o) :=
  ⟨g.ss, fun b x e => by rw [upd_ne (ne_of_none e hp)]; exact g.hh b x e, fun b x e => by rw [upd_ne (ne_of_none e hs)]; exact g.sub b x e, g.no⟩
/-- .. becomes stable -/
theorem Go.freeze (g : Go Hs H Hs1 H1) {p : Addr} {o : HO} (hp : H p = none) (hs : Hs1 p = none) (h1 : H1 p = some o) : Go Hs H (upd Hs1 p o) H1 :=
  ⟨g.ss.trans (same_upd hs), g.hh, fun b x e => by
    by_cases hb : b = p
    · subst hb; rw [upd_same] at e; rw [h1]; exact e
    · rw [upd_ne hb] at e; exact g.sub b x e, fun q hq hn => by
    rw [upd_ne (fun z => by rw [z] at hq; exact hq hp)]
    exact g.no q hq hn⟩
end

/-! ### slots -/
inductive SD where
  | d (d : Da) | b (d : Da) | ol (l : List Da) | ok (l : List (Key × V)) | ot (l : List (List Key × V))
abbrev Sg := List (Option SD)
def SD.own : SD → Bool
  | .ol _ => true
  | .ok _ => true
  | .ot _ => true
  | _ => false
/-- what stands in a slot: data of the stable part, borrowed data (of the base), an own list or dict -/
def SlotOk (K : PySem.W.Frag) (B Hs H : Hp) : SD → V → Prop
  | .d d, v => Rp K Hs d v
  | .b d, v => Rp K B d v
  | .ol l, v => ∃ p vs, v = .ref p ∧ Hs p = none ∧ H p = some (.lst vs) ∧ RpAll K Hs l vs
  | .ok l, v => ∃ p, v = .ref p ∧ Hs p = none ∧ H p = some (.dK l)
  | .ot l, v => ∃ p, v = .ref p ∧ Hs p = none ∧ H p = some (.dT l)
structure Ok (K : PySem.W.Frag) (Bs B Hs H : Hp) (σ : L2.St) (δ : Sg) : Prop where
  go : Go Bs B Hs H
  slot : ∀ (i : Nat) (s : SD), δ[i]? = some (some s) → ∃ v, σ[i]? = some (some v) ∧ SlotOk K B Hs H s v
  len : σ.length = δ.length
  fr : ∀ (i : Nat) (s : SD) (p : Addr), δ[i]? = some (some s) → s.own = true → σ[i]? = some (some (.ref p)) → B p = none
  ap : ∀ (i j : Nat) (s t : SD) (p : Addr), δ[i]? = some (some s) → δ[j]? = some (some t) → s.own = true → t.own = true → σ[i]? = some (some (.ref p)) → σ[j]? = some (some (.ref p)) → i = j
section
variable {K : PySem.W.Frag} {Bs B Hs H Hs' H' : Hp} {σ : L2.St} {δ : Sg}
theorem Ok.sub (o : Ok K Bs B Hs H σ δ) : Same Hs H := o.go.sub
theorem Ok.mono (o : Ok K Bs B Hs H σ δ) (g : Go Hs H Hs' H') : Ok K Bs B Hs' H' σ δ := by
  refine ⟨o.go.trans g, fun i s e => ?_, o.len, o.fr, o.ap⟩
  obtain ⟨v, h1, h2⟩ := o.slot i s e
  refine ⟨v, h1, ?_⟩
  cases s with
  | d d => exact Rp.mono g.ss h2
  | b d => exact h2
  | ol l =>
    obtain ⟨p, vs, e1, e2, e3, e4⟩ := h2
    exact ⟨p, vs, e1, g.no p (by rw [e3]; exact fun z => nomatch z) e2, g.hh p _ e3, e4.mono g.ss⟩
  | ok l =>
    obtain ⟨p, e1, e2, e3⟩ := h2
    exact ⟨p, e1, g.no p (by rw [e3]; exact fun z => nomatch z) e2, g.hh p _ e3⟩
  | ot l =>
    obtain ⟨p, e1, e2, e3⟩ := h2
    exact ⟨p, e1, g.no p (by rw [e3]; exact fun z => nomatch z) e2, g.hh p _ e3⟩
theorem set_none_key {i j : Nat} {s : SD} (e : (δ.set i none)[j]? = some (some s)) : j ≠ i ∧ δ[j]? = some (some s) := by
  by_cases hj : j = i
  · subst hj
    rw [List.getElem?_set] at e
    simp at e
  · rw [List.getElem?_set_ne (Ne.symm hj)] at e
    exact ⟨hj, e⟩
theorem set_some_key {i j : Nat} {s s0 : SD} (e : (δ.set i (some s0))[j]? = some (some s)) : (j ≠ i ∧ δ[j]? = some (some s)) ∨ (j = i ∧ s = s0 ∧ i < δ.length) := by
  by_cases hj : j = i
  · subst hj
    rw [List.getElem?_set] at e
    simp at e
    exact .inr ⟨rfl, e.2.symm, e.1⟩
  · rw [List.getElem?_set_ne (Ne.symm hj)] at e
    exact .inl ⟨hj, e⟩
/-- a slot forgotten -/
theorem Ok.wipe1 (o : Ok K Bs B Hs H σ δ) (i : Nat) (w : Option V) : Ok K Bs B Hs H (σ.set i w) (δ.set i none) := by
  refine ⟨o.go, fun j s e => ?_, by simp [o.len], fun j s p e q e2 => ?_, fun j k s t p e1 e2 q1 q2 e3 e4 => ?_⟩
  · obtain ⟨hj, e⟩ := set_none_key e
    rw [List.getElem?_set_ne (Ne.symm hj)]
    exact o.slot j s e
  · obtain ⟨hj, e⟩ := set_none_key e
    rw [List.getElem?_set_ne (Ne.symm hj)] at e2
    exact o.fr j s p e q e2
  · obtain ⟨hj, e1⟩ := set_none_key e1
    obtain ⟨hk, e2⟩ := set_none_key e2
    rw [List.getElem?_set_ne (Ne.symm hj)] at e3
    rw [List.getElem?_set_ne (Ne.symm hk)] at e4
    exact o.ap j k s t p e1 e2 q1 q2 e3 e4
/-- data stored -/
theorem Ok.setD (o : Ok K Bs B Hs H σ δ) (i : Nat) {d : Da} {v : V} (r : Rp K Hs d v) : Ok K Bs B Hs H (σ.set i (some v)) (δ.set i (some (.d d))) := by
  refine ⟨o.go, fun j s e => ?_, by simp [o.len], fun j s p e q e2 => ?_, fun j k s t p e1 e2 q1 q2 e3 e4 => ?_⟩
  · rcases set_some_key e with ⟨hj, e⟩ | ⟨rfl, rfl, hl⟩
    · rw [List.getElem?_set_ne (Ne.symm hj)]
      exact o.slot j s e
    · exact ⟨v, by rw [List.getElem?_set_self (by rw [o.len]; exact hl)], r⟩
  · rcases set_some_key e with ⟨hj, e⟩ | ⟨rfl, rfl, hl⟩
    · rw [List.getElem?_set_ne (Ne.symm hj)] at e2
      exact o.fr j s p e q e2
    · cases q
  · rcases set_some_key e1 with ⟨hj, e1⟩ | ⟨rfl, rfl, hl⟩
    · rcases set_some_key e2 with ⟨hk, e2⟩ | ⟨rfl, rfl, hl⟩
      · rw [List.getElem?_set_ne (Ne.symm hj)] at e3
        rw [List.getElem?_set_ne (Ne.symm hk)] at e4
        exact o.ap j k s t p e1 e2 q1 q2 e3 e4
      · cases q2
    · cases q1
/-- an own object stored: new at p -/
theorem Ok.setO (o : Ok K Bs B Hs H σ δ) (i : Nat) {s0 : SD} {ho : HO} {p : Addr} (hp : H p = none) (r : SlotOk K B Hs (upd H p ho) s0 (.ref p)) :
    Ok K Bs B Hs (upd H p ho) (σ.set i (some (.ref p))) (δ.set i (some s0)) := by
  have o1 : Ok K Bs B Hs (upd H p ho) σ δ := o.mono (Go.own o.sub hp)
  -- an own slot of before is not at p
  have np : ∀ {j : Nat} {s : SD}, δ[j]? = some (some s) → s.own = true → σ[j]? ≠ some (some (V.ref p)) := fun {j s} e q z => by
    obtain ⟨v, h1, h2⟩ := o.slot j s e
    rw [z] at h1
    cases h1
    cases s with
    | d d => cases q
    | b d => cases q
    | ol l => obtain ⟨_, _, e1, _, e3, _⟩ := h2; cases e1; rw [hp] at e3; cases e3
    | ok l => obtain ⟨_, e1, _, e3⟩ := h2; cases e1; rw [hp] at e3; cases e3
    | ot l => obtain ⟨_, e1, _, e3⟩ := h2; cases e1; rw [hp] at e3; cases e3
  refine ⟨o1.go, fun j s e => ?_, by simp [o.len], fun j s q e w e2 => ?_, fun j k s t q e1 e2 q1 q2 e3 e4 => ?_⟩
  · rcases set_some_key e with ⟨hj, e⟩ | ⟨rfl, rfl, hl⟩
    · rw [List.getElem?_set_ne (Ne.symm hj)]
      exact o1.slot j s e
    · exact ⟨_, by rw [List.getElem?_set_self (by rw [o.len]; exact hl)], r⟩
  · rcases set_some_key e with ⟨hj, e⟩ | ⟨rfl, rfl, hl⟩
    · rw [List.getElem?_set_ne (Ne.symm hj)] at e2
      exact o.fr j s q e w e2
    · rw [List.getElem?_set_self (by rw [o.len]; exact hl)] at e2
      cases e2
      exact o.go.hh.free hp
  · rcases set_some_key e1 with ⟨hj, f1⟩ | ⟨rfl, rfl, hl⟩
    · rw [List.getElem?_set_ne (Ne.symm hj)] at e3
      rcases set_some_key e2 with ⟨hk, e2⟩ | ⟨rfl, rfl, hl⟩
      · rw [List.getElem?_set_ne (Ne.symm hk)] at e4
        exact o.ap j k s t q f1 e2 q1 q2 e3 e4
      · rw [List.getElem?_set_self (by rw [o.len]; exact hl)] at e4
        cases e4
        exact absurd e3 (np f1 q1)
    · rw [List.getElem?_set_self (by rw [o.len]; exact hl)] at e3
      cases e3
      rcases set_some_key e2 with ⟨hk, e2⟩ | ⟨rfl, rfl, hl⟩
      · rw [List.getElem?_set_ne (Ne.symm hk)] at e4
        exact absurd e4 (np e2 q2)
      · rfl
/-- an own object changed: the content at p, held by slot i -/
theorem Ok.chg (o : Ok K Bs B Hs H σ δ) {i : Nat} {s0 s1 : SD} {ho : HO} {p : Addr} (hi : δ[i]? = some (some s0)) (ow : s0.own = true) (ow1 : s1.own = true) (hv : σ[i]? = some (some (.ref p))) (hs : Hs p = none)
    (r : SlotOk K B Hs (upd H p ho) s1 (.ref p)) : Ok K Bs B Hs (upd H p ho) σ (δ.set i (some s1)) := by
  have bp := o.fr i s0 p hi ow hv
  refine ⟨o.go.mut bp hs, fun j s e => ?_, by simp [o.len], fun j s q e w e2 => ?_, fun j k s t q e1 e2 q1 q2 e3 e4 => ?_⟩
  · rcases set_some_key e with ⟨hj, e⟩ | ⟨rfl, rfl, hl⟩
    · obtain ⟨v, h1, h2⟩ := o.slot j s e
      refine ⟨v, h1, ?_⟩
      cases s with
      | d d => exact h2
      | b d => exact h2
      | ol l =>
        obtain ⟨q, vs, e1, e2, e3, e4⟩ := h2
        subst e1
        have nq : q ≠ p := fun z => hj (o.ap j i _ _ p e hi rfl ow (by rw [← z]; exact h1) hv)
        exact ⟨q, vs, rfl, e2, by rw [upd_ne nq]; exact e3, e4⟩
      | ok l =>
        obtain ⟨q, e1, e2, e3⟩ := h2
        subst e1
        have nq : q ≠ p := fun z => hj (o.ap j i _ _ p e hi rfl ow (by rw [← z]; exact h1) hv)
        exact ⟨q, rfl, e2, by rw [upd_ne nq]; exact e3⟩
      | ot l =>
        obtain ⟨q, e1, e2, e3⟩ := h2
        subst e1
        have nq : q ≠ p := fun z => hj (o.ap j i _ _ p e hi rfl ow (by rw [← z]; exact h1) hv)
        exact ⟨q, rfl, e2, by rw [upd_ne nq]; exact e3⟩
    · exact ⟨_, hv, r⟩
  · rcases set_some_key e with ⟨hj, e⟩ | ⟨rfl, rfl, hl⟩
    · exact o.fr j s q e w e2
    · exact o.fr j s0 q hi ow e2
  · rcases set_some_key e1 with ⟨hj, f1⟩ | ⟨rfl, rfl, hl⟩
    · rcases set_some_key e2 with ⟨hk, e2⟩ | ⟨rfl, rfl, hl⟩
      · exact o.ap j k s t q f1 e2 q1 q2 e3 e4
      · exact o.ap j _ s s0 q f1 hi q1 ow e3 e4
    · rcases set_some_key e2 with ⟨hk, e2⟩ | ⟨rfl, rfl, hl⟩
      · exact o.ap _ k s0 t q hi e2 ow q2 e3 e4
      · rfl
/-- an object that no slot holds changes -/
theorem Ok.other (o : Ok K Bs B Hs H σ δ) {p : Addr} {ho : HO} (hs : Hs p = none) (hb : B p = none) (hn : ∀ (i : Nat) (s : SD) (q : Addr), δ[i]? = some (some s) → s.own = true → σ[i]? = some (some (.ref q)) → q ≠ p) :
    Ok K Bs B Hs (upd H p ho) σ δ := by
  refine ⟨o.go.mut hb hs, fun j s e => ?_, o.len, o.fr, o.ap⟩
  obtain ⟨v, h1, h2⟩ := o.slot j s e
  refine ⟨v, h1, ?_⟩
  cases s with
  | d d => exact h2
  | b d => exact h2
  | ol l =>
    obtain ⟨q, vs, e1, e2, e3, e4⟩ := h2
    subst e1
    exact ⟨q, vs, rfl, e2, by rw [upd_ne (hn j _ q e rfl h1)]; exact e3, e4⟩
  | ok l =>
    obtain ⟨q, e1, e2, e3⟩ := h2
    subst e1
    exact ⟨q, rfl, e2, by rw [upd_ne (hn j _ q e rfl h1)]; exact e3⟩
  | ot l =>
    obtain ⟨q, e1, e2, e3⟩ := h2
    subst e1
    exact ⟨q, rfl, e2, by rw [upd_ne (hn j _ q e rfl h1)]; exact e3⟩
theorem Ok.ownAt (o : Ok K Bs B Hs H σ δ) {i : Nat} {s : SD} {q : Addr} (e : δ[i]? = some (some s)) (w : s.own = true) (h : σ[i]? = some (some (.ref q))) : H q ≠ none := by
  obtain ⟨v, h1, h2⟩ := o.slot i s e
  rw [h] at h1
  cases h1
  cases s with
  | d d => cases w
  | b d => cases w
  | ol l => obtain ⟨_, _, e1, _, e3, _⟩ := h2; cases e1; rw [e3]; exact fun z => nomatch z
  | ok l => obtain ⟨_, e1, _, e3⟩ := h2; cases e1; rw [e3]; exact fun z => nomatch z
  | ot l => obtain ⟨_, e1, _, e3⟩ := h2; cases e1; rw [e3]; exact fun z => nomatch z
/-- an own list becomes data -/
def SD.frozen : SD → Option Da
  | .ol l => some (.lst l)
  | .ok l => some (.dk l)
  | .ot l => some (.dt l)
  | _ => none
theorem Ok.freeze (o : Ok K Bs B Hs H σ δ) {i : Nat} {s0 : SD} {d : Da} (hi : δ[i]? = some (some s0)) (hf : s0.frozen = some d) : ∃ Hs', Same Hs Hs' ∧ Ok K Bs B Hs' H σ (δ.set i (some (.d d))) := by
  obtain ⟨v, hv, r⟩ := o.slot i s0 hi
  have ow : s0.own = true := by cases s0 <;> first | rfl | cases hf
  have main : ∃ p ho, v = .ref p ∧ Hs p = none ∧ H p = some ho ∧ Rp K (upd Hs p ho) d (.ref p) := by
    cases s0 with
    | d d => cases hf
    | b d => cases hf
    | ol l =>
      obtain ⟨p, vs, e1, e2, e3, e4⟩ := r
      cases hf
      exact ⟨p, _, e1, e2, e3, .lst upd_same (e4.mono (same_upd e2))⟩
    | ok l =>
      obtain ⟨p, e1, e2, e3⟩ := r
      cases hf
      exact ⟨p, _, e1, e2, e3, .dk upd_same⟩
    | ot l =>
      obtain ⟨p, e1, e2, e3⟩ := r
      cases hf
      exact ⟨p, _, e1, e2, e3, .dt (.inl upd_same)⟩
  obtain ⟨p, ho, rfl, hs, hH, rp⟩ := main
  have bp := o.fr i s0 p hi ow hv
  refine ⟨upd Hs p ho, same_upd hs, o.go.freeze bp hs hH, fun j s e => ?_, by simp [o.len], fun j s q e w e2 => ?_, fun j k s t q e1 e2 q1 q2 e3 e4 => ?_⟩
  · rcases set_some_key e with ⟨hj, e⟩ | ⟨rfl, rfl, hl⟩
    · obtain ⟨v, h1, h2⟩ := o.slot j s e
      refine ⟨v, h1, ?_⟩
      cases s with
      | d d => exact Rp.mono (same_upd hs) h2
      | b d => exact h2
      | ol l =>
        obtain ⟨q, vs, e1, e2, e3, e4⟩ := h2
        subst e1
        have nq : q ≠ p := fun z => hj (o.ap j i _ _ p e hi rfl ow (by rw [← z]; exact h1) hv)
        exact ⟨q, vs, rfl, by rw [upd_ne nq]; exact e2, e3, e4.mono (same_upd hs)⟩
      | ok l =>
        obtain ⟨q, e1, e2, e3⟩ := h2
        subst e1
        have nq : q ≠ p := fun z => hj (o.ap j i _ _ p e hi rfl ow (by rw [← z]; exact h1) hv)
        exact ⟨q, rfl, by rw [upd_ne nq]; exact e2, e3⟩
      | ot l =>
        obtain ⟨q, e1, e2, e3⟩ := h2
        subst e1
        have nq : q ≠ p := fun z => hj (o.ap j i _ _ p e hi rfl ow (by rw [← z]; exact h1) hv)
        exact ⟨q, rfl, by rw [upd_ne nq]; exact e2, e3⟩
    · exact ⟨_, hv, rp⟩
  · rcases set_some_key e with ⟨hj, e⟩ | ⟨rfl, rfl, hl⟩
    · exact o.fr j s q e w e2
    · cases w
  · rcases set_some_key e1 with ⟨hj, e1⟩ | ⟨rfl, rfl, hl⟩
    · rcases set_some_key e2 with ⟨hk, e2⟩ | ⟨rfl, rfl, hl⟩
      · exact o.ap j k s t q e1 e2 q1 q2 e3 e4
      · cases q2
    · cases q1
end

/-! ### the weakest readings -/
section
variable (X : Cx)
def WE (e : Expr) : TE := fun σ H Q => ∀ pins s, Inv X pins σ H s → wpAny (model X.prog X.w) X.A (eval e X.env) (EP X pins σ Q) X.xe s
def WT (e : Expr) : TT := fun σ H Q => ∀ pins s, Inv X pins σ H s → wpAny (model X.prog X.w) X.A (isTrue e X.env (eval e X.env)) (TP X pins σ Q) X.xe s
def WW (e : Expr) : TT := fun σ H Q => ∀ whole pins s, Inv X pins σ H s → wpAny (model X.prog X.w) X.A (isTrue e X.env whole) (TP X pins σ Q) X.xe s
def WA (es : List Expr) : TA := fun σ H Q => ∀ pos pins s, Inv X pins σ H s → wpAny (model X.prog X.w) X.A (spliced (backTo pos (starEach es X.env))) (AP X pins σ Q) X.xe s
def WS (st : Stmt) : TS := fun D σ H => ∀ pins s, Inv X pins σ H s → wpAny (model X.prog X.w) X.A (exec st X.env) (SP X pins D) X.xe s
def WB (st : List Stmt) : TS := fun D σ H => ∀ pins s, Inv X pins σ H s → wpAny (model X.prog X.w) X.A (execs st X.env) (SP X pins D) X.xe s
def WG (tg : Expr) : TG := fun v σ H Q => ∀ pins s u, Inv X pins σ H s → RelV v u → wpAny (model X.prog X.w) X.A (assign tg X.env u) (fun _ s' => ∃ σ' H', Inv X pins σ' H' s' ∧ Q σ' H') X.xe s
def WGs (ts : List Expr) : TGs := fun vs σ H Q => ∀ pins s us, Inv X pins σ H s → Vals vs us → wpAny (model X.prog X.w) X.A (assignInOrder ((assignEach ts X.env).map (·.2)) us) (fun _ s' => ∃ σ' H', Inv X pins σ' H' s' ∧ Q σ' H') X.xe s
def WI (tg iter : Expr) : TI := fun σ H R => ∀ pins s, Inv X pins σ H s →
    wpAny (model X.prog X.w) X.A (eval iter X.env) (fun v s1 => wpAny (model X.prog X.w) X.A (pyIter v) (PIE X pins σ tg R) X.xe s1) X.xe s
def WO (o : Option Expr) (b : TO) : Prop := True
def WTs (ifs : List Expr) : TT := fun σ H Q => ∀ pins s, Inv X pins σ H s →
    wpAny (model X.prog X.w) X.A (forIn ifs true fun c r => if r = true then do let ok ← isTrue c X.env (eval c X.env); pure (ForInStep.yield ok) else pure (ForInStep.yield r)) (TP X pins σ Q) X.xe s
def WK (kws : List Keyword) : TA := fun σ H Q => ∀ pos pins s, Inv X pins σ H s → wpAny (model X.prog X.w) X.A (evalAll ((backToKw pos (keywordEach kws X.env)).map (·.2))) (AP X pins σ Q) X.xe s
end
section
variable {X : Cx} {e tg it : Expr} {es : List Expr} {st : Stmt} {sts : List Stmt} {kws : List Keyword}
theorem pe_W : PE X e (WE X e) := ⟨fun pins s σ H Q I h => h pins s I⟩
theorem pt_W : PT X e (WT X e) := ⟨fun pins s σ H Q I h => h pins s I⟩
theorem pw_W : PW X e (WW X e) := ⟨fun wh pins s σ H Q I h => h wh pins s I⟩
theorem pa_W : PA X es (WA X es) := ⟨fun pos pins s σ H Q I h => h pos pins s I⟩
theorem ps_W : PS X st (WS X st) := ⟨fun pins s σ H D I h => h pins s I⟩
theorem pb_W : PSs X sts (WB X sts) := ⟨fun pins s σ H D I h => h pins s I⟩
theorem pg_W : PG X tg (WG X tg) := ⟨fun pins s σ H v u Q I r h => h pins s u I r⟩
theorem pgs_W : PGs X es (WGs X es) := ⟨fun pins s σ H vs us Q I r h => h pins s us I r⟩
theorem pi_W : PI X tg it (WI X tg it) := ⟨fun pins s σ H R I h => h pins s I⟩
theorem pts_W : PTs X es (WTs X es) := ⟨fun pins s σ H Q I h => h pins s I⟩
theorem pk_W : PK X kws (WK X kws) := ⟨fun pos pins s σ H Q I h => h pos pins s I⟩
theorem WE.of {t : TE} (p : PE X e t) {σ : L2.St} {H : Hp} {Q : VK} (h : t σ H Q) : WE X e σ H Q := fun pins s I => p.run pins s σ H Q I h
theorem WT.of {t : TT} (p : PT X e t) {σ : L2.St} {H : Hp} {Q : Bool → Hp → Prop} (h : t σ H Q) : WT X e σ H Q := fun pins s I => p.run pins s σ H Q I h
theorem WW.of {t : TT} (p : PW X e t) {σ : L2.St} {H : Hp} {Q : Bool → Hp → Prop} (h : t σ H Q) : WW X e σ H Q := fun wh pins s I => p.run wh pins s σ H Q I h
theorem WA.of {t : TA} (p : PA X es t) {σ : L2.St} {H : Hp} {Q : List V → Hp → Prop} (h : t σ H Q) : WA X es σ H Q := fun pos pins s I => p.run pos pins s σ H Q I h
theorem WS.of {t : TS} (p : PS X st t) {D : Ends} {σ : L2.St} {H : Hp} (h : t D σ H) : WS X st D σ H := fun pins s I => p.run pins s σ H D I h
theorem WB.of {t : TS} (p : PSs X sts t) {D : Ends} {σ : L2.St} {H : Hp} (h : t D σ H) : WB X sts D σ H := fun pins s I => p.run pins s σ H D I h
theorem WG.of {t : TG} (p : PG X tg t) {v : V} {σ : L2.St} {H : Hp} {Q : L2.St → Hp → Prop} (h : t v σ H Q) : WG X tg v σ H Q := fun pins s u I r => p.run pins s σ H v u Q I r h
theorem WGs.of {t : TGs} (p : PGs X es t) {vs : List V} {σ : L2.St} {H : Hp} {Q : L2.St → Hp → Prop} (h : t vs σ H Q) : WGs X es vs σ H Q := fun pins s us I r => p.run pins s σ H vs us Q I r h
theorem WI.of {t : TI} (p : PI X tg it t) {σ : L2.St} {H : Hp} {R : It → Hp → Prop} (h : t σ H R) : WI X tg it σ H R := fun pins s I => p.run pins s σ H R I h
theorem WTs.of {t : TT} (p : PTs X es t) {σ : L2.St} {H : Hp} {Q : Bool → Hp → Prop} (h : t σ H Q) : WTs X es σ H Q := fun pins s I => p.run pins s σ H Q I h
theorem WK.of {t : TA} (p : PK X kws t) {σ : L2.St} {H : Hp} {Q : List V → Hp → Prop} (h : t σ H Q) : WK X kws σ H Q := fun pos pins s I => p.run pos pins s σ H Q I h
end

/-! ### judgments over data -/
/-- stable or not -/
def RpM (m : Bool) (K : PySem.W.Frag) (Hs H : Hp) (d : Da) (v : V) : Prop := Rp K (if m then Hs else H) d v
section
variable {K : PySem.W.Frag} {Hs H Hs' H' : Hp} {d : Da} {v : V} {m : Bool}
theorem RpM.mono (g : Go Hs H Hs' H') (h : RpM m K Hs H d v) : RpM m K Hs' H' d v := by
  cases m with
  | true => exact Rp.mono g.ss h
  | false => exact Rp.mono g.hh h
theorem RpM.of (e : Same Hs H) (h : Rp K Hs d v) : RpM m K Hs H d v := by
  cases m with
  | true => exact h
  | false => exact Rp.mono e h
theorem RpM.full (e : Same Hs H) (h : RpM m K Hs H d v) : Rp K H d v := by
  cases m with
  | true => exact Rp.mono e h
  | false => exact h
end
structure DM (X : Cx) (m : Bool) (e : Expr) (δ : Sg) (Φ : Da → Prop) : Prop where
  run : ∀ Bs B Hs H σ, Ok X.K Bs B Hs H σ δ → ∀ Q : VK, (∀ d v Hs' H', Go Hs H Hs' H' → Φ d → RpM m X.K Hs' H' d v → Q v H') → WE X e σ H Q
abbrev DE (X : Cx) (e : Expr) (δ : Sg) (Φ : Da → Prop) : Prop := DM X true e δ Φ
abbrev DV (X : Cx) (e : Expr) (δ : Sg) (Φ : Da → Prop) : Prop := DM X false e δ Φ
structure DT (X : Cx) (e : Expr) (δ : Sg) (Φ : Bool → Prop) : Prop where
  run : ∀ Bs B Hs H σ, Ok X.K Bs B Hs H σ δ → ∀ Q : Bool → Hp → Prop, (∀ b Hs' H', Go Hs H Hs' H' → Φ b → Q b H') → WT X e σ H Q
structure DW (X : Cx) (e : Expr) (δ : Sg) (Φ : Bool → Prop) : Prop where
  run : ∀ Bs B Hs H σ, Ok X.K Bs B Hs H σ δ → ∀ Q : Bool → Hp → Prop, (∀ b Hs' H', Go Hs H Hs' H' → Φ b → Q b H') → WW X e σ H Q
/-- a comprehension's tests -/
structure DTs (X : Cx) (es : List Expr) (δ : Sg) (Φ : Bool → Prop) : Prop where
  run : ∀ Bs B Hs H σ, Ok X.K Bs B Hs H σ δ → ∀ Q : Bool → Hp → Prop, (∀ b Hs' H', Go Hs H Hs' H' → Φ b → Q b H') → WTs X es σ H Q
inductive RpL (K : PySem.W.Frag) (Hs H : Hp) : List Bool → List Da → List V → Prop
  | nil : RpL K Hs H [] [] []
  | cons {m : Bool} {ms : List Bool} {d : Da} {ds : List Da} {v : V} {vs : List V} : RpM m K Hs H d v → RpL K Hs H ms ds vs → RpL K Hs H (m :: ms) (d :: ds) (v :: vs)
theorem RpL.mono {K : PySem.W.Frag} {Hs H Hs' H' : Hp} (g : Go Hs H Hs' H') : ∀ {ms : List Bool} {ds : List Da} {vs : List V}, RpL K Hs H ms ds vs → RpL K Hs' H' ms ds vs
  | _, _, _, .nil => .nil
  | _, _, _, .cons r t => .cons (r.mono g) (RpL.mono g t)
theorem RpL.lens {K : PySem.W.Frag} {Hs H : Hp} : ∀ {ms : List Bool} {ds : List Da} {vs : List V}, RpL K Hs H ms ds vs → vs.length = ms.length
  | _, _, _, .nil => rfl
  | _, _, _, .cons _ t => congrArg (· + 1) t.lens
theorem RpL.all {K : PySem.W.Frag} {Hs H : Hp} (e : Same Hs H) : ∀ {ms : List Bool} {ds : List Da} {vs : List V}, RpL K Hs H ms ds vs → RpAll K H ds vs
  | _, _, _, .nil => .nil
  | _, _, _, .cons r t => .cons (r.full e) (RpL.all e t)
theorem RpL.stab {K : PySem.W.Frag} {Hs H : Hp} : ∀ {ms : List Bool} {ds : List Da} {vs : List V}, RpL K Hs H ms ds vs → ms.all id = true → RpAll K Hs ds vs
  | _, _, _, .nil, _ => .nil
  | m :: ms, _, _, .cons r t, h => by
    have h1 : m = true ∧ ms.all id = true := by simpa using h
    obtain ⟨rfl, h2⟩ := h1
    exact .cons r (RpL.stab t h2)
structure DA (X : Cx) (ms : List Bool) (es : List Expr) (δ : Sg) (Φ : List Da → Prop) : Prop where
  run : ∀ Bs B Hs H σ, Ok X.K Bs B Hs H σ δ → ∀ Q : List V → Hp → Prop,
  (∀ ds vs Hs' H', Go Hs H Hs' H' → Φ ds → RpL X.K Hs' H' ms ds vs → Q vs H') → WA X es σ H Q
structure DK (X : Cx) (ms : List Bool) (kws : List Keyword) (δ : Sg) (Φ : List Da → Prop) : Prop where
  run : ∀ Bs B Hs H σ, Ok X.K Bs B Hs H σ δ → ∀ Q : List V → Hp → Prop,
  (∀ ds vs Hs' H', Go Hs H Hs' H' → Φ ds → RpL X.K Hs' H' ms ds vs → Q vs H') → WK X kws σ H Q
/-- ends over data, from a stable part on -/
structure Fits (K : PySem.W.Frag) (Bs B Hs : Hp) (nx : Sg → Prop) (rt : Da → Prop) (bk ct : Sg → Prop) (D : Ends) : Prop where
  nx : ∀ δ σ Hs' H, Ok K Bs B Hs' H σ δ → Same Hs Hs' → nx δ → D.nx σ H
  rt : ∀ d v Hs' H, Go Bs B Hs' H → Same Hs Hs' → rt d → Rp K Hs' d v → D.rt v H
  bk : ∀ δ σ Hs' H, Ok K Bs B Hs' H σ δ → Same Hs Hs' → bk δ → D.bk σ H
  ct : ∀ δ σ Hs' H, Ok K Bs B Hs' H σ δ → Same Hs Hs' → ct δ → D.ct σ H
theorem Fits.frm {K : PySem.W.Frag} {Bs B Hs Hs1 : Hp} {nx : Sg → Prop} {rt : Da → Prop} {bk ct : Sg → Prop} {D : Ends} (f : Fits K Bs B Hs nx rt bk ct D) (e : Same Hs Hs1) : Fits K Bs B Hs1 nx rt bk ct D :=
  ⟨fun δ σ Hs' H o s h => f.nx δ σ Hs' H o (e.trans s) h, fun d v Hs' H g s h r => f.rt d v Hs' H g (e.trans s) h r, fun δ σ Hs' H o s h => f.bk δ σ Hs' H o (e.trans s) h, fun δ σ Hs' H o s h => f.ct δ σ Hs' H o (e.trans s) h⟩
structure DS (X : Cx) (st : Stmt) (δ : Sg) (nx : Sg → Prop) (rt : Da → Prop) (bk ct : Sg → Prop) : Prop where
  run : ∀ Bs B Hs H σ, Ok X.K Bs B Hs H σ δ → ∀ D, Fits X.K Bs B Hs nx rt bk ct D → WS X st D σ H
structure DB (X : Cx) (sts : List Stmt) (δ : Sg) (nx : Sg → Prop) (rt : Da → Prop) (bk ct : Sg → Prop) : Prop where
  run : ∀ Bs B Hs H σ, Ok X.K Bs B Hs H σ δ → ∀ D, Fits X.K Bs B Hs nx rt bk ct D → WB X sts D σ H
/-- slots of other names stay -/
def Keep (N nm : List Str) (σ σ' : L2.St) : Prop := σ'.length = σ.length ∧ ∀ i : Nat, (∀ x, N[i]? = some x → x ∉ nm) → σ'[i]? = σ[i]?
theorem Keep.refl (N nm : List Str) (σ : L2.St) : Keep N nm σ σ := ⟨rfl, fun _ _ => rfl⟩
theorem Keep.trans {N nm nm2 : List Str} {σ σ1 σ2 : L2.St} (a : Keep N nm σ σ1) (b : Keep N nm2 σ1 σ2) : Keep N (nm ++ nm2) σ σ2 :=
  ⟨b.1.trans a.1, fun i h => (b.2 i fun x e z => h x e (List.mem_append_right _ z)).trans (a.2 i fun x e z => h x e (List.mem_append_left _ z))⟩
/-- a target (of these names) takes a (stable) thing -/
structure DG (X : Cx) (tg : Expr) (nm : List Str) (d : Da) (δ : Sg) (Φ : Sg → Prop) : Prop where
  run : ∀ Bs B Hs H σ v, Ok X.K Bs B Hs H σ δ → Rp X.K Hs d v → ∀ Q : L2.St → Hp → Prop,
  (∀ δ' σ' Hs' H', Ok X.K Bs B Hs' H' σ' δ' → Go Hs H Hs' H' → Keep X.N nm σ σ' → Φ δ' → Q σ' H') → WG X tg v σ H Q
structure DGs (X : Cx) (ts : List Expr) (nm : List Str) (ds : List Da) (δ : Sg) (Φ : Sg → Prop) : Prop where
  run : ∀ Bs B Hs H σ vs, Ok X.K Bs B Hs H σ δ → RpAll X.K Hs ds vs → ∀ Q : L2.St → Hp → Prop,
  (∀ δ' σ' Hs' H', Ok X.K Bs B Hs' H' σ' δ' → Go Hs H Hs' H' → Keep X.N nm σ σ' → Φ δ' → Q σ' H') → WGs X ts vs σ H Q
/-- what a loop walks: the items, each a stable thing when it comes -/
structure DI (X : Cx) (tg it : Expr) (δ : Sg) (Φ : List Da → Prop) : Prop where
  run : ∀ Bs B Hs H σ, Ok X.K Bs B Hs H σ δ → ∀ R : It → Hp → Prop,
  (∀ (ds : List Da) (J : It) (G : Hp → Prop) (Y : Nat → Hp → V → Hp → Prop) (Hs' H' : Hp), Go Hs H Hs' H' → Φ ds → Walk J ds.length G Y → (∀ Hs2 H2, Same Hs' Hs2 → Same Hs2 H2 → G H2) →
    (∀ i d Hs2 H2 v H3, Same Hs' Hs2 → Same Hs2 H2 → ds[i]? = some d → Y i H2 v H3 → ∃ Hs3, Go Hs2 H2 Hs3 H3 ∧ Rp X.K Hs3 d v) → R J H') → WI X tg it σ H R
section
variable {X : Cx} {K : PySem.W.Frag}
instance {X : Cx} {m : Bool} {e : Expr} {δ : Sg} {Φ : Da → Prop} : CoeFun (DM X m e δ Φ) (fun _ => ∀ Bs B Hs H σ, Ok X.K Bs B Hs H σ δ → ∀ Q : VK, (∀ d v Hs' H', Go Hs H Hs' H' → Φ d → RpM m X.K Hs' H' d v → Q v H') → WE X e σ H Q) := ⟨fun h => h.run⟩
instance {X : Cx} {e : Expr} {δ : Sg} {Φ : Bool → Prop} : CoeFun (DT X e δ Φ) (fun _ => ∀ Bs B Hs H σ, Ok X.K Bs B Hs H σ δ → ∀ Q : Bool → Hp → Prop, (∀ b Hs' H', Go Hs H Hs' H' → Φ b → Q b H') → WT X e σ H Q) := ⟨fun h => h.run⟩
instance {X : Cx} {e : Expr} {δ : Sg} {Φ : Bool → Prop} : CoeFun (DW X e δ Φ) (fun _ => ∀ Bs B Hs H σ, Ok X.K Bs B Hs H σ δ → ∀ Q : Bool → Hp → Prop, (∀ b Hs' H', Go Hs H Hs' H' → Φ b → Q b H') → WW X e σ H Q) := ⟨fun h => h.run⟩
instance {X : Cx} {es : List Expr} {δ : Sg} {Φ : Bool → Prop} : CoeFun (DTs X es δ Φ) (fun _ => ∀ Bs B Hs H σ, Ok X.K Bs B Hs H σ δ → ∀ Q : Bool → Hp → Prop, (∀ b Hs' H', Go Hs H Hs' H' → Φ b → Q b H') → WTs X es σ H Q) := ⟨fun h => h.run⟩
instance {X : Cx} {ms : List Bool} {es : List Expr} {δ : Sg} {Φ : List Da → Prop} : CoeFun (DA X ms es δ Φ) (fun _ => ∀ Bs B Hs H σ, Ok X.K Bs B Hs H σ δ → ∀ Q : List V → Hp → Prop,
  (∀ ds vs Hs' H', Go Hs H Hs' H' → Φ ds → RpL X.K Hs' H' ms ds vs → Q vs H') → WA X es σ H Q) := ⟨fun h => h.run⟩
instance {X : Cx} {ms : List Bool} {kws : List Keyword} {δ : Sg} {Φ : List Da → Prop} : CoeFun (DK X ms kws δ Φ) (fun _ => ∀ Bs B Hs H σ, Ok X.K Bs B Hs H σ δ → ∀ Q : List V → Hp → Prop,
  (∀ ds vs Hs' H', Go Hs H Hs' H' → Φ ds → RpL X.K Hs' H' ms ds vs → Q vs H') → WK X kws σ H Q) := ⟨fun h => h.run⟩
instance {X : Cx} {st : Stmt} {δ : Sg} {nx : Sg → Prop} {rt : Da → Prop} {bk ct : Sg → Prop} : CoeFun (DS X st δ nx rt bk ct) (fun _ => ∀ Bs B Hs H σ, Ok X.K Bs B Hs H σ δ → ∀ D, Fits X.K Bs B Hs nx rt bk ct D → WS X st D σ H) := ⟨fun h => h.run⟩
instance {X : Cx} {sts : List Stmt} {δ : Sg} {nx : Sg → Prop} {rt : Da → Prop} {bk ct : Sg → Prop} : CoeFun (DB X sts δ nx rt bk ct) (fun _ => ∀ Bs B Hs H σ, Ok X.K Bs B Hs H σ δ → ∀ D, Fits X.K Bs B Hs nx rt bk ct D → WB X sts D σ H) := ⟨fun h => h.run⟩
instance {X : Cx} {tg : Expr} {nm : List Str} {d : Da} {δ : Sg} {Φ : Sg → Prop} : CoeFun (DG X tg nm d δ Φ) (fun _ => ∀ Bs B Hs H σ v, Ok X.K Bs B Hs H σ δ → Rp X.K Hs d v → ∀ Q : L2.St → Hp → Prop,
  (∀ δ' σ' Hs' H', Ok X.K Bs B Hs' H' σ' δ' → Go Hs H Hs' H' → Keep X.N nm σ σ' → Φ δ' → Q σ' H') → WG X tg v σ H Q) := ⟨fun h => h.run⟩
instance {X : Cx} {ts : List Expr} {nm : List Str} {ds : List Da} {δ : Sg} {Φ : Sg → Prop} : CoeFun (DGs X ts nm ds δ Φ) (fun _ => ∀ Bs B Hs H σ vs, Ok X.K Bs B Hs H σ δ → RpAll X.K Hs ds vs → ∀ Q : L2.St → Hp → Prop,
  (∀ δ' σ' Hs' H', Ok X.K Bs B Hs' H' σ' δ' → Go Hs H Hs' H' → Keep X.N nm σ σ' → Φ δ' → Q σ' H') → WGs X ts vs σ H Q) := ⟨fun h => h.run⟩
instance {X : Cx} {tg it : Expr} {δ : Sg} {Φ : List Da → Prop} : CoeFun (DI X tg it δ Φ) (fun _ => ∀ Bs B Hs H σ, Ok X.K Bs B Hs H σ δ → ∀ R : It → Hp → Prop,
  (∀ (ds : List Da) (J : It) (G : Hp → Prop) (Y : Nat → Hp → V → Hp → Prop) (Hs' H' : Hp), Go Hs H Hs' H' → Φ ds → Walk J ds.length G Y → (∀ Hs2 H2, Same Hs' Hs2 → Same Hs2 H2 → G H2) →
    (∀ i d Hs2 H2 v H3, Same Hs' Hs2 → Same Hs2 H2 → ds[i]? = some d → Y i H2 v H3 → ∃ Hs3, Go Hs2 H2 Hs3 H3 ∧ Rp X.K Hs3 d v) → R J H') → WI X tg it σ H R) := ⟨fun h => h.run⟩
end
end DL

/-! DL2: the rules of expressions, statements, defs. -/
namespace DL
open PySem PySem.Spec PyProof.Rows L2
/-! ### truths among numbers -/
theorem gv_add_bi (a : Bool) (b : Int) (u : Tok) : Gives (Builtin.«int.__add__» ⟨[.bool a, .int b u], []⟩) (.int ((if a = true then (1 : Int) else 0) + b)) :=
  .of_wp fun M A E s Q h => by obtain ⟨hp, g, d, tk, os⟩ := s; wp_walk; exact ⟨_, rfl, h⟩
theorem gv_sub_bi (a : Bool) (b : Int) (u : Tok) : Gives (Builtin.«int.__sub__» ⟨[.bool a, .int b u], []⟩) (.int ((if a = true then (1 : Int) else 0) - b)) :=
  .of_wp fun M A E s Q h => by obtain ⟨hp, g, d, tk, os⟩ := s; wp_walk; exact ⟨_, rfl, h⟩
theorem refl_sub : reflectedDiffers (.type "int") (.type "bool") "sub" = pure false := by
  unfold reflectedDiffers
  show (typeLookup (.type "bool") (dunderR "sub") >>= fun rb => typeLookup (.type "int") (dunderR "sub") >>= fun ra => pure (rb.isSome && rb != ra)) = pure false
  rw [typeLookup_type, typeLookup_type, builtinLookup_eq_fast]; kernel_rfl
theorem refl_mul : reflectedDiffers (.type "int") (.type "bool") "mul" = pure false := by
  unfold reflectedDiffers
  show (typeLookup (.type "bool") (dunderR "mul") >>= fun rb => typeLookup (.type "int") (dunderR "mul") >>= fun ra => pure (rb.isSome && rb != ra)) = pure false
  rw [typeLookup_type, typeLookup_type, builtinLookup_eq_fast]; kernel_rfl
section
variable {prog : Program} {w : World} {A : Around} {E : Value → Shared → Prop} {s : Shared} {a : Int} {t : Tok} {b : Bool}
theorem sub_int_b {Q : Value → Shared → Prop} (h : Q (.int (a - if b = true then (1 : Int) else 0) s.toks) { s with toks := s.toks + 1 }) : wpAny (model prog w) A (binaryOp .Sub (.int a t) (.bool b)) Q E s :=
  binaryOp_sub_gives (op := .Sub) (T := "int") (U := "bool") (by decide) (typeIs_int s a t) rfl F.fills_int_sub F.fills_bool_sub isSubtype_bool_int refl_sub F.slot_int_sub F.entry_int_sub (F.args_int_sub_2 _ _)
    (AutoIntG7.int___sub___int_bool_0 a t b) trivial h
theorem mul_int_b {Q : Value → Shared → Prop} (h : Q (.int (a * if b = true then (1 : Int) else 0) s.toks) { s with toks := s.toks + 1 }) : wpAny (model prog w) A (binaryOp .Mult (.int a t) (.bool b)) Q E s :=
  binaryOp_sub_gives (op := .Mult) (T := "int") (U := "bool") (by decide) (typeIs_int s a t) rfl F.fills_int_mul F.fills_bool_mul isSubtype_bool_int refl_mul F.slot_int_mul F.entry_int_mul (F.args_int_mul_2 _ _)
    (AutoIntG9.int___mul___int_bool_0 a t b) trivial h
theorem add_b_int {Q : Value → Shared → Prop} (h : Q (.int ((if b = true then (1 : Int) else 0) + a) s.toks) { s with toks := s.toks + 1 }) : wpAny (model prog w) A (binaryOp .Add (.bool b) (.int a t)) Q E s :=
  binaryOp_left_gives (op := .Add) (T := "bool") (U := "int") (by decide) rfl (fun s' => typeIs_int s' a t) F.fills_bool_add F.fills_int_add (by kernel_rfl) F.slot_bool_add F.slot_int_radd F.entry_int_add (F.args_int_add_2 _ _)
    (gv_add_bi b a t) trivial h
theorem sub_b_int {Q : Value → Shared → Prop} (h : Q (.int ((if b = true then (1 : Int) else 0) - a) s.toks) { s with toks := s.toks + 1 }) : wpAny (model prog w) A (binaryOp .Sub (.bool b) (.int a t)) Q E s :=
  binaryOp_left_gives (op := .Sub) (T := "bool") (U := "int") (by decide) rfl (fun s' => typeIs_int s' a t) F.fills_bool_sub F.fills_int_sub (by kernel_rfl) F.slot_bool_sub F.slot_int_rsub F.entry_int_sub (F.args_int_sub_2 _ _)
    (gv_sub_bi b a t) trivial h
end
section
variable {X : Cx}
theorem op_add_bi : OpR X (binaryOp .Add) (fun x y H Q => ∃ k i, x = .bl k ∧ y = .int i ∧ Q (.int (b2i k + i)) H) := by
  intro pins s σ H x y v u Q I rx ry h
  obtain ⟨k, i, rfl, rfl, q⟩ := h
  obtain ⟨t, rfl⟩ := ry
  cases rx
  exact add_b_int ⟨.int (b2i k + i), H, I.tok _, ⟨_, rfl⟩, q⟩
theorem op_sub_bi : OpR X (binaryOp .Sub) (fun x y H Q => ∃ k i, x = .bl k ∧ y = .int i ∧ Q (.int (b2i k - i)) H) := by
  intro pins s σ H x y v u Q I rx ry h
  obtain ⟨k, i, rfl, rfl, q⟩ := h
  obtain ⟨t, rfl⟩ := ry
  cases rx
  exact sub_b_int ⟨.int (b2i k - i), H, I.tok _, ⟨_, rfl⟩, q⟩
theorem op_sub_ib : OpR X (binaryOp .Sub) (fun x y H Q => ∃ i k, x = .int i ∧ y = .bl k ∧ Q (.int (i - b2i k)) H) := by
  intro pins s σ H x y v u Q I rx ry h
  obtain ⟨i, k, rfl, rfl, q⟩ := h
  obtain ⟨t, rfl⟩ := rx
  cases ry
  exact sub_int_b ⟨.int (i - b2i k), H, I.tok _, ⟨_, rfl⟩, q⟩
theorem op_mul_ib : OpR X (binaryOp .Mult) (fun x y H Q => ∃ i k, x = .int i ∧ y = .bl k ∧ Q (.int (i * b2i k)) H) := by
  intro pins s σ H x y v u Q I rx ry h
  obtain ⟨i, k, rfl, rfl, q⟩ := h
  obtain ⟨t, rfl⟩ := rx
  cases ry
  exact mul_int_b ⟨.int (i * b2i k), H, I.tok _, ⟨_, rfl⟩, q⟩
end
section
variable {X : Cx}
theorem op_inK (hu : X.A.units + 1 < cLine) : OpR X (compareOp .In) (fun x y H Q => ∃ (q : Key) (a : Addr) (kvs : List (Key × V)), x = kV q ∧ y = .ref a ∧ H a = some (.dK kvs) ∧ Q (.bl (valV kvs q).isSome) H) := by
  intro pins s σ H x y v u Q I rx ry h
  obtain ⟨q, a, kvs, rfl, rfl, hd, p⟩ := h
  cases ry
  exact d_in hu I (DGet.k hd) rx fun s' I' => ⟨.bl _, H, I', rfl, p⟩
theorem op_notInK (hu : X.A.units + 1 < cLine) : OpR X (compareOp .NotIn) (fun x y H Q => ∃ (q : Key) (a : Addr) (kvs : List (Key × V)), x = kV q ∧ y = .ref a ∧ H a = some (.dK kvs) ∧ Q (.bl (!(valV kvs q).isSome)) H) := by
  intro pins s σ H x y v u Q I rx ry h
  obtain ⟨q, a, kvs, rfl, rfl, hd, p⟩ := h
  cases ry
  exact d_notIn hu I (DGet.k hd) rx fun s' I' => ⟨.bl _, H, I', rfl, p⟩
theorem op_notInDT (hu : X.A.units + 64 < cLine) : OpR X (compareOp .NotIn) (fun x y H Q => ∃ d ds, Dp X.K H x d ∧ Dp X.K H y (.tuple ds) ∧ SeqAt.shaped d = true ∧ SeqAt.shaped (.tuple ds) = true ∧ PyData.depthAll ds ≤ 60 ∧ Q (.bl (!ds.any fun z => PyData.eqv z d)) H) := by
  intro pins s σ H x y v u Q I rx ry h
  obtain ⟨d, ds, hd, he, sd, se, hl, q⟩ := h
  obtain ⟨as, r1⟩ := Dp.reads I d x v hd rx
  obtain ⟨bs, r2⟩ := Dp.reads I (.tuple ds) y u he ry
  exact SeqAt.notIn_tuple_reads r2 r1 (SeqAt.canLay_of_shaped se) (SeqAt.canLay_of_shaped sd) (by have := Nat.min_le_left (PyData.depthAll ds) d.depth; omega) ⟨.bl _, H, I, rfl, q⟩
end

/-- the module -/
structure Md where
  P : Program
  w : World
  K : PySem.W.Frag
  mg : Str → Option Value
  base : Heap
def visB (sc : Scope) (x : Str) : Bool := (match sc.names.lookup x with | some .local => true | some .cell => true | some .free => true | _ => false) && !(x == ("__debug__" : Str)) && !(x == ("__classdict__" : Str))
def locB (sc : Scope) (x : Str) : Bool := match sc.names.lookup x with | some .local => true | some .cell => true | _ => false
def glB (sc : Scope) (x : Str) : Bool := (match sc.names.lookup x with | some .globalImplicit => true | _ => false) && !(x == ("__debug__" : Str)) && !(x == ("__name__" : Str))
theorem visB_ok {sc : Scope} {x : Str} (h : visB sc x = true) : Vis sc x ∧ (x == ("__debug__" : Str)) = false ∧ (x == ("__classdict__" : Str)) = false := by
  unfold visB at h
  simp only [Bool.and_eq_true, Bool.not_eq_true'] at h
  obtain ⟨⟨h1, h2⟩, h3⟩ := h
  refine ⟨?_, h2, h3⟩
  unfold Vis
  split at h1 <;> first | (left; assumption) | (right; left; assumption) | (right; right; assumption) | cases h1
theorem locB_ok {sc : Scope} {x : Str} (h : locB sc x = true) : L2.Loc sc x := by
  unfold locB at h
  unfold L2.Loc
  split at h <;> first | (left; assumption) | (right; assumption) | cases h
theorem glB_ok {sc : Scope} {x : Str} (h : glB sc x = true) : sc.names.lookup x = some .globalImplicit ∧ (x == ("__debug__" : Str)) = false ∧ x ≠ ("__name__" : Str) := by
  unfold glB at h
  simp only [Bool.and_eq_true, Bool.not_eq_true'] at h
  obtain ⟨⟨h1, h2⟩, h3⟩ := h
  refine ⟨?_, h2, fun e => by simp [e] at h3⟩
  split at h1 <;> first | assumption | cases h1
/-- what is known of where one stands -/
structure Sc (M : Md) (X : Cx) (k : Nat) (N : List Str) (sc cs : Scope) : Prop where
  hP : X.prog = M.P
  hw : X.w = M.w
  hK : X.K = M.K
  hmg : X.mg = M.mg
  hb : X.base = M.base
  n : X.N = N
  nd : N.Nodup
  calm : X.calm = true
  room : Room k X.A
  kind : sc.kind = .function
  po : PassesOwn (model X.prog X.w) X.A X.env X.xe
  hsc : X.env.scope = sc
  fn : ∀ x, locB cs x = true → L2.Loc X.env.scope x ∧ (X.fn x = true ∨ X.env.scope.names.lookup x = some .local)
inductive Gt : List Str → Sg → Str → SD → Prop
  | z {x : Str} {N : List Str} {s : SD} {δ : Sg} : Gt (x :: N) (some s :: δ) x s
  | s {x y : Str} {N : List Str} {s : SD} {t : Option SD} {δ : Sg} : Gt N δ x s → Gt (y :: N) (t :: δ) x s
theorem Gt.at : ∀ {N : List Str} {δ : Sg} {x : Str} {s : SD}, Gt N δ x s → ∃ i : Nat, N[i]? = some x ∧ δ[i]? = some (some s)
  | _, _, _, _, .z => ⟨0, rfl, rfl⟩
  | _, _, _, _, .s h => let ⟨i, h1, h2⟩ := h.at; ⟨i + 1, h1, h2⟩
inductive Ss : List Str → Sg → Str → Option SD → Sg → Prop
  | z {x : Str} {N : List Str} {s t : Option SD} {δ : Sg} : Ss (x :: N) (t :: δ) x s (s :: δ)
  | s {x y : Str} {N : List Str} {s t : Option SD} {δ δ' : Sg} : Ss N δ x s δ' → Ss (y :: N) (t :: δ) x s (t :: δ')
theorem Ss.at : ∀ {N : List Str} {δ δ' : Sg} {x : Str} {s : Option SD}, Ss N δ x s δ' → ∃ i : Nat, N[i]? = some x ∧ δ' = δ.set i s
  | _, _, _, _, _, .z => ⟨0, rfl, rfl⟩
  | _, _, _, _, _, .s h => let ⟨i, h1, h2⟩ := h.at; ⟨i + 1, h1, by rw [h2]; rfl⟩

section
variable {M : Md} {X : Cx} {k : Nat} {N : List Str} {sc cs : Scope} {δ δ' : Sg} {m : Bool} {Φ Ψ : Da → Prop} {x : Str} {pos p2 : Pos} {e a b : Expr} {es : List Expr}

theorem DM.imp (h : DM X m e δ Φ) (hi : ∀ d, Φ d → Ψ d) : DM X m e δ Ψ := .mk fun Bs B Hs H σ o Q q => h Bs B Hs H σ o Q fun d v Hs' H' g p r => q d v Hs' H' g (hi d p) r
theorem dv_of (h : DE X e δ Φ) : DV X e δ Φ := .mk fun Bs B Hs H σ o Q q => h Bs B Hs H σ o Q fun d v Hs' H' g p r => q d v Hs' H' g p (Rp.mono g.sub r)
theorem DM.of (h : DE X e δ Φ) : DM X m e δ Φ := by
  cases m with
  | true => exact h
  | false => exact dv_of h
/-- atoms -/
theorem dm_atom (h : ∀ Bs B Hs H σ, Ok X.K Bs B Hs H σ δ → ∀ Q : VK, (∀ v Hs' H', Go Hs H Hs' H' → Φ (.a v) → Q v H') → WE X e σ H Q) : DM X m e δ Φ :=
  .mk fun Bs B Hs H σ o Q q => h Bs B Hs H σ o Q fun v Hs' H' g p => q (.a v) v Hs' H' g p (.of g.sub (.a v))

/-! ### names, constants -/
theorem de_name (S : Sc M X k N sc cs) {d : Da} (hs : Gt N δ x (.d d)) (hv : visB sc x = true) (h : Φ d) : DM X m (.Name x pos) δ Φ := .mk fun Bs B Hs H σ o Q q => by
  obtain ⟨i, h1, h2⟩ := hs.at
  obtain ⟨v, h3, h4⟩ := o.slot i _ h2
  obtain ⟨v1, v2, v3⟩ := visB_ok hv
  exact WE.of (pe_var (i := i) (by rw [S.n]; exact h1) (by rw [S.hsc]; exact v1) v2 v3) ⟨v, h3, q d v Hs H (Go.refl o.sub) h (RpM.of o.sub h4)⟩
theorem dv_nameB (S : Sc M X k N sc cs) {d : Da} (hs : Gt N δ x (.b d)) (hv : visB sc x = true) (h : Φ d) : DV X (.Name x pos) δ Φ := .mk fun Bs B Hs H σ o Q q => by
  obtain ⟨i, h1, h2⟩ := hs.at
  obtain ⟨v, h3, h4⟩ := o.slot i _ h2
  obtain ⟨v1, v2, v3⟩ := visB_ok hv
  exact WE.of (pe_var (i := i) (by rw [S.n]; exact h1) (by rw [S.hsc]; exact v1) v2 v3) ⟨v, h3, q d v Hs H (Go.refl o.sub) h (Rp.mono o.go.hh h4)⟩
theorem dv_nameO (S : Sc M X k N sc cs) {s : SD} {d : Da} (hs : Gt N δ x s) (hf : s.frozen = some d) (hv : visB sc x = true) (h : Φ d) : DV X (.Name x pos) δ Φ := .mk fun Bs B Hs H σ o Q q => by
  obtain ⟨i, h1, h2⟩ := hs.at
  obtain ⟨v, h3, h4⟩ := o.slot i _ h2
  obtain ⟨v1, v2, v3⟩ := visB_ok hv
  refine WE.of (pe_var (i := i) (by rw [S.n]; exact h1) (by rw [S.hsc]; exact v1) v2 v3) ⟨v, h3, q d v Hs H (Go.refl o.sub) h ?_⟩
  show Rp X.K H d v
  cases s with
  | d d => cases hf
  | b d => cases hf
  | ol l => obtain ⟨p, vs, rfl, _, e, r⟩ := h4; cases hf; exact .lst e (r.mono o.sub)
  | ok l => obtain ⟨p, rfl, _, e⟩ := h4; cases hf; exact .dk e
  | ot l => obtain ⟨p, rfl, _, e⟩ := h4; cases hf; exact .dt (.inl e)
theorem de_int {i j} (h : Φ (.int i)) : DM X m (.Constant (.int i) j pos) δ Φ := dm_atom fun Bs B Hs H σ o Q q => WE.of pe_int (q (.int i) Hs H (Go.refl o.sub) h)
theorem de_bl {i j} (h : Φ (.bl i)) : DM X m (.Constant (.bool i) j pos) δ Φ := dm_atom fun Bs B Hs H σ o Q q => WE.of pe_bl (q (.bl i) Hs H (Go.refl o.sub) h)
theorem de_non {j} (h : Φ .non) : DM X m (.Constant .none j pos) δ Φ := dm_atom fun Bs B Hs H σ o Q q => WE.of pe_non (q .non Hs H (Go.refl o.sub) h)
theorem de_str {i j} (h : Φ (.str i)) : DM X m (.Constant (.str i) j pos) δ Φ := dm_atom fun Bs B Hs H σ o Q q => WE.of pe_str (q (.str i) Hs H (Go.refl o.sub) h)
theorem de_glob (S : Sc M X k N sc cs) {v : V} {u : Value} (hg : glB sc x = true) (hm : M.mg x = some u) (r : RelV v u) (h : Φ (.a v)) : DM X m (.Name x pos) δ Φ := dm_atom fun Bs B Hs H σ o Q q => by
  obtain ⟨g1, g2, g3⟩ := glB_ok hg
  exact WE.of (pe_glob (by show X.env.scope.names.lookup x = _; rw [S.hsc]; exact g1) (by rw [S.hmg]; exact hm) r g2) (q v Hs H (Go.refl o.sub) h)
theorem de_bltn (S : Sc M X k N sc cs) {v : V} {u : Value} (hg : glB sc x = true) (hm : M.mg x = none) (hv : bootBuiltins x = some u) (r : RelV v u) (h : Φ (.a v)) : DM X m (.Name x pos) δ Φ := dm_atom fun Bs B Hs H σ o Q q => by
  obtain ⟨g1, g2, g3⟩ := glB_ok hg
  exact WE.of (pe_bltn (by show X.env.scope.names.lookup x = _; rw [S.hsc]; exact g1) (by rw [S.hmg]; exact hm) hv r g3 g2) (q v Hs H (Go.refl o.sub) h)

/-! ### operators -/
/-- the weakest reading of an operator -/
def rW (X : Cx) (f : Value → Value → Sem Value) : R2 := fun x y H Q => ∀ pins s σ v u, Inv X pins σ H s → RelV x v → RelV y u → wpAny (model X.prog X.w) X.A (f v u) (EP X pins σ Q) X.xe s
theorem rW_ok {f : Value → Value → Sem Value} : OpR X f (rW X f) := fun pins s σ H x y v u Q I rx ry h => h pins s σ v u I rx ry
theorem rW_of {f : Value → Value → Sem Value} {r : R2} (h : OpR X f r) {x y : V} {H : Hp} {Q : VK} (q : r x y H Q) : rW X f x y H Q := fun pins s σ v u I rx ry => h pins s σ H x y v u Q I rx ry q
/-- an operation on values: operands stable, the result too -/
def OW (X : Cx) (f : Value → Value → Sem Value) (x y : Da) (Φ : Da → Prop) : Prop := ∀ Hs H v w, Same Hs H → Rp X.K Hs x v → Rp X.K Hs y w → ∀ Q : VK, (∀ d z Hs' H', Go Hs H Hs' H' → Φ d → Rp X.K Hs' d z → Q z H') → rW X f v w H Q
theorem de_bin {op : Operator} (h : DE X a δ fun x => DE X b δ fun y => OW X (binaryOp op) x y Φ) : DM X m (.BinOp a op b pos) δ Φ := DM.of <| .mk fun Bs B Hs H σ o Q q =>
  WE.of (pe_op rW_ok pe_W pe_W) (h Bs B Hs H σ o _ fun x v Hs1 H1 g1 hb r1 => hb Bs B Hs1 H1 σ (o.mono g1) _ fun y w Hs2 H2 g2 hc r2 =>
    hc Hs2 H2 v w g2.sub (Rp.mono g2.ss r1) r2 Q fun d z Hs3 H3 g3 p r3 => q d z Hs3 H3 ((g1.trans g2).trans g3) p r3)
/-- .. that gives an atom and leaves the heap -/
theorem ow_atom {f : Value → Value → Sem Value} {r : R2} (hr : OpR X f r) {v w z : V} (hq : ∀ (H : Hp) (Q : VK), Q z H → r v w H Q) (h : Φ (.a z)) : OW X f (.a v) (.a w) Φ := fun Hs H v' w' e r1 r2 Q q => by
  cases r1.atom
  cases r2.atom
  exact rW_of hr (hq H Q (q (.a z) z Hs H (Go.refl e) h (.a z)))
inductive AddW (Φ : Da → Prop) : Da → Da → Prop
  | int {i j : Int} : Φ (.int (i + j)) → AddW Φ (.int i) (.int j)
  | bi {c : Bool} {j : Int} : Φ (.int (b2i c + j)) → AddW Φ (.bl c) (.int j)
  | str {i j : Str} : i.length + j.length ≤ sizeLine → Φ (.str (i ++ j)) → AddW Φ (.str i) (.str j)
  | lst {l r : List Da} : l.length + r.length ≤ sizeLine → Φ (.lst (l ++ r)) → AddW Φ (.lst l) (.lst r)
  | tup {l r : List Da} : l.length + r.length ≤ sizeLine → Φ (.tup (l ++ r)) → AddW Φ (.tup l) (.tup r)
theorem de_add (h : DE X a δ fun x => DE X b δ fun y => AddW Φ x y) : DM X m (.BinOp a .Add b pos) δ Φ := de_bin (h.imp fun x hx => hx.imp fun y hy => by
  cases hy with
  | int h => exact ow_atom op_add (fun H Q q => ⟨_, _, rfl, rfl, q⟩) h
  | bi h => exact ow_atom op_add_bi (fun H Q q => ⟨_, _, rfl, rfl, q⟩) h
  | str hl h => exact ow_atom op_add_str (fun H Q q => ⟨_, _, rfl, rfl, hl, q⟩) h
  | lst hl h =>
    intro Hs H v w e r1 r2 Q q
    obtain ⟨p1, vs, rfl, h1, a1⟩ := r1.lst_inv
    obtain ⟨p2, ws, rfl, h2, a2⟩ := r2.lst_inv
    refine rW_of op_cat ⟨p1, p2, vs, ws, rfl, rfl, e _ _ h1, e _ _ h2, by rw [← a1.len, ← a2.len]; exact hl, fun p hp => q _ _ _ _ (Go.new e hp) h ?_⟩
    exact .lst upd_same ((a1.app a2).mono (same_upd (e.free hp)))
  | tup hl h =>
    intro Hs H v w e r1 r2 Q q
    obtain ⟨p1, vs, rfl, h1, a1⟩ := r1.tup_inv
    obtain ⟨p2, ws, rfl, h2, a2⟩ := r2.tup_inv
    refine rW_of op_catA ⟨p1, p2, vs, ws, rfl, rfl, .of (e _ _ h1), .of (e _ _ h2), by rw [← a1.len, ← a2.len]; exact hl, fun z => ?_, fun _ z => ?_, fun _ _ p hp => q _ _ _ _ (Go.new e hp) h ?_⟩
    · subst z
      cases a1
      exact q _ _ _ _ (Go.refl e) h r2
    · subst z
      cases a2
      rw [List.append_nil] at h
      exact q _ _ _ _ (Go.refl e) h r1
    · exact .tup upd_same ((a1.app a2).mono (same_upd (e.free hp))))
/-- two numbers, what is asked of them, what comes -/
inductive IntW (C : Int → Int → Prop) (g : Int → Int → Int) (Φ : Da → Prop) : Da → Da → Prop
  | mk {i j : Int} : C i j → Φ (.int (g i j)) → IntW C g Φ (.int i) (.int j)
inductive SubW (Φ : Da → Prop) : Da → Da → Prop
  | int {i j : Int} : Φ (.int (i - j)) → SubW Φ (.int i) (.int j)
  | bi {c : Bool} {j : Int} : Φ (.int (b2i c - j)) → SubW Φ (.bl c) (.int j)
  | ib {i : Int} {c : Bool} : Φ (.int (i - b2i c)) → SubW Φ (.int i) (.bl c)
theorem de_sub (h : DE X a δ fun x => DE X b δ fun y => SubW Φ x y) : DM X m (.BinOp a .Sub b pos) δ Φ := de_bin (h.imp fun x hx => hx.imp fun y hy => by
  cases hy with
  | int h => exact ow_atom op_sub (fun H Q q => ⟨_, _, rfl, rfl, q⟩) h
  | bi h => exact ow_atom op_sub_bi (fun H Q q => ⟨_, _, rfl, rfl, q⟩) h
  | ib h => exact ow_atom op_sub_ib (fun H Q q => ⟨_, _, rfl, rfl, q⟩) h)
theorem de_mul (h : DE X a δ fun x => DE X b δ fun y => IntW (fun i j => CMul i j ∨ CMulW i j) (fun i j => i * j) Φ x y) : DM X m (.BinOp a .Mult b pos) δ Φ := de_bin (h.imp fun x hx => hx.imp fun y hy => by
  cases hy with
  | mk hc h =>
    rcases hc with hc | hc
    · exact ow_atom op_mul (fun H Q q => ⟨_, _, rfl, rfl, hc, q⟩) h
    · exact ow_atom op_mulW (fun H Q q => ⟨_, _, rfl, rfl, hc, q⟩) h)
theorem de_mod (h : DE X a δ fun x => DE X b δ fun y => IntW (fun _ j => 0 < j) (fun i j => i % j) Φ x y) : DM X m (.BinOp a .Mod b pos) δ Φ := de_bin (h.imp fun x hx => hx.imp fun y hy => by
  cases hy with
  | mk hc h => exact ow_atom op_mod (fun H Q q => ⟨_, _, rfl, rfl, hc, q⟩) h)
theorem de_fdiv (h : DE X a δ fun x => DE X b δ fun y => IntW (fun _ j => 0 < j ∧ j < 1073741824) (fun i j => i / j) Φ x y) : DM X m (.BinOp a .FloorDiv b pos) δ Φ := de_bin (h.imp fun x hx => hx.imp fun y hy => by
  cases hy with
  | mk hc h => exact ow_atom op_fdiv (fun H Q q => ⟨_, _, rfl, rfl, hc, q⟩) h)
theorem de_pow (h : DE X a δ fun x => DE X b δ fun y => IntW CPow (fun i j => i ^ j.toNat) Φ x y) : DM X m (.BinOp a .Pow b pos) δ Φ := de_bin (h.imp fun x hx => hx.imp fun y hy => by
  cases hy with
  | mk hc h => exact ow_atom op_pow (fun H Q q => ⟨_, _, rfl, rfl, hc, q⟩) h)
theorem de_neg (h : DE X a δ fun x => ∃ i, x = .int i ∧ Φ (.int (-i))) : DM X m (.UnaryOp .USub a pos) δ Φ := DM.of <| .mk fun Bs B Hs H σ o Q q =>
  WE.of (pe_un un_neg pe_W) (h Bs B Hs H σ o _ fun x v Hs1 H1 g1 ⟨i, e, hb⟩ r1 => by
    subst e
    cases r1.atom
    exact ⟨i, rfl, q _ _ Hs1 H1 g1 hb (.a _)⟩)

/-! ### comparisons -/
/-- data that == tells -/
def Da.py : Da → PyData
  | .a .non => .none
  | .a (.bl b) => .bool b
  | .a (.int i) => .int i
  | .a (.str x) => .str x
  | .lst l => .list (l.map Da.py)
  | .tup l => .tuple (l.map Da.py)
  | _ => .none
mutual
inductive Pl : Da → Prop
  | non : Pl .non
  | bl (b : Bool) : Pl (.bl b)
  | int (i : Int) : Pl (.int i)
  | str (x : Str) : Pl (.str x)
  | lst {l : List Da} : PlAll l → Pl (.lst l)
  | tup {l : List Da} : PlAll l → Pl (.tup l)
inductive PlAll : List Da → Prop
  | nil : PlAll []
  | cons {d : Da} {l : List Da} : Pl d → PlAll l → PlAll (d :: l)
end
mutual
theorem Rp.dp {K : PySem.W.Frag} {H : Hp} : ∀ {d : Da} {v : V}, Pl d → Rp K H d v → Dp K H v d.py
  | _, _, .non, .a _ => by rw [Da.py]; exact .non
  | _, _, .bl b, .a _ => by rw [Da.py]; exact .bl b
  | _, _, .int i, .a _ => by rw [Da.py]; exact .int i
  | _, _, .str x, .a _ => by rw [Da.py]; exact .str x
  | _, _, .lst p, .lst h r => by rw [Da.py]; exact .lst (.of h) (RpAll.dp p r)
  | _, _, .tup p, .tup h r => by rw [Da.py]; exact .tup (.of h) (RpAll.dp p r)
theorem RpAll.dp {K : PySem.W.Frag} {H : Hp} : ∀ {ds : List Da} {vs : List V}, PlAll ds → RpAll K H ds vs → DpAll K H vs (ds.map Da.py)
  | _, _, .nil, .nil => .nil
  | _, _, .cons p ps, .cons r rs => .cons (Rp.dp p r) (RpAll.dp ps rs)
end
inductive CmpW (Φ : Bool → Prop) : CmpOp → Da → Da → Prop
  | eqS {x y : V} : scal x y = true → Φ (decide (x = y)) → CmpW Φ .Eq (.a x) (.a y)
  | neS {x y : V} : scal x y = true → Φ (!decide (x = y)) → CmpW Φ .NotEq (.a x) (.a y)
  | eqD {x y : Da} : Pl x → Pl y → SeqAt.shaped x.py = true → SeqAt.shaped y.py = true → Φ (PyData.eqv x.py y.py) → CmpW Φ .Eq x y
  | neD {x y : Da} : Pl x → Pl y → SeqAt.shaped x.py = true → SeqAt.shaped y.py = true → Φ (!PyData.eqv x.py y.py) → CmpW Φ .NotEq x y
  | lt {i j : Int} : Φ (decide (i < j)) → CmpW Φ .Lt (.int i) (.int j)
  | le {i j : Int} : Φ (decide (i ≤ j)) → CmpW Φ .LtE (.int i) (.int j)
  | gt {i j : Int} : Φ (decide (j < i)) → CmpW Φ .Gt (.int i) (.int j)
  | ge {i j : Int} : Φ (decide (j ≤ i)) → CmpW Φ .GtE (.int i) (.int j)
  | ltS {i j : Str} : Φ (decide (i.cps.toList < j.cps.toList)) → CmpW Φ .Lt (.str i) (.str j)
  | inS {c : Nat} {z : Str} : Φ (decide (c ∈ z.cps.toList)) → CmpW Φ .In (.str ⟨#[c]⟩) (.str z)
  | notInS {c : Nat} {z : Str} : Φ (!decide (c ∈ z.cps.toList)) → CmpW Φ .NotIn (.str ⟨#[c]⟩) (.str z)
  | ltT {ns ms : List Int} : Φ (HT.lexLt ns ms) → CmpW Φ .Lt (.tup (ns.map Da.int)) (.tup (ms.map Da.int))
  | inF {x : V} {xs : List V} : flatV x = true → xs.all flatV = true → Φ (inV x xs) → CmpW Φ .In (.a x) (.lst (xs.map Da.a))
  | notInF {x : V} {xs : List V} : flatV x = true → xs.all flatV = true → Φ (!inV x xs) → CmpW Φ .NotIn (.a x) (.lst (xs.map Da.a))
  | inFT {x : V} {xs : List V} : flatV x = true → xs.all flatV = true → Φ (inV x xs) → CmpW Φ .In (.a x) (.tup (xs.map Da.a))
  | isN {x : V} : Φ (decide (x = .non)) → CmpW Φ .Is (.a x) .non
  | notN {x : V} : Φ (!decide (x = .non)) → CmpW Φ .IsNot (.a x) .non
  | isNs {x : Da} : (∀ v, x ≠ .a v) → Φ false → CmpW Φ .Is x .non
  | notNs {x : Da} : (∀ v, x ≠ .a v) → Φ true → CmpW Φ .IsNot x .non
  | inK {q : Key} {kvs : List (Key × V)} : Φ (valV kvs q).isSome → CmpW Φ .In (.a (kV q)) (.dk kvs)
  | notInK {q : Key} {kvs : List (Key × V)} : Φ (!(valV kvs q).isSome) → CmpW Φ .NotIn (.a (kV q)) (.dk kvs)
  | notInDT {x : Da} {l : List Da} : Pl x → Pl (.tup l) → SeqAt.shaped x.py = true → SeqAt.shaped (Da.tup l).py = true → PyData.depthAll (l.map Da.py) ≤ 60 → Φ (!(l.map Da.py).any fun z => PyData.eqv z x.py) → CmpW Φ .NotIn x (.tup l)
theorem Rp.isRef {K : PySem.W.Frag} {H : Hp} {x : Da} {v : V} (r : Rp K H x v) (h : ∀ v, x ≠ .a v) : ∃ p, v = .ref p := by
  cases r with
  | a v => exact absurd rfl (h v)
  | lst _ _ => exact ⟨_, rfl⟩
  | tup _ _ => exact ⟨_, rfl⟩
  | dk _ => exact ⟨_, rfl⟩
  | dt _ => exact ⟨_, rfl⟩
  | drw _ => exact ⟨_, rfl⟩
  | scr _ => exact ⟨_, rfl⟩
theorem cmp_run (S : Sc M X k N sc cs) {Φ : Bool → Prop} {op : CmpOp} {x y : Da} {H : Hp} {v w : V} (h : CmpW Φ op x y) (rx : Rp X.K H x v) (ry : Rp X.K H y w) {Q : VK} (q : ∀ c, Φ c → Q (.bl c) H) : rW X (compareOp op) v w H Q := by
  cases h with
  | eqS hs h => cases rx.atom; cases ry.atom; exact rW_of op_eq ⟨hs, q _ h⟩
  | neS hs h => cases rx.atom; cases ry.atom; exact rW_of op_ne ⟨hs, q _ h⟩
  | eqD p1 p2 s1 s2 h => exact rW_of (op_eqD S.room.units) ⟨_, _, rx.dp p1, ry.dp p2, s1, s2, q _ h⟩
  | neD p1 p2 s1 s2 h => exact rW_of (op_neD S.room.units) ⟨_, _, rx.dp p1, ry.dp p2, s1, s2, q _ h⟩
  | lt h => cases rx.atom; cases ry.atom; exact rW_of op_lt ⟨_, _, rfl, rfl, q _ h⟩
  | le h => cases rx.atom; cases ry.atom; exact rW_of op_le ⟨_, _, rfl, rfl, q _ h⟩
  | gt h => cases rx.atom; cases ry.atom; exact rW_of op_gt ⟨_, _, rfl, rfl, q _ h⟩
  | ge h => cases rx.atom; cases ry.atom; exact rW_of op_ge ⟨_, _, rfl, rfl, q _ h⟩
  | ltS h => cases rx.atom; cases ry.atom; exact rW_of op_lt_str ⟨_, _, rfl, rfl, q _ h⟩
  | inS h => cases rx.atom; cases ry.atom; exact rW_of op_in_sign ⟨_, _, rfl, rfl, q _ h⟩
  | notInS h => cases rx.atom; cases ry.atom; exact rW_of op_notIn_sign ⟨_, _, rfl, rfl, q _ h⟩
  | @ltT ns ms h =>
    obtain ⟨p1, vs, rfl, h1, a1⟩ := rx.tup_inv
    obtain ⟨p2, ws, rfl, h2, a2⟩ := ry.tup_inv
    have e1 : ns.map Da.int = (ns.map V.int).map Da.a := by rw [List.map_map]; rfl
    have e2 : ms.map Da.int = (ms.map V.int).map Da.a := by rw [List.map_map]; rfl
    rw [e1] at a1
    rw [e2] at a2
    rw [a1.atoms] at h1
    rw [a2.atoms] at h2
    exact rW_of (op_ltT (Nat.lt_of_le_of_lt (Nat.le_add_right _ _) S.room.units)) ⟨p1, p2, ns, ms, rfl, rfl, .of h1, .of h2, q _ h⟩
  | inF f1 f2 h =>
    cases rx.atom
    obtain ⟨p2, ws, rfl, h2, a2⟩ := ry.lst_inv
    rw [a2.atoms] at h2
    exact rW_of op_in_seq ⟨p2, _, rfl, .inl (.of h2), f1, f2, q _ h⟩
  | notInF f1 f2 h =>
    cases rx.atom
    obtain ⟨p2, ws, rfl, h2, a2⟩ := ry.lst_inv
    rw [a2.atoms] at h2
    exact rW_of op_notIn_seq ⟨p2, _, rfl, .inl (.of h2), f1, f2, q _ h⟩
  | inFT f1 f2 h =>
    cases rx.atom
    obtain ⟨p2, ws, rfl, h2, a2⟩ := ry.tup_inv
    rw [a2.atoms] at h2
    exact rW_of op_in_seq ⟨p2, _, rfl, .inr (.of h2), f1, f2, q _ h⟩
  | isN h => cases rx.atom; cases ry.atom; exact rW_of op_isN ⟨rfl, q _ h⟩
  | notN h => cases rx.atom; cases ry.atom; exact rW_of op_notN ⟨rfl, q _ h⟩
  | isNs hx h => obtain ⟨p, rfl⟩ := rx.isRef hx; cases ry.atom; exact rW_of op_isN ⟨rfl, q _ h⟩
  | notNs hx h => obtain ⟨p, rfl⟩ := rx.isRef hx; cases ry.atom; exact rW_of op_notN ⟨rfl, q _ h⟩
  | inK h =>
    cases rx.atom
    cases ry with
    | dk hd => exact rW_of (op_inK (by have := S.room.units; omega)) ⟨_, _, _, rfl, rfl, hd, q _ h⟩
  | notInK h =>
    cases rx.atom
    cases ry with
    | dk hd => exact rW_of (op_notInK (by have := S.room.units; omega)) ⟨_, _, _, rfl, rfl, hd, q _ h⟩
  | notInDT p1 p2 s1 s2 hl h =>
    have r2 := ry.dp p2
    rw [Da.py] at r2 s2
    exact rW_of (op_notInDT S.room.units) ⟨_, _, rx.dp p1, r2, s1, s2, hl, q _ h⟩
theorem de_cmp (S : Sc M X k N sc cs) {op : CmpOp} (hm : behindInMarks op b = false) (h : DV X a δ fun x => DV X b δ fun y => CmpW (fun c => Φ (.bl c)) op x y) : DM X m (.Compare a [op] [b] pos) δ Φ := DM.of <| .mk fun Bs B Hs H σ o Q q =>
  WE.of (pe_cmpR rW_ok pe_W pe_W hm) (h Bs B Hs H σ o _ fun x v Hs1 H1 g1 hb r1 => hb Bs B Hs1 H1 σ (o.mono g1) _ fun y w Hs2 H2 g2 hc r2 =>
    cmp_run S hc (Rp.mono g2.hh r1) r2 fun c p => q (.bl c) (.bl c) Hs2 H2 (g1.trans g2) p (.a _))
theorem dt_cmp (S : Sc M X k N sc cs) {Φ : Bool → Prop} {op : CmpOp} (hm : behindInMarks op b = false) (h : DV X a δ fun x => DV X b δ fun y => CmpW Φ op x y) : DT X (.Compare a [op] [b] pos) δ Φ := .mk fun Bs B Hs H σ o Q q =>
  WT.of (pt_cmpR rW_ok pe_W pe_W hm) (h Bs B Hs H σ o _ fun x v Hs1 H1 g1 hb r1 => hb Bs B Hs1 H1 σ (o.mono g1) _ fun y w Hs2 H2 g2 hc r2 =>
    cmp_run S hc (Rp.mono g2.hh r1) r2 fun c p => ⟨c, rfl, q c Hs2 H2 (g1.trans g2) p⟩)
theorem de_chain (S : Sc M X k N sc cs) {op op' : CmpOp} {c : Expr} (h : DV X a δ fun x => DV X b δ fun y => CmpW (fun z => (z = true → DV X c δ fun y' => CmpW (fun c => Φ (.bl c)) op' y y') ∧ (z = false → Φ (.bl false))) op x y)
    (hm : lastMarks [op, op'] [b, c] = false := by with_unfolding_all rfl) : DM X m (.Compare a [op, op'] [b, c] pos) δ Φ := DM.of <| .mk fun Bs B Hs H σ o Q q =>
  WE.of (pe_chain rW_ok rW_ok pe_W pe_W pe_W hm) (h Bs B Hs H σ o _ fun x v Hs1 H1 g1 hb r1 => hb Bs B Hs1 H1 σ (o.mono g1) _ fun y w Hs2 H2 g2 hc r2 =>
    cmp_run S hc (Rp.mono g2.hh r1) r2 fun z p => ⟨z, rfl, by
      cases z with
      | true => exact iteT (p.1 rfl Bs B Hs2 H2 σ ((o.mono g1).mono g2) _ fun y' w' Hs3 H3 g3 hd r3 => cmp_run S hd (Rp.mono g3.hh r2) r3 fun c p => q (.bl c) (.bl c) Hs3 H3 ((g1.trans g2).trans g3) p (.a _))
      | false => exact iteF (q (.bl false) (.bl false) Hs2 H2 (g1.trans g2) (p.2 rfl) (.a _))⟩)
theorem dt_chain (S : Sc M X k N sc cs) {Φ : Bool → Prop} {op op' : CmpOp} {c : Expr} (h : DV X a δ fun x => DV X b δ fun y => CmpW (fun z => (z = true → DV X c δ fun y' => CmpW Φ op' y y') ∧ (z = false → Φ false)) op x y)
    (hm : lastMarks [op, op'] [b, c] = false := by with_unfolding_all rfl) : DT X (.Compare a [op, op'] [b, c] pos) δ Φ := .mk fun Bs B Hs H σ o Q q =>
  WT.of (pt_chain rW_ok rW_ok pe_W pe_W pe_W hm) (h Bs B Hs H σ o _ fun x v Hs1 H1 g1 hb r1 => hb Bs B Hs1 H1 σ (o.mono g1) _ fun y w Hs2 H2 g2 hc r2 =>
    cmp_run S hc (Rp.mono g2.hh r1) r2 fun z p => ⟨z, rfl, by
      cases z with
      | true => exact iteT (p.1 rfl Bs B Hs2 H2 σ ((o.mono g1).mono g2) _ fun y' w' Hs3 H3 g3 hd r3 => cmp_run S hd (Rp.mono g3.hh r2) r3 fun c p => ⟨c, rfl, q c Hs3 H3 ((g1.trans g2).trans g3) p⟩)
      | false => exact iteF ⟨false, rfl, q false Hs2 H2 (g1.trans g2) (p.2 rfl)⟩⟩)

/-! ### tests -/
theorem DT.imp {Φ Ψ : Bool → Prop} (h : DT X e δ Φ) (hi : ∀ c, Φ c → Ψ c) : DT X e δ Ψ := .mk fun Bs B Hs H σ o Q q => h Bs B Hs H σ o Q fun c Hs' H' g p => q c Hs' H' g (hi c p)
theorem dt_val {Φ : Bool → Prop} (h : DV X e δ fun d => ∃ c, d = .bl c ∧ Φ c) (he : ∀ whole, isTrue e X.env whole = (do let v ← whole; standAt e.pos; holding [v] (truthy v)) := by intro _; rfl) : DT X e δ Φ := .mk fun Bs B Hs H σ o Q q =>
  WT.of (pt_val pe_W he) (h Bs B Hs H σ o _ fun d v Hs' H' g ⟨c, e1, p⟩ r => by
    subst e1
    cases r.atom
    exact ⟨c, rfl, q c Hs' H' g p⟩)
theorem dt_w {Φ : Bool → Prop} (h : DW X e δ Φ) : DT X e δ Φ := .mk fun Bs B Hs H σ o Q q => WT.of (pw_W.pt) (h Bs B Hs H σ o Q q)
theorem dw_and1 {Φ : Bool → Prop} (h : DT X a δ Φ) : DW X (.BoolOp .And [a] pos) δ Φ := .mk fun Bs B Hs H σ o Q q => WW.of (pw_and1 pt_W) (h Bs B Hs H σ o Q q)
theorem dw_or1 {Φ : Bool → Prop} (h : DT X a δ Φ) : DW X (.BoolOp .Or [a] pos) δ Φ := .mk fun Bs B Hs H σ o Q q => WW.of (pw_or1 pt_W) (h Bs B Hs H σ o Q q)
theorem dw_and {Φ : Bool → Prop} (h : DT X a δ fun c => (c = true → DW X (.BoolOp .And (b :: es) pos) δ Φ) ∧ (c = false → Φ false)) : DW X (.BoolOp .And (a :: b :: es) pos) δ Φ := .mk fun Bs B Hs H σ o Q q =>
  WW.of (pw_and pt_W pw_W) (h Bs B Hs H σ o _ fun c Hs' H' g p => by
    cases c with
    | true => exact iteT (p.1 rfl Bs B Hs' H' σ (o.mono g) Q fun c Hs2 H2 g2 p => q c Hs2 H2 (g.trans g2) p)
    | false => exact iteF (q false Hs' H' g (p.2 rfl)))
theorem dw_or {Φ : Bool → Prop} (h : DT X a δ fun c => (c = true → Φ true) ∧ (c = false → DW X (.BoolOp .Or (b :: es) pos) δ Φ)) : DW X (.BoolOp .Or (a :: b :: es) pos) δ Φ := .mk fun Bs B Hs H σ o Q q =>
  WW.of (pw_or pt_W pw_W) (h Bs B Hs H σ o _ fun c Hs' H' g p => by
    cases c with
    | true => exact iteT (q true Hs' H' g (p.1 rfl))
    | false => exact iteF (p.2 rfl Bs B Hs' H' σ (o.mono g) Q fun c Hs2 H2 g2 p => q c Hs2 H2 (g.trans g2) p))
theorem dt_not {Φ : Bool → Prop} (h : DT X a δ fun c => Φ (!c)) : DT X (.UnaryOp .Not a pos) δ Φ := .mk fun Bs B Hs H σ o Q q => WT.of (pt_not pt_W) (h Bs B Hs H σ o _ fun c Hs' H' g p => q (!c) Hs' H' g p)
/-- .. as values -/
theorem de_one {op} (h : DM X m a δ Φ) : DM X m (.BoolOp op [a] pos) δ Φ := .mk fun Bs B Hs H σ o Q q => WE.of (pe_one pe_W) (h Bs B Hs H σ o Q q)
theorem de_and (h : DV X a δ fun d => ∃ c, d = .bl c ∧ (c = true → DM X m (.BoolOp .And (b :: es) pos) δ Φ) ∧ (c = false → Φ (.bl false))) : DM X m (.BoolOp .And (a :: b :: es) pos) δ Φ := .mk fun Bs B Hs H σ o Q q =>
  WE.of (pe_and pe_W pe_W) (h Bs B Hs H σ o _ fun d v Hs' H' g ⟨c, e1, p1, p2⟩ r => by
    subst e1
    cases r.atom
    refine ⟨c, rfl, ?_⟩
    cases c with
    | true => exact iteT (p1 rfl Bs B Hs' H' σ (o.mono g) Q fun d v Hs2 H2 g2 p r => q d v Hs2 H2 (g.trans g2) p r)
    | false => exact iteF (q (.bl false) _ Hs' H' g (p2 rfl) (.of g.sub (.a _))))
theorem de_or (h : DV X a δ fun d => ∃ c, d = .bl c ∧ (c = true → Φ (.bl true)) ∧ (c = false → DM X m (.BoolOp .Or (b :: es) pos) δ Φ)) : DM X m (.BoolOp .Or (a :: b :: es) pos) δ Φ := .mk fun Bs B Hs H σ o Q q =>
  WE.of (pe_or pe_W pe_W) (h Bs B Hs H σ o _ fun d v Hs' H' g ⟨c, e1, p1, p2⟩ r => by
    subst e1
    cases r.atom
    refine ⟨c, rfl, ?_⟩
    cases c with
    | true => exact iteT (q (.bl true) _ Hs' H' g (p1 rfl) (.of g.sub (.a _)))
    | false => exact iteF (p2 rfl Bs B Hs' H' σ (o.mono g) Q fun d v Hs2 H2 g2 p r => q d v Hs2 H2 (g.trans g2) p r))
theorem de_not (h : DV X a δ fun d => ∃ c, d = .bl c ∧ Φ (.bl (!c))) : DM X m (.UnaryOp .Not a pos) δ Φ := DM.of <| .mk fun Bs B Hs H σ o Q q =>
  WE.of (pe_not pe_W) (h Bs B Hs H σ o _ fun d v Hs' H' g ⟨c, e1, p⟩ r => by
    subst e1
    cases r.atom
    exact ⟨c, rfl, q _ _ Hs' H' g p (.a _)⟩)
theorem de_ifE {c : Expr} (h : DT X c δ fun z => (z = true → DM X m a δ Φ) ∧ (z = false → DM X m b δ Φ)) : DM X m (.IfExp c a b pos) δ Φ := .mk fun Bs B Hs H σ o Q q =>
  WE.of (pe_ifExp pt_W pe_W pe_W) (h Bs B Hs H σ o _ fun z Hs' H' g p => by
    cases z with
    | true => exact iteT (p.1 rfl Bs B Hs' H' σ (o.mono g) Q fun d v Hs2 H2 g2 p r => q d v Hs2 H2 (g.trans g2) p r)
    | false => exact iteF (p.2 rfl Bs B Hs' H' σ (o.mono g) Q fun d v Hs2 H2 g2 p r => q d v Hs2 H2 (g.trans g2) p r))
end
end DL

/-! DL3: arguments, displays, places, slices, calls, methods, loops, comprehensions, statements, defs. -/
namespace DL
open PySem PySem.Spec PyProof.Rows L2
section
variable {M : Md} {X : Cx} {k : Nat} {N : List Str} {sc cs : Scope} {δ δ' : Sg} {m : Bool} {Φ Ψ : Da → Prop} {x : Str} {pos p2 p3 apos : Pos} {e a b o : Expr} {es : List Expr}

/-! ### argument lists -/
theorem da_nil {Φ : List Da → Prop} (h : Φ []) : DA X [] [] δ Φ := .mk fun Bs B Hs H σ o Q q => WA.of pa_nil (q [] [] Hs H (Go.refl o.sub) h .nil)
theorem da_cons {ms : List Bool} {Φ : List Da → Prop} (h : DM X m e δ fun d => DA X ms es δ fun ds => Φ (d :: ds)) (hs : starEach (e :: es) X.env = (false, eval e X.env) :: starEach es X.env := by rfl) : DA X (m :: ms) (e :: es) δ Φ := .mk fun Bs B Hs H σ o Q q =>
  WA.of (pa_cons pe_W pa_W hs) (h Bs B Hs H σ o _ fun d v Hs1 H1 g1 hb r1 => hb Bs B Hs1 H1 σ (o.mono g1) _ fun ds vs Hs2 H2 g2 p r2 => q _ _ Hs2 H2 (g1.trans g2) p (.cons (r1.mono g2) r2))
/-- .. all stable -/
structure DAt (X : Cx) (es : List Expr) (δ : Sg) (Φ : List Da → Prop) : Prop where
  run : ∀ Bs B Hs H σ, Ok X.K Bs B Hs H σ δ → ∀ Q : List V → Hp → Prop, (∀ ds vs Hs' H', Go Hs H Hs' H' → Φ ds → RpAll X.K Hs' ds vs → ds.length = es.length → Q vs H') → WA X es σ H Q
instance {X : Cx} {es : List Expr} {δ : Sg} {Φ : List Da → Prop} : CoeFun (DAt X es δ Φ) (fun _ => ∀ Bs B Hs H σ, Ok X.K Bs B Hs H σ δ → ∀ Q : List V → Hp → Prop, (∀ ds vs Hs' H', Go Hs H Hs' H' → Φ ds → RpAll X.K Hs' ds vs → ds.length = es.length → Q vs H') → WA X es σ H Q) := ⟨fun h => h.run⟩
theorem dat_nil {Φ : List Da → Prop} (h : Φ []) : DAt X [] δ Φ := .mk fun Bs B Hs H σ o Q q => WA.of pa_nil (q [] [] Hs H (Go.refl o.sub) h .nil rfl)
theorem dat_cons {Φ : List Da → Prop} (h : DE X e δ fun d => DAt X es δ fun ds => Φ (d :: ds)) (hs : starEach (e :: es) X.env = (false, eval e X.env) :: starEach es X.env := by rfl) : DAt X (e :: es) δ Φ := .mk fun Bs B Hs H σ o Q q =>
  WA.of (pa_cons pe_W pa_W hs) (h Bs B Hs H σ o _ fun d v Hs1 H1 g1 hb r1 => hb Bs B Hs1 H1 σ (o.mono g1) _ fun ds vs Hs2 H2 g2 p r2 hl => q _ _ Hs2 H2 (g1.trans g2) p (.cons (Rp.mono g2.ss r1) r2) (by simp [hl]))
/-! ### displays -/
theorem de_tup {j} (h : DAt X es δ fun ds => Φ (.tup ds)) (hl : es.length ≤ sizeLine := by decide) : DM X m (.Tuple es j pos) δ Φ := DM.of <| .mk fun Bs B Hs H σ o Q q =>
  WE.of (pe_tup pa_W) (h Bs B Hs H σ o _ fun ds vs Hs1 H1 g1 p r hd => ⟨by rw [← r.len, hd]; exact hl, fun a ha => q _ _ _ _ (g1.trans (Go.new g1.sub ha)) p (.tup upd_same (r.mono (same_upd (g1.sub.free ha))))⟩)
theorem de_lst (h : DAt X es δ fun ds => Φ (.lst ds)) (hl : es.length ≤ sizeLine := by decide) : DM X m (.List es pos) δ Φ := DM.of <| .mk fun Bs B Hs H σ o Q q =>
  WE.of (pe_lst pa_W) (h Bs B Hs H σ o _ fun ds vs Hs1 H1 g1 p r hd => ⟨by rw [← r.len, hd]; exact hl, fun a ha => q _ _ _ _ (g1.trans (Go.new g1.sub ha)) p (.lst upd_same (r.mono (same_upd (g1.sub.free ha))))⟩)

/-! ### a[b] -/
def rIW (X : Cx) (f : Expr → Expr → Prop) : R2 := fun x y H Q => ∀ (value slice : Expr) pins s σ v u, Inv X pins σ H s → RelV x v → RelV y u →
  subscripted slice false v u = operate [v, u] (getItem v u) → wpAny (model X.prog X.w) X.A (subscriptTail value slice v u) (EP X pins σ Q) X.xe s
abbrev rIx0 (X : Cx) : R2 := rIW X fun _ _ => True
theorem rIx0_ok : IxR X (rIx0 X) := fun value slice pins s σ H x y v u Q I rx ry h hs => h value slice pins s σ v u I rx ry hs
theorem rIx0_of {r : R2} (h : IxR X r) {x y : V} {H : Hp} {Q : VK} (q : r x y H Q) : rIx0 X x y H Q := fun value slice pins s σ v u I rx ry hs => h value slice pins s σ H x y v u Q I rx ry q hs
theorem ix_dict (hu : X.A.units + 1 < cLine) : IxR X (fun x y H Q => ∃ a v, x = .ref a ∧ DGet H a y (some v) ∧ Q v H) := by
  rintro value slice pins s σ H x y _ u Q I rx ry ⟨a, z, rfl, g, q⟩ hs
  cases rx
  have hT := dict_typeIs I g
  unfold subscriptTail
  apply wpAny_bind
  rw [getitemInPython_of_ne (hT.not_modules)]
  refine wpAny_bind (wpAny_specialOf hT PySem.F.slot_dict_getitem.lookup ?_)
  have fin : wpAny (model X.prog X.w) X.A (subscripted slice false (.ref a) u) (fun r s₃ => wpAny (model X.prog X.w) X.A (letTemporaryGo value (.ref a) r >>= fun _ => pure r) (EP X pins σ Q) X.xe s₃) X.xe s := by
    rw [hs]
    exact wpAny_operating (wpAny_mono (d_getItem hu I g ry fun w' s3 I3 rw' => (⟨z, H, I3, rw', q⟩ : EP X pins σ Q w' s3)) (fun r s₃ h₃ => wpAny_bind (wpAny_letTemporaryGo (wpAny_pure h₃))) fun _ _ x => x)
  have fin2 := wpAny_bind fin
  first | exact wpAny_pure fin2 | exact wpAny_bind (wpAny_pure fin2) | exact fin2
/-- draws[0], draws[1]: a whole number -/
theorem ix_drw : IxR X (fun x y H Q => ∃ p i, x = .ref p ∧ H p = some (.ext (Drw p)) ∧ y = .int i ∧ (i = 0 ∨ i = 1) ∧ ∀ z, (i = 1 → 0 ≤ z ∧ z < 2147483648) → Q (.int z) H) := by
  rintro value slice pins s σ H x y v u Q I rx ry ⟨p, i, rfl, hp, rfl, hi, q⟩ hs
  cases rx
  obtain ⟨t, rfl⟩ := ry
  obtain ⟨⟨n, a, b, ta, tb, ho, hb⟩, _, _⟩ := I.hok p _ hp
  have hl : s.heap.IsList p #[.int a ta, .int b tb] := ⟨_, ho, rfl, n, rfl⟩
  rcases hi with rfl | rfl
  · exact item_listR hl (by decide) (by decide) rfl ⟨.int a, H, I, ⟨_, rfl⟩, q a (fun z => nomatch z)⟩ hs
  · exact item_listR hl (by decide) (by decide) rfl ⟨.int b, H, I, ⟨_, rfl⟩, q b (fun _ => hb)⟩ hs
inductive IxW (Φ : Da → Prop) : Da → Da → Prop
  | lst {l : List Da} {i : Int} {d : Da} : atI l i = some d → Φ d → IxW Φ (.lst l) (.int i)
  | tup {l : List Da} {i : Int} {d : Da} : atI l i = some d → Φ d → IxW Φ (.tup l) (.int i)
  | str {z : Str} {i : Int} {c : Nat} : z.length ≤ sizeLine → atI z.cps.toList i = some c → Φ (.str ⟨#[c]⟩) → IxW Φ (.str z) (.int i)
  | drw {i : Int} : (i = 0 ∨ i = 1) → (∀ z, (i = 1 → 0 ≤ z ∧ z < 2147483648) → Φ (.int z)) → IxW Φ .drw (.int i)
  | scr {ns : List Int} {i z : Int} : atI ns i = some z → Φ (.int z) → IxW Φ (.scr ns) (.int i)
  | dk {kvs : List (Key × V)} {y : V} {q : Key} {v : V} : y = kV q → valV kvs q = some v → Φ (.a v) → IxW Φ (.dk kvs) (.a y)
  | dt {kvs : List (List Key × V)} {ks : List Da} {q : List Key} {v : V} : ks = (q.map kV).map Da.a → valV kvs q = some v → Φ (.a v) → IxW Φ (.dt kvs) (.tup ks)
theorem atI_rp {K : PySem.W.Frag} {H : Hp} {l : List Da} {vs : List V} {i : Int} {d : Da} (r : RpAll K H l vs) (h : atI l i = some d) : ∃ v, atI vs i = some v ∧ Rp K H d v := by
  unfold atI at h ⊢
  rw [← r.len]
  cases e : ixN l.length i with
  | none => rw [e] at h; cases h
  | some j =>
    rw [e] at h
    exact r.get h
theorem ix_run (S : Sc M X k N sc cs) {x y : Da} {Hc Hs H : Hp} {v w : V} (h : IxW Φ x y) (e1 : Same Hc H) (e2 : Same Hs H) (rx : Rp X.K Hc x v) (ry : Rp X.K Hs y w) {Q : VK} (q : ∀ d z, Φ d → Rp X.K Hc d z → Q z H) : rIx0 X v w H Q := by
  have hu : X.A.units + 1 < cLine := by have := S.room.units; omega
  cases h with
  | lst h p =>
    obtain ⟨a, vs, rfl, ha, r⟩ := rx.lst_inv
    cases ry.atom
    obtain ⟨z, hz, rz⟩ := atI_rp r h
    exact rIx0_of ix_list ⟨a, vs, _, z, rfl, rfl, .of (e1 _ _ ha), hz, q _ _ p rz⟩
  | tup h p =>
    obtain ⟨a, vs, rfl, ha, r⟩ := rx.tup_inv
    cases ry.atom
    obtain ⟨z, hz, rz⟩ := atI_rp r h
    exact rIx0_of ix_tup ⟨a, vs, _, z, rfl, rfl, .of (e1 _ _ ha), hz, q _ _ p rz⟩
  | str hl h p =>
    cases rx.atom
    cases ry.atom
    exact rIx0_of ix_str ⟨_, _, _, rfl, rfl, hl, h, q _ _ p (.a _)⟩
  | scr hz p =>
    cases ry.atom
    cases rx with
    | scr ha =>
      refine rIx0_of ix_list ⟨_, _, _, .int _, rfl, rfl, sqlS e1 ha, ?_, q _ _ p (.a _)⟩
      unfold atI at hz ⊢
      rw [List.length_map]
      cases hh : ixN _ _ with
      | none => rw [hh] at hz; cases hz
      | some j =>
        rw [hh] at hz
        have hz' : _ = _ := hz
        show (List.map V.int _)[j]? = _
        rw [List.getElem?_map]
        have hz2 := hz
        simp only [Option.bind_some] at hz2
        rw [hz2]
        rfl
  | drw hi p =>
    obtain ⟨a, rfl, ha⟩ := rx.drw_inv
    cases ry.atom
    exact rIx0_of ix_drw ⟨a, _, rfl, e1 _ _ ha, rfl, hi, fun z hz => q _ _ (p z hz) (.a _)⟩
  | dk ey h p =>
    obtain ⟨a, rfl, ha⟩ := rx.dk_inv
    cases ry.atom
    subst ey
    exact rIx0_of (ix_dict hu) ⟨a, _, rfl, .inl ⟨_, _, .inl (e1 _ _ ha), rfl, h.symm⟩, q _ _ p (.a _)⟩
  | dt ey h p =>
    obtain ⟨a, rfl, ha⟩ := rx.dt_inv
    obtain ⟨b, vs, rfl, hb, r⟩ := ry.tup_inv
    subst ey
    rw [r.atoms] at hb
    exact rIx0_of (ix_dict hu) ⟨a, _, rfl, .inr ⟨_, _, b, rdS e1 ha, rfl, e2 _ _ hb, h.symm⟩, q _ _ p (.a _)⟩
theorem de_ix (S : Sc M X k N sc cs) (h : DM X m a δ fun x => DE X b δ fun y => IxW Φ x y) (hs : PlainIx b := by intro _ _; rfl) : DM X m (.Subscript a b pos) δ Φ := .mk fun Bs B Hs H σ o Q q =>
  WE.of (pe_ix rIx0_ok pe_W pe_W hs) (h Bs B Hs H σ o _ fun x v Hs1 H1 g1 hb r1 => hb Bs B Hs1 H1 σ (o.mono g1) _ fun y w Hs2 H2 g2 p r2 => by
    cases m with
    | true => exact ix_run S p g2.sub g2.sub (Rp.mono g2.ss r1) r2 fun d z pd rd => q d z Hs2 H2 (g1.trans g2) pd rd
    | false => exact ix_run S p (Same.refl _) g2.sub (Rp.mono g2.hh r1) r2 fun d z pd rd => q d z Hs2 H2 (g1.trans g2) pd rd)
/-- of an own object, an atom -/
theorem de_ixA (S : Sc M X k N sc cs) (h : DV X a δ fun x => DE X b δ fun y => IxW (fun d => ∃ v, d = .a v ∧ Φ (.a v)) x y) (hs : PlainIx b := by intro _ _; rfl) : DM X m (.Subscript a b pos) δ Φ := DM.of <| .mk fun Bs B Hs H σ o Q q =>
  WE.of (pe_ix rIx0_ok pe_W pe_W hs) (h Bs B Hs H σ o _ fun x v Hs1 H1 g1 hb r1 => hb Bs B Hs1 H1 σ (o.mono g1) _ fun y w Hs2 H2 g2 p r2 =>
    ix_run S p (Same.refl _) g2.sub (Rp.mono g2.hh r1) r2 fun d z ⟨v, e1, pd⟩ rd => by
      subst e1
      cases rd.atom
      exact q _ _ Hs2 H2 (g1.trans g2) pd (.a _))
/-- an item of an own list -/
theorem de_ixO (S : Sc M X k N sc cs) {l : List Da} (hg : Gt N δ x (.ol l)) (hv : visB sc x = true) (h : DE X b δ fun y => ∃ i d, y = .int i ∧ atI l i = some d ∧ Φ d) (hs : PlainIx b := by intro _ _; rfl) : DM X m (.Subscript (.Name x p2) b pos) δ Φ := DM.of <| .mk fun Bs B Hs H σ o Q q => by
  obtain ⟨i, h1, h2⟩ := hg.at
  obtain ⟨v, h3, p, vs, rfl, e1, e2, r⟩ := o.slot i _ h2
  obtain ⟨v1, v2, v3⟩ := visB_ok hv
  refine WE.of (pe_ix rIx0_ok (pe_var (i := i) (by rw [S.n]; exact h1) (by rw [S.hsc]; exact v1) v2 v3) pe_W hs) ⟨_, h3, h Bs B Hs H σ o _ fun y w Hs2 H2 g2 ⟨j, d, ey, hj, pd⟩ r2 => ?_⟩
  subst ey
  cases r2.atom
  obtain ⟨z, hz, rz⟩ := atI_rp r hj
  exact rIx0_of ix_list ⟨p, vs, _, z, rfl, rfl, .of (g2.hh _ _ e2), hz, q d z Hs2 H2 g2 pd (Rp.mono g2.ss rz)⟩

/-! ### slices -/
def DP (X : Cx) (o : Option Expr) (δ : Sg) (Φ : Option Int → Prop) : Prop := match o with
  | none => Φ none
  | some e => DE X e δ fun d => ∃ i, d = .int i ∧ Φ (some i)
def WP (X : Cx) (o : Option Expr) : TO := match o with
  | none => tNoPart
  | some e => tPart (WE X e)
theorem po_W {o : Option Expr} : PO X o (WP X o) := by
  cases o with
  | none => exact po_none
  | some e => exact po_some pe_W
theorem DP.run {oo : Option Expr} {Φ : Option Int → Prop} (h : DP X oo δ Φ) {Bs B Hs H : Hp} {σ : L2.St} (o : Ok X.K Bs B Hs H σ δ) {Q : Option Int → Hp → Prop} (q : ∀ i Hs' H', Go Hs H Hs' H' → Φ i → Q i H') : WP X oo σ H Q := by
  cases oo with
  | none => exact q none Hs H (Go.refl o.sub) h
  | some e =>
    refine (show DE X e δ _ from h) Bs B Hs H σ o _ fun d v Hs' H' g ⟨i, e1, p⟩ r => ?_
    subst e1
    cases r.atom
    exact ⟨i, rfl, q _ Hs' H' g p⟩
def cutL {α : Type} (xs : List α) (lo hi : Option Int) : List α := (xs.drop (HT.sIx xs.length 0 lo)).take (HT.sIx xs.length xs.length hi - HT.sIx xs.length 0 lo)
def rSW (X : Cx) : V → Option Int → Option Int → Hp → VK → Prop := fun x lo hi H Q => ∀ pins s σ v vl vu sl, Inv X pins σ H s → RelV x v → s.heap.IsSliceOf sl vl vu .none → IsPart vl lo → IsPart vu hi →
    ∃ T id, typeLookup (.type T) "__getitem__" = pure (some (.builtin id)) ∧ s.TypeIs v T ∧ wpAny (model X.prog X.w) X.A (getItem v (.ref sl)) (EP X pins σ Q) X.xe s
theorem rSW_ok : SlR X (rSW X) := fun pins s σ H x v vl vu lo hi sl Q I rx hs pl pu h => h pins s σ v vl vu sl I rx hs pl pu
theorem rSW_of {r : V → Option Int → Option Int → Hp → VK → Prop} (h : SlR X r) {x : V} {lo hi : Option Int} {H : Hp} {Q : VK} (q : r x lo hi H Q) : rSW X x lo hi H Q := fun pins s σ v vl vu sl I rx hs pl pu => h pins s σ H x v vl vu lo hi sl Q I rx hs pl pu q
inductive SlW (Φ : Da → Prop) (lo hi : Option Int) : Da → Prop
  | str {z : Str} : z.length ≤ sizeLine → Φ (.str (cutS z lo hi)) → SlW Φ lo hi (.str z)
  | lst {l : List Da} : Φ (.lst (cutL l lo hi)) → SlW Φ lo hi (.lst l)
  | tup {l : List Da} : Φ (.tup (cutL l lo hi)) → SlW Φ lo hi (.tup l)
theorem cutL_rp {K : PySem.W.Frag} {H : Hp} {l : List Da} {vs : List V} {lo hi : Option Int} (r : RpAll K H l vs) : RpAll K H (cutL l lo hi) (cutV vs lo hi) := by
  unfold cutL cutV
  rw [r.len]
  exact (r.drop _).take _
theorem de_slice {lo hi : Option Expr} (h : DE X a δ fun x => DP X lo δ fun l => DP X hi δ fun u => SlW Φ l u x) : DM X m (.Subscript a (.Slice lo hi none p2) pos) δ Φ := DM.of <| .mk fun Bs B Hs H σ o Q q =>
  WE.of (pe_slice rSW_ok pe_W po_W po_W) (h Bs B Hs H σ o _ fun x v Hs1 H1 g1 h1 r1 => h1.run (o.mono g1) fun l Hs2 H2 g2 h2 => h2.run ((o.mono g1).mono g2) fun u Hs3 H3 g3 h3 => by
    have r := Rp.mono (g2.trans g3).ss r1
    have g := (g1.trans g2).trans g3
    cases h3 with
    | str hl p => cases r.atom; exact rSW_of sl_str ⟨_, rfl, hl, q _ _ Hs3 H3 g p (.a _)⟩
    | lst p =>
      obtain ⟨a, vs, rfl, ha, ra⟩ := r.lst_inv
      exact rSW_of sl_list ⟨a, vs, rfl, .of (g3.sub _ _ ha), fun b hb => q _ _ _ _ (g.trans (Go.new g.sub hb)) p (.lst upd_same ((cutL_rp ra).mono (same_upd (g.sub.free hb))))⟩
    | @tup l' p =>
      obtain ⟨a, vs, rfl, ha, ra⟩ := r.tup_inv
      refine rSW_of sl_tupA ⟨a, vs, rfl, .of (g3.sub _ _ ha), fun z => q _ _ Hs3 H3 g p ?_, fun _ b hb => q _ _ _ _ (g.trans (Go.new g.sub hb)) p (.tup upd_same ((cutL_rp ra).mono (same_upd (g.sub.free hb))))⟩
      have e : cutL l' l u = l' := by
        unfold cutL
        rw [ra.len, z.1, z.2, Nat.sub_zero, List.drop_zero, ← ra.len, List.take_length]
      rw [e]
      exact .tup ha ra)

/-! ### calls of built-in functions -/
def rCW (X : Cx) (f : Value) : List V → Hp → VK → Prop := fun xs H Q => ∀ pins s σ us, Inv X pins σ H s → Vals xs us → wpAny (model X.prog X.w) X.A (call f us) (EP X pins σ Q) X.xe s
theorem rCW_ok {f : Value} : CallR X f (rCW X f) := fun pins s σ H xs us Q I r h => h pins s σ us I r
theorem rCW_of {f : Value} {r : List V → Hp → VK → Prop} (h : CallR X f r) {xs : List V} {H : Hp} {Q : VK} (q : r xs H Q) : rCW X f xs H Q := fun pins s σ us I rr => h pins s σ H xs us Q I rr q
def BW (X : Cx) (f : Value) (ds : List Da) (Φ : Da → Prop) : Prop := ∀ Hs H vs, Same Hs H → RpAll X.K Hs ds vs → ∀ Q : VK, (∀ d z Hs' H', Go Hs H Hs' H' → Φ d → Rp X.K Hs' d z → Q z H') → rCW X f vs H Q
theorem de_callB (S : Sc M X k N sc cs) {id : String} (hm : M.mg x = none) (hv : bootBuiltins x = some (.builtin id)) (hg : glB sc x = true) (h : DAt X (e :: es) δ fun ds => BW X (.builtin id) ds Φ)
    (he : starEach (e :: es) X.env = (false, eval e X.env) :: starEach es X.env := by rfl) (hpl : (backTo pos (starEach es X.env)).any (·.1) = false := by rfl) : DM X m (.Call (.Name x p2) (e :: es) [] pos) δ Φ := DM.of <| .mk fun Bs B Hs H σ o Q q => by
  obtain ⟨g1, g2, g3⟩ := glB_ok hg
  exact WE.of (pe_callB rCW_ok (by show X.env.scope.names.lookup x = _; rw [S.hsc]; exact g1) (by rw [S.hmg]; exact hm) hv pa_W g3 g2 he hpl) (h Bs B Hs H σ o _ fun ds vs Hs1 H1 gg p r _ => p Hs1 H1 vs gg.sub r Q fun d z Hs' H' g' pd rd => q d z Hs' H' (gg.trans g') pd rd)
theorem de_callTy (S : Sc M X k N sc cs) {T : String} (hm : M.mg x = none) (hv : bootBuiltins x = some (.type T)) (hg : glB sc x = true) (h : DAt X (e :: es) δ fun ds => BW X (.type T) ds Φ)
    (he : starEach (e :: es) X.env = (false, eval e X.env) :: starEach es X.env := by rfl) (hpl : (backTo pos (starEach es X.env)).any (·.1) = false := by rfl) : DM X m (.Call (.Name x p2) (e :: es) [] pos) δ Φ := DM.of <| .mk fun Bs B Hs H σ o Q q => by
  obtain ⟨g1, g2, g3⟩ := glB_ok hg
  exact WE.of (pe_callTy rCW_ok (by show X.env.scope.names.lookup x = _; rw [S.hsc]; exact g1) (by rw [S.hmg]; exact hm) hv pa_W g3 g2 he hpl) (h Bs B Hs H σ o _ fun ds vs Hs1 H1 gg p r _ => p Hs1 H1 vs gg.sub r Q fun d z Hs' H' g' pd rd => q d z Hs' H' (gg.trans g') pd rd)
theorem bw_atoms {f : Value} {r : List V → Hp → VK → Prop} (hr : CallR X f r) {xs : List V} {z : V} (hq : ∀ (H : Hp) (Q : VK), Q z H → r xs H Q) (h : Φ (.a z)) : BW X f (xs.map Da.a) Φ := fun Hs H vs e rr Q q => by
  rw [rr.atoms]
  exact rCW_of hr (hq H Q (q _ _ Hs H (Go.refl e) h (.a _)))
theorem bw_lenS {z : Str} (hl : z.length ≤ sizeLine) (h : Φ (.int z.length)) : BW X (.builtin "len") [.str z] Φ := bw_atoms (xs := [.str z]) call_len_str (fun H Q q => ⟨z, rfl, hl, q⟩) h
theorem bw_lenL {l : List Da} (h : Φ (.int l.length)) : BW X (.builtin "len") [.lst l] Φ := fun Hs H vs e rr Q q => by
  cases rr with
  | cons r t =>
    cases t
    obtain ⟨a, ws, rfl, ha, ra⟩ := r.lst_inv
    exact rCW_of call_len_seq ⟨a, ws, rfl, .inl (.of (e _ _ ha)), q _ _ Hs H (Go.refl e) h (by rw [ra.len]; exact .a _)⟩
theorem bw_lenT {l : List Da} (h : Φ (.int l.length)) : BW X (.builtin "len") [.tup l] Φ := fun Hs H vs e rr Q q => by
  cases rr with
  | cons r t =>
    cases t
    obtain ⟨a, ws, rfl, ha, ra⟩ := r.tup_inv
    exact rCW_of call_len_seq ⟨a, ws, rfl, .inr (.of (e _ _ ha)), q _ _ Hs H (Go.refl e) h (by rw [ra.len]; exact .a _)⟩
theorem bw_lenC {l : List Int} (h : Φ (.int l.length)) : BW X (.builtin "len") [.scr l] Φ := fun Hs H vs e rr Q q => by
  cases rr with
  | cons r t =>
    cases t
    cases r with
    | scr ha =>
      exact rCW_of call_len_seq ⟨_, _, rfl, .inl (sqlS e ha), q _ _ Hs H (Go.refl e) h (by rw [List.length_map]; exact .a _)⟩
theorem bw_max (S : Sc M X k N sc cs) {i j : Int} (h : Φ (.int (if j > i then j else i))) : BW X (.builtin "max") [.int i, .int j] Φ := bw_atoms (xs := [.int i, .int j]) (call_max2 S.calm) (fun H Q q => ⟨_, _, rfl, q⟩) h
theorem bw_min (S : Sc M X k N sc cs) {i j : Int} (h : Φ (.int (if j < i then j else i))) : BW X (.builtin "min") [.int i, .int j] Φ := bw_atoms (xs := [.int i, .int j]) (call_min2 S.calm) (fun H Q q => ⟨_, _, rfl, q⟩) h
theorem bw_abs {i : Int} (h : Φ (.int (if i < 0 then -i else i))) : BW X (.builtin "abs") [.int i] Φ := bw_atoms (xs := [.int i]) call_abs (fun H Q q => ⟨_, rfl, q⟩) h
theorem bw_intB {c : Bool} (h : Φ (.int (if c then 1 else 0))) : BW X (.type "int") [.bl c] Φ := bw_atoms (xs := [.bl c]) call_int1 (fun H Q q => .inr ⟨_, rfl, q⟩) h
theorem bw_tupleL {l : List Da} (h : Φ (.tup l)) : BW X (.type "tuple") [.lst l] Φ := fun Hs H vs e rr Q q => by
  cases rr with
  | cons r t =>
    cases t
    obtain ⟨a, ws, rfl, ha, ra⟩ := r.lst_inv
    exact rCW_of call_tuple_of ⟨a, ws, rfl, .inl ⟨.of (e _ _ ha), fun b hb => q _ _ _ _ (Go.new e hb) h (.tup upd_same (ra.mono (same_upd (e.free hb))))⟩⟩
theorem bw_tupleT {l : List Da} (h : Φ (.tup l)) : BW X (.type "tuple") [.tup l] Φ := fun Hs H vs e rr Q q => by
  cases rr with
  | cons r t =>
    cases t
    obtain ⟨a, ws, rfl, ha, ra⟩ := r.tup_inv
    exact rCW_of call_tuple_of ⟨a, ws, rfl, .inr ⟨.of (e _ _ ha), q _ _ Hs H (Go.refl e) h r⟩⟩
theorem bw_listL {l : List Da} (h : Φ (.lst l)) : BW X (.type "list") [.lst l] Φ := fun Hs H vs e rr Q q => by
  cases rr with
  | cons r t =>
    cases t
    obtain ⟨a, ws, rfl, ha, ra⟩ := r.lst_inv
    exact rCW_of call_list_of ⟨a, ws, rfl, .inl (.of (e _ _ ha)), fun b hb => q _ _ _ _ (Go.new e hb) h (.lst upd_same (ra.mono (same_upd (e.free hb))))⟩
theorem bw_listT {l : List Da} (h : Φ (.lst l)) : BW X (.type "list") [.tup l] Φ := fun Hs H vs e rr Q q => by
  cases rr with
  | cons r t =>
    cases t
    obtain ⟨a, ws, rfl, ha, ra⟩ := r.tup_inv
    exact rCW_of call_list_of ⟨a, ws, rfl, .inr (.of (e _ _ ha)), fun b hb => q _ _ _ _ (Go.new e hb) h (.lst upd_same (ra.mono (same_upd (e.free hb))))⟩
theorem bw_all (S : Sc M X k N sc cs) {bs : List Bool} (h : Φ (.bl (bs.all id))) : BW X (.builtin "all") [.lst (bs.map Da.bl)] Φ := fun Hs H vs e rr Q q => by
  cases rr with
  | cons r t =>
    cases t
    obtain ⟨a, ws, rfl, ha, ra⟩ := r.lst_inv
    have e1 : bs.map Da.bl = (bs.map V.bl).map Da.a := by rw [List.map_map]; rfl
    rw [e1] at ra
    rw [ra.atoms] at ha
    exact rCW_of (cr_all S.calm) ⟨a, bs, rfl, .of (e _ _ ha), q _ _ Hs H (Go.refl e) h (.a _)⟩
theorem bw_any (S : Sc M X k N sc cs) {bs : List Bool} (h : Φ (.bl (bs.any id))) : BW X (.builtin "any") [.lst (bs.map Da.bl)] Φ := fun Hs H vs e rr Q q => by
  cases rr with
  | cons r t =>
    cases t
    obtain ⟨a, ws, rfl, ha, ra⟩ := r.lst_inv
    have e1 : bs.map Da.bl = (bs.map V.bl).map Da.a := by rw [List.map_map]; rfl
    rw [e1] at ra
    rw [ra.atoms] at ha
    exact rCW_of (cr_any S.calm) ⟨a, bs, rfl, .of (e _ _ ha), q _ _ Hs H (Go.refl e) h (.a _)⟩

/-! ### methods of built-in types -/
def rMW (X : Cx) (id : String) : V → List V → Hp → VK → Prop := fun x xs H Q => ∀ pins s σ v us, Inv X pins σ H s → RelV x v → Vals xs us → wpAny (model X.prog X.w) X.A (call (.builtin id) (v :: us)) (EP X pins σ Q) X.xe s
theorem rMW_ok {id : String} : MtR X id (rMW X id) := fun pins s σ H x xs v us Q I rx r h => h pins s σ v us I rx r
theorem rMW_of {id : String} {r : V → List V → Hp → VK → Prop} (h : MtR X id r) {x : V} {xs : List V} {H : Hp} {Q : VK} (q : r x xs H Q) : rMW X id x xs H Q := fun pins s σ v us I rx rr => h pins s σ H x xs v us Q I rx rr q
def MW (X : Cx) (id : String) (x : Da) (ds : List Da) (Φ : Da → Prop) : Prop := ∀ Hs H v vs, Same Hs H → Rp X.K H x v → RpAll X.K Hs ds vs → ∀ Q : VK, (∀ d z Hs' H', Go Hs H Hs' H' → Φ d → Rp X.K Hs' d z → Q z H') → rMW X id v vs H Q
def TyW (X : Cx) (T : String) (x : Da) : Prop := ∀ H v, Rp X.K H x v → tyV X.K T v H
theorem tyw_str {z : Str} : TyW X "str" (.str z) := fun H v r => by cases r.atom; exact rfl
theorem tyw_lst {l : List Da} : TyW X "list" (.lst l) := fun H v r => by
  obtain ⟨a, ws, rfl, ha, ra⟩ := r.lst_inv
  exact .inl ⟨rfl, _, .of ha⟩
theorem de_meth {T id : String} {name : Str} (pa : PlainAttrs T) (slot : Slot T name id) (hty : typeOf (.builtin id) = pure (.type "method_descriptor")) (h : DV X o δ fun x => TyW X T x ∧ DAt X (e :: es) δ fun ds => MW X id x ds Φ)
    (hbase : attributeBase o name X.env (eval o X.env) = eval o X.env := by rfl)
    (hfew : ((backTo pos (starEach (e :: es) X.env)).all (fun x => !x.1) && (backToKw pos (keywordEach [] X.env)).all (fun x => x.1.isSome)
      && decide ((e :: es).length + ([] : List Keyword).length + (if ([] : List Keyword).isEmpty then 0 else 1) < 30)) = true := by rfl)
    (hline : (apos.endLine == pos.line) = true := by rfl) (hs : starEach (e :: es) X.env = (false, eval e X.env) :: starEach es X.env := by rfl) (hplain : (backTo pos (starEach es X.env)).any (·.1) = false := by rfl) :
    DM X m (.Call (.Attribute o name apos) (e :: es) [] pos) δ Φ := DM.of <| .mk fun Bs B Hs H σ ok Q q =>
  WE.of (pe_bm pa slot hty rMW_ok pe_W pa_W hbase hfew hline hs hplain) (h Bs B Hs H σ ok _ fun x v Hs1 H1 g1 ⟨ty, h1⟩ r1 => ⟨ty H1 v r1, h1 Bs B Hs1 H1 σ (ok.mono g1) _ fun ds vs Hs2 H2 g2 p r2 _ =>
    p Hs2 H2 v vs g2.sub (Rp.mono g2.hh r1) r2 Q fun d z Hs' H' g' pd rd => q d z Hs' H' ((g1.trans g2).trans g') pd rd⟩)
theorem de_meth0 {T id : String} {name : Str} (pa : PlainAttrs T) (slot : Slot T name id) (hty : typeOf (.builtin id) = pure (.type "method_descriptor")) (h : DV X o δ fun x => TyW X T x ∧ MW X id x [] Φ)
    (hbase : attributeBase o name X.env (eval o X.env) = eval o X.env := by rfl) (hline : (apos.endLine == pos.line) = true := by rfl) :
    DM X m (.Call (.Attribute o name apos) [] [] pos) δ Φ := DM.of <| .mk fun Bs B Hs H σ ok Q q =>
  WE.of (pe_bm0 pa slot hty rMW_ok pe_W hbase hline) (h Bs B Hs H σ ok _ fun x v Hs1 H1 g1 ⟨ty, h1⟩ r1 => ⟨ty H1 v r1, h1 Hs1 H1 v [] g1.sub r1 .nil Q fun d z Hs' H' g' pd rd => q d z Hs' H' (g1.trans g') pd rd⟩)
theorem mw_atoms {id : String} {r : V → List V → Hp → VK → Prop} (hr : MtR X id r) {x : V} {xs : List V} {z : V} (hq : ∀ (H : Hp) (Q : VK), Q z H → r x xs H Q) (h : Φ (.a z)) : MW X id (.a x) (xs.map Da.a) Φ := fun Hs H v vs e rx rr Q q => by
  rw [rr.atoms]
  cases rx.atom
  exact rMW_of hr (hq H Q (q _ _ Hs H (Go.refl e) h (.a _)))
theorem mw_upper {z : Str} (hl : z.length ≤ 5592405) (h : Φ (.str (Txt.upper z))) : MW X "str.upper" (.str z) [] Φ := mw_atoms (xs := []) mt_upper (fun H Q q => ⟨_, rfl, rfl, hl, q⟩) h
theorem mw_lower {z : Str} (hl : z.length ≤ 5592405) (h : Φ (.str (Txt.lower z))) : MW X "str.lower" (.str z) [] Φ := mw_atoms (xs := []) mt_lower (fun H Q q => ⟨_, rfl, rfl, hl, q⟩) h
theorem mw_sindex {z y : Str} {i : Nat} {rest : List Nat} (ho : Builtin.Str.occurrences z y 0 z.length 1 = i :: rest) (h : Φ (.int i)) : MW X "str.index" (.str z) [.str y] Φ := mw_atoms (xs := [.str y]) mt_sindex (fun H Q q => ⟨_, _, i, rest, rfl, rfl, ho, q⟩) h
theorem mw_scount {z y : Str} (h : Φ (.int (Txt.count z y))) : MW X "str.count" (.str z) [.str y] Φ := mw_atoms (xs := [.str y]) mt_count (fun H Q q => ⟨_, _, rfl, rfl, q⟩) h
theorem mw_joinL {z : Str} {ys : List Str} (hl : (ys.map (·.length)).sum + ys.length * z.length ≤ 16777216) (h : Φ (.str (Txt.join z ys))) : MW X "str.join" (.str z) [.lst (ys.map Da.str)] Φ := fun Hs H v vs e rx rr Q q => by
  cases rx.atom
  cases rr with
  | cons r t =>
    cases t
    obtain ⟨a, ws, rfl, ha, ra⟩ := r.lst_inv
    have e1 : ys.map Da.str = (ys.map V.str).map Da.a := by rw [List.map_map]; rfl
    rw [e1] at ra
    rw [ra.atoms] at ha
    exact rMW_of mt_join ⟨_, a, ys, rfl, rfl, .inl (.of (e _ _ ha)), hl, q _ _ Hs H (Go.refl e) h (.a _)⟩
end
end DL

/-! DL4: targets, loops, comprehensions, statements, defs. -/
namespace DL
open PySem PySem.Spec PyProof.Rows L2
section
variable {M : Md} {X : Cx} {k : Nat} {N : List Str} {sc cs : Scope} {δ δ' : Sg} {m : Bool} {Φ Ψ : Da → Prop} {x y : Str} {pos p2 p3 apos : Pos} {e a b o tg it : Expr} {es : List Expr}
  {st : Stmt} {sts : List Stmt} {nx bk ct : Sg → Prop} {rt : Da → Prop}

/-! ### targets -/
theorem keep_set {nm : List Str} {i : Nat} {x : Str} {σ : L2.St} {v : Option V} (h : N[i]? = some x) (hx : x ∈ nm) : Keep N nm σ (σ.set i v) := by
  refine ⟨by simp, fun j hj => ?_⟩
  have : i ≠ j := fun e => hj x (by rw [← e]; exact h) hx
  rw [List.getElem?_set_ne this]
theorem dg_name (S : Sc M X k N sc cs) {d : Da} {Φ : Sg → Prop} (hl : locB cs x = true) (h : ∃ δ', Ss N δ x (some (.d d)) δ' ∧ Φ δ') : DG X (.Name x pos) [x] d δ Φ := .mk fun Bs B Hs H σ v o r Q q => by
  obtain ⟨δ', h1, h2⟩ := h
  obtain ⟨i, h3, rfl⟩ := h1.at
  exact WG.of (pg_name (i := i) (by rw [S.n]; exact S.nd) (by rw [S.n]; exact h3) (S.fn x hl).1 (S.fn x hl).2) (q _ _ Hs H (o.setD i r) (Go.refl o.sub) (by rw [S.n]; exact keep_set h3 (by simp)) h2)
theorem dgs_nil {Φ : Sg → Prop} (h : Φ δ) : DGs X [] [] [] δ Φ := .mk fun Bs B Hs H σ vs o r Q q => by
  cases r
  exact WGs.of pgs_nil ⟨rfl, q δ σ Hs H o (Go.refl o.sub) (Keep.refl _ _ _) h⟩
theorem dgs_cons {nm ns : List Str} {d : Da} {ds : List Da} {Φ : Sg → Prop} (h : DG X e nm d δ fun δ1 => DGs X es ns ds δ1 Φ) (hs : (assignEach (e :: es) X.env).map (·.2) = assign e X.env :: (assignEach es X.env).map (·.2) := by rfl) : DGs X (e :: es) (nm ++ ns) (d :: ds) δ Φ := .mk fun Bs B Hs H σ vs o r Q q => by
  cases r with
  | cons r t =>
    exact WGs.of (pgs_cons pg_W pgs_W hs) ⟨_, _, rfl, h Bs B Hs H σ _ o r _ fun δ1 σ1 Hs1 H1 o1 s1 k1 p1 => p1 Bs B Hs1 H1 σ1 _ o1 (t.mono s1.ss) Q fun δ2 σ2 Hs2 H2 o2 s2 k2 p2 => q δ2 σ2 Hs2 H2 o2 (s1.trans s2) (k1.trans k2) p2⟩
theorem dg_tup (S : Sc M X k N sc cs) {nm : List Str} {ds : List Da} {j : Nat} {Φ : Sg → Prop} (h : DGs X es nm ds δ Φ) (hn : (assignEach es X.env).length = ds.length := by rfl) (hst : (assignEach es X.env).findIdx? (·.1) = none := by rfl) : DG X (.Tuple es j pos) nm (.tup ds) δ Φ := .mk fun Bs B Hs H σ v o r Q q => by
  obtain ⟨a, vs, rfl, ha, ra⟩ := r.tup_inv
  exact WG.of (pg_tup S.calm pgs_W hn hst) ⟨a, vs, rfl, .of (o.sub _ _ ha), by rw [ra.len], h Bs B Hs H σ vs o ra Q q⟩

/-! ### what loops walk -/
theorem di_lst {Φ : List Da → Prop} (h : DE X it δ fun d => ∃ ds, d = .lst ds ∧ Φ ds) : DI X tg it δ Φ := .mk fun Bs B Hs H σ o R q =>
  WI.of (pi_list pe_W) (h Bs B Hs H σ o _ fun d v Hs1 H1 g ⟨ds, e1, p⟩ r => by
    subst e1
    obtain ⟨a, vs, rfl, ha, ra⟩ := r.lst_inv
    refine ⟨a, rfl, ⟨vs, .of (g.sub _ _ ha)⟩, q ds _ (fun H => SqL X.K H a vs) (YAt vs) Hs1 H1 g p (by rw [ra.len]; exact walk_list) (fun Hs2 H2 s1 s2 => .of (s2 _ _ (s1 _ _ ha))) fun i d Hs2 H2 v H3 s1 s2 hi hy => ?_⟩
    obtain ⟨rfl, hv⟩ := hy
    obtain ⟨v', hv', rv⟩ := ra.get hi
    rw [hv] at hv'
    cases hv'
    exact ⟨Hs2, Go.refl s2, rv.mono s1⟩)
theorem di_tup {Φ : List Da → Prop} (h : DE X it δ fun d => ∃ ds, d = .tup ds ∧ Φ ds) : DI X tg it δ Φ := .mk fun Bs B Hs H σ o R q =>
  WI.of (pi_tup pe_W) (h Bs B Hs H σ o _ fun d v Hs1 H1 g ⟨ds, e1, p⟩ r => by
    subst e1
    obtain ⟨a, vs, rfl, ha, ra⟩ := r.tup_inv
    refine ⟨a, rfl, ⟨vs, .of (g.sub _ _ ha)⟩, q ds _ (fun H => SqT X.K H a vs) (YAt vs) Hs1 H1 g p (by rw [ra.len]; exact walk_tup) (fun Hs2 H2 s1 s2 => .of (s2 _ _ (s1 _ _ ha))) fun i d Hs2 H2 v H3 s1 s2 hi hy => ?_⟩
    obtain ⟨rfl, hv⟩ := hy
    obtain ⟨v', hv', rv⟩ := ra.get hi
    rw [hv] at hv'
    cases hv'
    exact ⟨Hs2, Go.refl s2, rv.mono s1⟩)
def chars (z : Str) : List Da := z.cps.toList.map fun c => .str ⟨#[c]⟩
theorem di_str {Φ : List Da → Prop} (h : DE X it δ fun d => ∃ z, d = .str z ∧ Φ (chars z)) : DI X tg it δ Φ := .mk fun Bs B Hs H σ o R q =>
  WI.of (pi_str pe_W) (h Bs B Hs H σ o _ fun d v Hs1 H1 g ⟨z, e1, p⟩ r => by
    subst e1
    cases r.atom
    refine ⟨z, rfl, q (chars z) _ _ _ Hs1 H1 g p (by
      have e2 : (chars z).length = z.cps.size := by unfold chars; simp
      rw [e2]
      exact walk_str) (fun _ _ _ _ => True.intro) fun i d Hs2 H2 v H3 s1 s2 hi hy => ?_⟩
    obtain ⟨rfl, c, hc, rfl⟩ := hy
    unfold chars at hi
    rw [List.getElem?_map, Array.getElem?_toList, hc] at hi
    cases hi
    exact ⟨Hs2, Go.refl s2, .a _⟩)
def rangeD (lo : Int) (n : Nat) : List Da := (List.range n).map fun (i : Nat) => Da.int (lo + (i : Int))
theorem rangeD_get {lo : Int} {n i : Nat} {d : Da} (h : (rangeD lo n)[i]? = some d) : i < n ∧ d = .int (lo + (i : Int)) := by
  unfold rangeD at h
  rw [List.getElem?_map] at h
  by_cases hi : i < n
  · rw [List.getElem?_range hi] at h
    cases h
    exact ⟨hi, rfl⟩
  · rw [List.getElem?_eq_none (by simpa using hi)] at h
    cases h
theorem rangeD_len {lo : Int} {n : Nat} : (rangeD lo n).length = n := by simp [rangeD]
theorem di_range1 (S : Sc M X k N sc cs) {Φ : List Da → Prop} (hm : M.mg "range" = none) (hg : glB sc "range" = true) (h : DE X e δ fun d => ∃ n : Int, d = .int n ∧ -(2 ^ 62) ≤ n ∧ n < 2 ^ 62 ∧ Φ (rangeD 0 n.toNat))
    (hs : starEach [e] X.env = (false, eval e X.env) :: starEach [] X.env := by rfl) : DI X tg (.Call (.Name "range" p2) [e] [] pos) δ Φ := .mk fun Bs B Hs H σ o R q =>
  WI.of (pi_range1 (by show X.env.scope.names.lookup _ = _; rw [S.hsc]; exact (glB_ok hg).1) (by rw [S.hmg]; exact hm) (pa_cons pe_W pa_nil hs) (by rw [hs]; rfl)) (h Bs B Hs H σ o _ fun d v Hs1 H1 g ⟨n, e1, b1, b2, p⟩ r => by
    subst e1
    cases r.atom
    refine ⟨n, rfl, b1, b2, q _ _ (fun _ => True) _ Hs1 H1 g p (by rw [rangeD_len]; exact walk_range) (fun _ _ _ _ => True.intro) fun i d Hs2 H2 v H3 s1 s2 hi hy => ?_⟩
    obtain ⟨rfl, rfl⟩ := hy
    obtain ⟨_, rfl⟩ := rangeD_get hi
    exact ⟨Hs2, Go.refl s2, .a _⟩)
theorem di_range2 (S : Sc M X k N sc cs) {Φ : List Da → Prop} (hm : M.mg "range" = none) (hg : glB sc "range" = true) (h : DE X a δ fun d => DE X b δ fun d' => ∃ i j : Int, d = .int i ∧ d' = .int j ∧ (-(2 ^ 62) ≤ i ∧ i < 2 ^ 62 ∧ -(2 ^ 62) ≤ j ∧ j < 2 ^ 62) ∧ Φ (rangeD i (j - i).toNat))
    (hs : starEach [a, b] X.env = (false, eval a X.env) :: starEach [b] X.env := by rfl) (hs2 : starEach [b] X.env = (false, eval b X.env) :: starEach [] X.env := by rfl) : DI X tg (.Call (.Name "range" p2) [a, b] [] pos) δ Φ := .mk fun Bs B Hs H σ o R q =>
  WI.of (pi_range2 (by show X.env.scope.names.lookup _ = _; rw [S.hsc]; exact (glB_ok hg).1) (by rw [S.hmg]; exact hm) (pa_cons pe_W (pa_cons pe_W pa_nil hs2) hs) (by rw [hs, hs2]; rfl) (by rw [hs2]; rfl)) (h Bs B Hs H σ o _ fun d v Hs1 H1 g1 h1 r1 => h1 Bs B Hs1 H1 σ (o.mono g1) _ fun d' v' Hs2 H2 g2 ⟨i, j, e1, e2, bd, p⟩ r2 => by
    subst e1 e2
    cases r1.atom
    cases r2.atom
    refine ⟨i, j, rfl, bd, q _ _ (fun _ => True) _ Hs2 H2 (g1.trans g2) p (by rw [rangeD_len]; exact walk_range) (fun _ _ _ _ => True.intro) fun i d Hs2 H2 v H3 s1 s2 hi hy => ?_⟩
    obtain ⟨rfl, rfl⟩ := hy
    obtain ⟨_, rfl⟩ := rangeD_get hi
    exact ⟨Hs2, Go.refl s2, .a _⟩)
/-- a new pair of a thing and a thing -/
theorem pair_new {K : PySem.W.Frag} {Hs H : Hp} {x y : Da} {v w : V} {T : Addr} (s : Same Hs H) (rx : Rp K Hs x v) (ry : Rp K Hs y w) (hT : H T = none) : ∃ Hs3, Go Hs H Hs3 (upd H T (.tup [v, w])) ∧ Rp K Hs3 (.tup [x, y]) (.ref T) :=
  ⟨_, Go.new s hT, .tup upd_same (.cons (Rp.mono (same_upd (s.free hT)) rx) (.cons (Rp.mono (same_upd (s.free hT)) ry) .nil))⟩
def enumD (l : List Da) : List Da := l.zipIdx.map fun p => .tup [.int (p.2 : Nat), p.1]
theorem enumD_len {l : List Da} : (enumD l).length = l.length := by simp [enumD]
theorem enumD_get {l : List Da} {i : Nat} {d : Da} (h : (enumD l)[i]? = some d) : ∃ z, l[i]? = some z ∧ d = .tup [.int (i : Nat), z] := by
  unfold enumD at h
  rw [List.getElem?_map, List.getElem?_zipIdx] at h
  cases e : l[i]? with
  | none => rw [e] at h; cases h
  | some z => rw [e] at h; cases h; exact ⟨z, rfl, by simp⟩
theorem di_enum (S : Sc M X k N sc cs) {elts : List Expr} {kk : Nat} {tpos : Pos} {Φ : List Da → Prop} (hm : M.mg "enumerate" = none) (hg : glB sc "enumerate" = true) (h : DE X e δ fun d => ∃ l, d = .lst l ∧ Φ (enumD l))
    (hs : starEach [e] X.env = (false, eval e X.env) :: starEach [] X.env := by rfl) : DI X (.Tuple elts kk tpos) (.Call (.Name "enumerate" p2) [e] [] pos) δ Φ := .mk fun Bs B Hs H σ o R q =>
  WI.of (pi_enum (by show X.env.scope.names.lookup _ = _; rw [S.hsc]; exact (glB_ok hg).1) (by rw [S.hmg]; exact hm) (pa_cons pe_W pa_nil hs) (by rw [hs]; rfl)) (h Bs B Hs H σ o _ fun d v Hs1 H1 g ⟨l, e1, p⟩ r => by
    subst e1
    obtain ⟨a, vs, rfl, ha, ra⟩ := r.lst_inv
    refine ⟨a, vs, rfl, .of (g.sub _ _ ha), q _ _ (fun H => SqL X.K H a vs) _ Hs1 H1 g p (by rw [enumD_len, ra.len]; exact walk_enum) (fun Hs2 H2 s1 s2 => .of (s2 _ _ (s1 _ _ ha))) fun i d Hs2 H2 v H3 s1 s2 hi hy => ?_⟩
    obtain ⟨T, x, y, rfl, hT, rfl, hx, hy⟩ := hy
    dsimp only at hx hy
    obtain ⟨z, hz, rfl⟩ := enumD_get hi
    obtain ⟨v', hv', rv⟩ := ra.get hz
    rw [hy] at hv'
    cases hv'
    cases hx
    exact pair_new s2 (.a _) (rv.mono s1) hT)
def zipD (l r : List Da) : List Da := (l.zip r).map fun p => .tup [p.1, p.2]
theorem zipD_len {l r : List Da} : (zipD l r).length = min l.length r.length := by simp [zipD]
theorem zipD_get {l r : List Da} {i : Nat} {d : Da} (h : (zipD l r)[i]? = some d) : ∃ z w, l[i]? = some z ∧ r[i]? = some w ∧ d = .tup [z, w] := by
  unfold zipD at h
  rw [List.getElem?_map] at h
  cases e : (l.zip r)[i]? with
  | none => rw [e] at h; cases h
  | some z =>
    rw [e] at h
    cases h
    rw [List.getElem?_zip_eq_some] at e
    exact ⟨_, _, e.1, e.2, rfl⟩
theorem di_zip (S : Sc M X k N sc cs) {elts : List Expr} {kk : Nat} {tpos : Pos} {Φ : List Da → Prop} (hm : M.mg "zip" = none) (hg : glB sc "zip" = true)
    (h : DE X a δ fun d => DE X b δ fun d' => ∃ l r, ((d = .lst l ∧ d' = .lst r) ∨ (d = .tup l ∧ d' = .tup r)) ∧ Φ (zipD l r))
    (hs : starEach [a, b] X.env = (false, eval a X.env) :: starEach [b] X.env := by rfl) (hs2 : starEach [b] X.env = (false, eval b X.env) :: starEach [] X.env := by rfl) (hpl : (backTo pos (starEach [b] X.env)).any (·.1) = false := by rfl) : DI X (.Tuple elts kk tpos) (.Call (.Name "zip" p2) [a, b] [] pos) δ Φ := .mk fun Bs B Hs H σ o R q =>
  WI.of (RZ.pi_zipA (by show X.env.scope.names.lookup _ = _; rw [S.hsc]; exact (glB_ok hg).1) (by rw [S.hmg]; exact hm) (pa_cons pe_W (pa_cons pe_W pa_nil hs2) hs) hs hpl) (h Bs B Hs H σ o _ fun d v Hs1 H1 g1 h1 r1 => h1 Bs B Hs1 H1 σ (o.mono g1) _ fun d' v' Hs2 H2 g2 ⟨l, r, e, p⟩ r2 => by
    rcases e with ⟨rfl, rfl⟩ | ⟨rfl, rfl⟩
    · obtain ⟨a, vs, rfl, ha, ra⟩ := r1.lst_inv
      obtain ⟨b, ws, rfl, hb, rb⟩ := r2.lst_inv
      have ha' := g2.ss _ _ ha
      refine ⟨a, b, vs, ws, rfl, .inl ⟨.of (g2.sub _ _ ha'), .of (g2.sub _ _ hb), q _ _ (fun H => SqL X.K H a vs ∧ SqL X.K H b ws) _ Hs2 H2 (g1.trans g2) p (walk_zip (by rw [zipD_len, ra.len, rb.len])) (fun Hs2 H2 s1 s2 => ⟨.of (s2 _ _ (s1 _ _ ha')), .of (s2 _ _ (s1 _ _ hb))⟩) fun i d Hs2 H2 v H3 s1 s2 hi hy => ?_⟩⟩
      obtain ⟨T, x, y, rfl, hT, rfl, hx, hy⟩ := hy
      dsimp only at hx hy
      obtain ⟨z, w, hz, hw, rfl⟩ := zipD_get hi
      obtain ⟨v', hv', rv⟩ := (ra.mono g2.ss).get hz
      obtain ⟨w', hw', rw'⟩ := rb.get hw
      rw [hx] at hv'
      rw [hy] at hw'
      cases hv'
      cases hw'
      exact pair_new s2 (rv.mono s1) (rw'.mono s1) hT
    · obtain ⟨a, vs, rfl, ha, ra⟩ := r1.tup_inv
      obtain ⟨b, ws, rfl, hb, rb⟩ := r2.tup_inv
      have ha' := g2.ss _ _ ha
      have wk : Walk (RZ.ItzT X.K a b) (zipD l r).length (fun H => SqT X.K H a vs ∧ SqT X.K H b ws) (YPair (fun i => vs[i]?) (fun i => ws[i]?)) := by
        have hn : (zipD l r).length = min vs.length ws.length := by rw [zipD_len, ra.len, rb.len]
        rw [hn]
        refine ⟨fun i _ hi q => ?_, fun _ q => ⟨vs, ws, q.1, q.2, by omega⟩, fun i H v H' _ q y => ?_⟩
        · have h1 : i < vs.length := by omega
          have h2 : i < ws.length := by omega
          exact ⟨vs, ws, vs[i], ws[i], q.1, q.2, by simp [h1], by simp [h2]⟩
        · obtain ⟨T, x, z, h1, h2, h3, h4, h5⟩ := y
          exact ⟨T, x, z, h1, h2, h3, h4 vs q.1, h5 ws q.2⟩
      refine ⟨a, b, vs, ws, rfl, .inr ⟨.of (g2.sub _ _ ha'), .of (g2.sub _ _ hb), q _ _ (fun H => SqT X.K H a vs ∧ SqT X.K H b ws) _ Hs2 H2 (g1.trans g2) p wk (fun Hs2 H2 s1 s2 => ⟨.of (s2 _ _ (s1 _ _ ha')), .of (s2 _ _ (s1 _ _ hb))⟩) fun i d Hs2 H2 v H3 s1 s2 hi hy => ?_⟩⟩
      obtain ⟨T, x, y, rfl, hT, rfl, hx, hy⟩ := hy
      dsimp only at hx hy
      obtain ⟨z, w, hz, hw, rfl⟩ := zipD_get hi
      obtain ⟨v', hv', rv⟩ := (ra.mono g2.ss).get hz
      obtain ⟨w', hw', rw'⟩ := rb.get hw
      rw [hx] at hv'
      rw [hy] at hw'
      cases hv'
      cases hw'
      exact pair_new s2 (rv.mono s1) (rw'.mono s1) hT)

/-! ### comprehensions -/
theorem DTs.nil {Φ : Bool → Prop} (h : Φ true) : DTs X [] δ Φ := .mk fun Bs B Hs H σ o Q q => WTs.of pts_nil (q true Hs H (Go.refl o.sub) h)
theorem DTs.one {Φ : Bool → Prop} (h : DT X e δ Φ) : DTs X [e] δ Φ := .mk fun Bs B Hs H σ o Q q => WTs.of (pts_one pt_W) (h Bs B Hs H σ o Q q)
/-- the names of a target -/
def tgN : Nat → Expr → List Str
  | 0, _ => []
  | _ + 1, .Name x _ => [x]
  | n + 1, .Tuple es _ _ => es.flatMap (tgN n)
  | _, _ => []
/-- slots of names forgotten -/
inductive Wp : List Str → List Str → Sg → Sg → Prop
  | nil {N : List Str} {δ : Sg} : Wp N [] δ δ
  | cons {N : List Str} {x : Str} {os : List Str} {δ δ1 δ2 : Sg} : Wp N os δ δ1 → Ss N δ1 x none δ2 → Wp N (x :: os) δ δ2
def ixN0 (N : List Str) (x : Str) : Nat := N.idxOf x
def ownOf (N : List Str) (os : List Str) : List (Str × Nat) := os.map fun x => (x, N.idxOf x)
theorem idxOf_at : ∀ {N : List Str} {i : Nat} {x : Str}, N.Nodup → N[i]? = some x → N.idxOf x = i
  | [], _, _, _, h => by simp at h
  | y :: N, 0, x, _, h => by simp at h; subst h; simp
  | y :: N, i + 1, x, nd, h => by
    have h' : N[i]? = some x := by simpa using h
    have ne : y ≠ x := fun e => (List.nodup_cons.mp nd).1 (by rw [e]; exact List.mem_of_getElem? h')
    rw [List.idxOf_cons, beq_false_of_ne ne, idxOf_at (List.nodup_cons.mp nd).2 h']
    rfl
theorem Ok.wipe {K : PySem.W.Frag} {Bs B Hs H : Hp} {σ : L2.St} (nd : N.Nodup) : ∀ {os : List Str} {δ δ' : Sg}, Wp N os δ δ' → Ok K Bs B Hs H σ δ → Ok K Bs B Hs H (wipe σ ((ownOf N os).map (·.2))) δ'
  | _, _, _, .nil, o => o
  | _, _, _, .cons w s, o => by
    obtain ⟨i, h1, rfl⟩ := s.at
    have o1 := Ok.wipe nd w o
    show Ok K Bs B Hs H ((L2.wipe σ _).set (N.idxOf _) none) _
    rw [idxOf_at nd h1]
    exact o1.wipe1 i none
theorem wipe_get {σ : L2.St} {i : Nat} : ∀ {vs : List Nat}, i ∈ vs → i < σ.length → (L2.wipe σ vs)[i]? = some none
  | [], h, _ => by simp at h
  | v :: vs, h, hl => by
    unfold L2.wipe
    by_cases hv : v = i
    · subst hv
      rw [List.getElem?_set_self (by rw [wipe_length]; exact hl)]
    · rw [List.getElem?_set_ne hv]
      exact wipe_get ((List.mem_cons.mp h).elim (fun z => absurd z.symm hv) id) hl
theorem wipe_keep {σ σ' : L2.St} {nm os : List Str} (nd : N.Nodup) (hl : σ.length = N.length) (hk : Keep N nm (L2.wipe σ ((ownOf N os).map (·.2))) σ') (hn : ∀ x ∈ nm, x ∈ os) :
    L2.wipe σ' ((ownOf N os).map (·.2)) = L2.wipe σ ((ownOf N os).map (·.2)) := by
  have hl' : σ'.length = σ.length := by rw [hk.1, wipe_length]
  refine List.ext_getElem? fun i => ?_
  by_cases hi : i < σ.length
  · by_cases hm : i ∈ (ownOf N os).map (·.2)
    · rw [wipe_get hm (by omega), wipe_get hm hi]
    · rw [wipe_out hm, hk.2 i fun x e z => hm ?_]
      refine List.mem_map.mpr ⟨(x, N.idxOf x), List.mem_map.mpr ⟨x, hn x z, rfl⟩, idxOf_at nd e⟩
  · rw [List.getElem?_eq_none (by rw [wipe_length]; omega), List.getElem?_eq_none (by rw [wipe_length]; omega)]
def blkB (N : List Str) (sc scope : Scope) (os : List Str) : Bool := blkC N sc scope (ownOf N os)
/-- the block of a comprehension -/
theorem Sc.blk (S : Sc M X k N sc cs) {scope : Scope} {s : Shared} {H : Hp} {C : Addr} {cl : List (Str × Addr)} {fp : List Addr} (kind : scope.kind = .function) :
    Sc M (X.blk s H scope (compEnvC scope cl C X.env) fp) k N (relS scope sc) scope :=
  ⟨S.hP, S.hw, S.hK, S.hmg, S.hb, S.n, S.nd, S.calm, S.room, kind, PassesOwn.never, by show relS scope X.env.scope = _; rw [S.hsc], fun x h => by
    show L2.Loc (relS scope X.env.scope) x ∧ ((scope.names.lookup x == some .cell) = true ∨ (relS scope X.env.scope).names.lookup x = some .local)
    rcases locB_ok h with e | e
    · have e' : (relS scope X.env.scope).names.lookup x = some .local := lookup_relS_keep (by decide) e
      exact ⟨.inl e', .inr e'⟩
    · have e' : (relS scope X.env.scope).names.lookup x = some .cell := lookup_relS_keep (by decide) e
      exact ⟨.inr e', .inl (by rw [e]; rfl)⟩⟩
def WGb (X : Cx) (scope : Scope) (tg : Expr) : TG := fun v σ H Q => ∀ s H0 C cl fp, WG (X.blk s H0 scope (compEnvC scope cl C X.env) fp) tg v σ H Q
def WTb (X : Cx) (scope : Scope) (ifs : List Expr) : TT := fun σ H Q => ∀ s H0 C cl fp, WTs (X.blk s H0 scope (compEnvC scope cl C X.env) fp) ifs σ H Q
def WEb (X : Cx) (scope : Scope) (e : Expr) : TE := fun σ H Q => ∀ s H0 C cl fp, WE (X.blk s H0 scope (compEnvC scope cl C X.env) fp) e σ H Q
theorem pgb_W {scope : Scope} (s : Shared) (H0 : Hp) (C : Addr) (cl : List (Str × Addr)) (fp : List Addr) : PG (X.blk s H0 scope (compEnvC scope cl C X.env) fp) tg (WGb X scope tg) := ⟨fun pins s' σ H v u Q I r h => h s H0 C cl fp pins s' u I r⟩
theorem ptb_W {scope : Scope} (s : Shared) (H0 : Hp) (C : Addr) (cl : List (Str × Addr)) (fp : List Addr) : PTs (X.blk s H0 scope (compEnvC scope cl C X.env) fp) es (WTb X scope es) := ⟨fun pins s' σ H Q I h => h s H0 C cl fp pins s' I⟩
theorem peb_W {scope : Scope} (s : Shared) (H0 : Hp) (C : Addr) (cl : List (Str × Addr)) (fp : List Addr) : PE (X.blk s H0 scope (compEnvC scope cl C X.env) fp) e (WEb X scope e) := ⟨fun pins s' σ H Q I h => h s H0 C cl fp pins s' I⟩
/-- what is shown of a comprehension: P by the turn and the things made so far -/
def LcD (M : Md) (X : Cx) (k : Nat) (N : List Str) (sc : Scope) (scope : Scope) (tg elt : Expr) (ifs : List Expr) (os : List Str) (δ : Sg) (ds : List Da) (Φ : Da → Prop) : Prop :=
  ∃ δw, Wp N os δ δw ∧ ds.length ≤ 1000000 ∧ ∃ P : Nat → List Da → Prop, P 0 [] ∧
    (∀ X', Sc M X' k N (relS scope sc) scope → ∀ i d acc, ds[i]? = some d → P i acc → DG X' tg os d δw fun δ2 => ∀ X', Sc M X' k N (relS scope sc) scope → DTs X' ifs δ2 fun c => (c = true → ∀ X', Sc M X' k N (relS scope sc) scope → DE X' elt δ2 fun y => P (i + 1) (acc ++ [y])) ∧ (c = false → P (i + 1) acc)) ∧
    ∀ acc, acc.length ≤ ds.length → P ds.length acc → Φ (.lst acc)
theorem lc_run (S : Sc M X k N sc cs) {scope : Scope} {ifs : List Expr} {os : List Str} (kind : scope.kind = .function) (h : DI X tg it δ fun ds => LcD M X k N sc scope tg e ifs os δ ds Φ) {Bs B Hs H : Hp} {σ : L2.St} (o : Ok X.K Bs B Hs H σ δ) {Q : VK}
    (q : ∀ d v Hs' H', Go Hs H Hs' H' → Φ d → Rp X.K Hs' d v → Q v H') : tLc (WI X tg it) (WGb X scope tg) (WTb X scope ifs) (WEb X scope e) ((ownOf N os).map (·.2)) σ H Q := by
  have nd := S.nd
  have hlen : ∀ {σ' : L2.St} {H' : Hp}, True := trivial
  refine h Bs B Hs H σ o _ fun ds J G Y Hs1 H1 g1 ⟨δw, hw, hz, P, p0, step, fin⟩ wk hG hY D hD => ?_
  have oD : ∀ (i : Nat) (s : SD) (q : Addr), δ[i]? = some (some s) → s.own = true → σ[i]? = some (some (.ref q)) → q ≠ D := fun i s q e w h z => (o.mono g1).ownAt e w h (by rw [z]; exact hD)
  have hD0 : H D = none := g1.hh.free hD
  have hB : B D = none := o.go.hh.free hD0
  refine lc_it (Qd := fun H => Q (.ref D) H) wk (fun i H2 => ∃ Hs2 acc vs, Go Hs H Hs2 H2 ∧ Same Hs1 Hs2 ∧ Ok X.K Bs B Hs2 H2 σ δ ∧ Hs2 D = none ∧ H2 D = some (.lst vs) ∧ RpAll X.K Hs2 acc vs ∧ acc.length ≤ i ∧ i ≤ ds.length ∧ P i acc) ?_ ?_ ?_ ?_
  · have hs := g1.sub.free hD
    exact ⟨Hs1, [], [], g1.trans (Go.own g1.sub hD), Same.refl _, (o.mono g1).mono (Go.own g1.sub hD), hs, upd_same, .nil, Nat.le_refl _, Nat.zero_le _, p0⟩
  · rintro i H2 hi ⟨Hs2, acc, vs, g2, s2, o2, _⟩
    exact hG Hs2 H2 s2 o2.sub
  · rintro i x H2 H3 hi ⟨Hs2, acc, vs, g2, s2, o2, hDs, hDv, ra, hl, _, pi⟩ hy s H0 C cl fp
    intro pins s' u I r
    obtain ⟨d, hd⟩ : ∃ d, ds[i]? = some d := ⟨ds[i], by simp [hi]⟩
    obtain ⟨Hs3, g3, rd⟩ := hY i d Hs2 H2 x H3 s2 o2.sub hd hy
    have o3 := o2.mono g3
    have hsl : σ.length = N.length := by
      have := I.len
      rw [wipe_length] at this
      rw [this]
      exact congrArg List.length S.n
    have nDs : ∀ {Hs' H' : Hp}, Go Hs2 H2 Hs' H' → Hs' D = none := fun g => g.no D (by rw [hDv]; exact fun z => nomatch z) hDs
    refine step (X.blk s H0 scope (compEnvC scope cl C X.env) fp) (S.blk kind) i d acc hd pi Bs B Hs3 H3 _ x (o3.wipe nd hw) rd _ (fun δ2 σ2 Hs4 H4 o4 g4 kp ht => ?_) pins s' u I r
    refine ⟨wipe_keep nd hsl (by have kp' : Keep X.N os _ σ2 := kp; rw [S.n] at kp'; exact kp') fun _ z => z, fun s H0 C cl fp pins s' I => ?_⟩
    refine ht (X.blk s H0 scope (compEnvC scope cl C X.env) fp) (S.blk kind) Bs B Hs4 H4 σ2 o4 _ (fun c Hs5 H5 g5 p5 => ?_) pins s' I
    have g35 := (g3.trans g4).trans g5
    cases c with
    | true =>
      refine iteT fun s H0 C cl fp pins s' I => ?_
      refine p5.1 rfl (X.blk s H0 scope (compEnvC scope cl C X.env) fp) (S.blk kind) Bs B Hs5 H5 σ2 (o4.mono g5) _ (fun y v Hs6 H6 g6 p6 r6 => ?_) pins s' I
      have g36 := g35.trans g6
      refine ⟨vs, g36.hh _ _ hDv, ?_, Hs6, acc ++ [y], vs ++ [v], (g2.trans g36).mut hD0 (nDs g36), s2.trans g36.ss, (o2.mono g36).other (nDs g36) hB oD, nDs g36, upd_same, (ra.mono g36.ss).app (.cons r6 .nil), by simp; exact hl, by omega, p6⟩
      have e1 := ra.len
      have e2 : sizeLine = 16777216 := sizeLine_eq
      omega
    | false =>
      exact iteF ⟨Hs5, acc, vs, g2.trans g35, s2.trans g35.ss, o2.mono g35, nDs g35, g35.hh _ _ hDv, ra.mono g35.ss, by omega, by omega, p5.2 rfl⟩
  · rintro H2 ⟨Hs2, acc, vs, g2, s2, o2, hDs, hDv, ra, hl, _, pi⟩
    exact q _ _ _ _ (g2.freeze hD0 hDs hDv) (fin acc hl pi) (.lst upd_same (ra.mono (same_upd hDs)))
theorem de_lc (S : Sc M X k N sc cs) {scope : Scope} {ifs : List Expr} {os : List Str} (h : DI X tg it δ fun ds => LcD M X k N sc scope tg e ifs os δ ds Φ) (hk : blkB N sc scope os = true)
    (hs : ∀ x, foldedSetIterable it X.env x = pure x := by intro _; rfl) : DM X m (.ListComp e [⟨tg, it, ifs, 0⟩] scope pos) δ Φ := DM.of <| .mk fun Bs B Hs H σ o Q q => by
  have ok : BlkOk X.N X.env.scope scope (ownOf N os) := by rw [S.n, S.hsc]; exact blkOk_by hk
  exact WE.of (pe_lc S.calm (by rw [S.n]; exact S.nd) pi_W ok pgb_W ptb_W peb_W hs) (lc_run S ok.kind h o q)

/-! ### statements -/
theorem db_nil (h : nx δ) : DB X [] δ nx rt bk ct := .mk fun Bs B Hs H σ o D f => WB.of pss_nil (f.nx δ σ Hs H o (Same.refl _) h)
theorem db_cons (h : DS X st δ (fun δ' => DB X sts δ' nx rt bk ct) rt bk ct) : DB X (st :: sts) δ nx rt bk ct := .mk fun Bs B Hs H σ o D f =>
  WB.of (pss_cons ps_W pb_W) (h Bs B Hs H σ o { D with nx := WB X sts D } ⟨fun δ' σ' Hs' H' o' s h' => h' Bs B Hs' H' σ' o' D (f.frm s), f.rt, f.bk, f.ct⟩)
theorem ds_pass (h : nx δ) : DS X (.Pass pos) δ nx rt bk ct := .mk fun Bs B Hs H σ o D f => WS.of ps_pass (f.nx δ σ Hs H o (Same.refl _) h)
theorem ds_break (h : bk δ) : DS X (.Break pos) δ nx rt bk ct := .mk fun Bs B Hs H σ o D f => WS.of ps_break (f.bk δ σ Hs H o (Same.refl _) h)
theorem ds_cont (h : ct δ) : DS X (.Continue pos) δ nx rt bk ct := .mk fun Bs B Hs H σ o D f => WS.of ps_continue (f.ct δ σ Hs H o (Same.refl _) h)
theorem ds_expr (h : DE X e δ fun _ => nx δ) (hs : swapsWith e none pos.line X.env = pure false := by rfl) : DS X (.Expr e pos) δ nx rt bk ct := .mk fun Bs B Hs H σ o D f =>
  WS.of (ps_expr pe_W hs) (h Bs B Hs H σ o _ fun d v Hs' H' g p r => f.nx δ σ Hs' H' (o.mono g) g.ss p)
theorem ds_ret (h : DE X e δ rt) : DS X (.Return (some e) pos) δ nx rt bk ct := .mk fun Bs B Hs H σ o D f =>
  WS.of (ps_ret pe_W) (h Bs B Hs H σ o _ fun d v Hs' H' g p r => f.rt d v Hs' H' (o.go.trans g) g.ss p r)
theorem ds_retN (h : rt .non) : DS X (.Return none pos) δ nx rt bk ct := .mk fun Bs B Hs H σ o D f => WS.of ps_retN (f.rt .non .non Hs H o.go (Same.refl _) h (.a _))
theorem ds_if {c : Expr} {s1 s2 : List Stmt} (h : DT X c δ fun z => (z = true → DB X s1 δ nx rt bk ct) ∧ (z = false → DB X s2 δ nx rt bk ct)) : DS X (.If c s1 s2 pos) δ nx rt bk ct := .mk fun Bs B Hs H σ o D f =>
  WS.of (ps_if pt_W pb_W pb_W) (h Bs B Hs H σ o _ fun z Hs' H' g p => by
    cases z with
    | true => exact iteT (p.1 rfl Bs B Hs' H' σ (o.mono g) D (f.frm g.ss))
    | false => exact iteF (p.2 rfl Bs B Hs' H' σ (o.mono g) D (f.frm g.ss)))
theorem ds_set (S : Sc M X k N sc cs) (h : DE X e δ fun d => ∃ δ', Ss N δ x (some (.d d)) δ' ∧ nx δ') (hl : locB cs x = true) (hs : swapsWith e (some (.Name x p2)) pos.line X.env = pure false := by rfl) :
    DS X (.Assign [.Name x p2] e pos) δ nx rt bk ct := .mk fun Bs B Hs H σ o D f => by
  refine fun pins s I => wpAny_Assign_Name (thn (h Bs B Hs H σ o (fun v H' => ∃ d Hs', Go Hs H Hs' H' ∧ (∃ δ', Ss N δ x (some (.d d)) δ' ∧ nx δ') ∧ Rp X.K Hs' d v) (fun d v Hs' H' g p r => ⟨d, Hs', g, p, r⟩) pins s I) fun u s1 ⟨v, H1, I1, r1, d, Hs', g, ⟨δ', h1, h2⟩, r⟩ => ?_) hs
  obtain ⟨i, h3, rfl⟩ := h1.at
  exact store_ok I1 (by rw [S.n]; exact S.nd) (by rw [S.n]; exact h3) (S.fn x hl).1 r1 (fun s2 I2 => ⟨_, H1, I2, f.nx _ _ Hs' H1 ((o.mono g).setD i r) g.ss h2⟩) (S.fn x hl).2
/-- a list comprehension kept by a name that is no cell -/
theorem ds_setLc (S : Sc M X k N sc cs) {scope : Scope} {ifs : List Expr} {os : List Str} {py lp : Pos} (h : DI X tg it δ fun ds => LcD M X k N sc scope tg e ifs os δ ds fun d => ∃ δ', Ss N δ y (some (.d d)) δ' ∧ nx δ') (hk : blkB N sc scope os = true)
    (hy : (sc.names.lookup y == some .local && (py.line == lp.line) && !(scope.names.any fun (n, k) => n == y && (k == .local || k == .cell))) = true) (hN : N.contains y = true) (hs : ∀ x, foldedSetIterable it X.env x = pure x := by intro _; rfl) :
    DS X (.Assign [.Name y py] (.ListComp e [⟨tg, it, ifs, 0⟩] scope lp) pos) δ nx rt bk ct := .mk fun Bs B Hs H σ o D f => by
  have ok : BlkOk X.N X.env.scope scope (ownOf N os) := by rw [S.n, S.hsc]; exact blkOk_by hk
  simp only [Bool.and_eq_true, beq_iff_eq, Bool.not_eq_true'] at hy
  obtain ⟨⟨h1, h2⟩, h3⟩ := hy
  intro pins s I
  obtain ⟨i, hi⟩ : ∃ i : Nat, N[i]? = some y := List.mem_iff_getElem?.mp (by simpa using hN)
  have hk : X.env.scope.kind = .function := by rw [S.hsc]; exact S.kind
  refine WS.of (ps_setLc (i := i) S.calm (by rw [S.n]; exact S.nd) (by rw [S.n]; exact hi) (by rw [S.hsc]; exact h1) (sw_true hk (by rw [S.hsc]; exact h1) (by simpa using h2) h3) pi_W ok pgb_W ptb_W peb_W hs) ?_ pins s I
  refine lc_run S ok.kind h o fun d v Hs' H' g ⟨δ', hd, p⟩ r => ?_
  obtain ⟨j, h5, rfl⟩ := hd.at
  obtain rfl : i = j := nodup_ix S.nd hi h5
  exact f.nx _ _ Hs' H' ((o.mono g).setD i r) g.ss p
theorem ds_freeze {s0 : SD} {d : Da} (hg : Gt N δ x s0) (hf : s0.frozen = some d) (hs : ∃ δ', Ss N δ x (some (.d d)) δ' ∧ DS X st δ' nx rt bk ct) (nd : N.Nodup) : DS X st δ nx rt bk ct := .mk fun Bs B Hs H σ o D f => by
  obtain ⟨i, h1, h2⟩ := hg.at
  obtain ⟨δ', h3, h4⟩ := hs
  obtain ⟨j, h5, rfl⟩ := h3.at
  obtain rfl : i = j := nodup_ix nd h1 h5
  obtain ⟨Hs', s1, o1⟩ := o.freeze h2 hf
  exact h4 Bs B Hs' H σ o1 D (f.frm s1)
theorem db_freeze {s0 : SD} {d : Da} (hg : Gt N δ x s0) (hf : s0.frozen = some d) (hs : ∃ δ', Ss N δ x (some (.d d)) δ' ∧ DB X sts δ' nx rt bk ct) (nd : N.Nodup) : DB X sts δ nx rt bk ct := .mk fun Bs B Hs H σ o D f => by
  obtain ⟨i, h1, h2⟩ := hg.at
  obtain ⟨δ', h3, h4⟩ := hs
  obtain ⟨j, h5, rfl⟩ := h3.at
  obtain rfl : i = j := nodup_ix nd h1 h5
  obtain ⟨Hs', s1, o1⟩ := o.freeze h2 hf
  exact h4 Bs B Hs' H σ o1 D (f.frm s1)
/-- an own list made -/
theorem ds_ownL (S : Sc M X k N sc cs) (h : ∃ δ', Ss N δ x (some (.ol [])) δ' ∧ nx δ') (hl : locB cs x = true) : DS X (.Assign [.Name x p2] (.List [] p3) pos) δ nx rt bk ct := .mk fun Bs B Hs H σ o D f => by
  obtain ⟨δ', h1, h2⟩ := h
  obtain ⟨i, h3, rfl⟩ := h1.at
  refine WS.of (ps_set (i := i) (by rw [S.n]; exact S.nd) (by rw [S.n]; exact h3) (S.fn x hl).1 (pe_lst pa_nil) rfl (S.fn x hl).2) ⟨Nat.zero_le _, fun p hp => ?_⟩
  exact f.nx _ _ Hs _ (o.setO i (s0 := .ol []) hp ⟨p, [], rfl, o.sub.free hp, upd_same, .nil⟩) (Same.refl _) h2
theorem ds_ownK (S : Sc M X k N sc cs) (h : ∃ δ', Ss N δ x (some (.ok [])) δ' ∧ nx δ') (hl : locB cs x = true) : DS X (.Assign [.Name x p2] (.Dict [] [] p3) pos) δ nx rt bk ct := .mk fun Bs B Hs H σ o D f => by
  obtain ⟨δ', h1, h2⟩ := h
  obtain ⟨i, h3, rfl⟩ := h1.at
  refine WS.of (ps_set (i := i) (by rw [S.n]; exact S.nd) (by rw [S.n]; exact h3) (S.fn x hl).1 pe_dnewK rfl (S.fn x hl).2) fun p hp => ?_
  exact f.nx _ _ Hs _ (o.setO i (s0 := .ok []) hp ⟨p, rfl, o.sub.free hp, upd_same⟩) (Same.refl _) h2
theorem ds_ownT (S : Sc M X k N sc cs) (h : ∃ δ', Ss N δ x (some (.ot [])) δ' ∧ nx δ') (hl : locB cs x = true) : DS X (.Assign [.Name x p2] (.Dict [] [] p3) pos) δ nx rt bk ct := .mk fun Bs B Hs H σ o D f => by
  obtain ⟨δ', h1, h2⟩ := h
  obtain ⟨i, h3, rfl⟩ := h1.at
  refine WS.of (ps_set (i := i) (by rw [S.n]; exact S.nd) (by rw [S.n]; exact h3) (S.fn x hl).1 pe_dnewT rfl (S.fn x hl).2) fun p hp => ?_
  exact f.nx _ _ Hs _ (o.setO i (s0 := .ot []) hp ⟨p, rfl, o.sub.free hp, upd_same⟩) (Same.refl _) h2
/-- x.append(e), x an own list -/
theorem ds_append (S : Sc M X k N sc cs) {l : List Da} (hg : Gt N δ x (.ol l)) (hv : visB sc x = true) (hz : l.length < 1000000) (h : DE X e δ fun d => ∃ δ', Ss N δ x (some (.ol (l ++ [d]))) δ' ∧ nx δ')
    (hfew : ((backTo p3 (starEach [e] X.env)).all (fun x => !x.1) && (backToKw p3 (keywordEach [] X.env)).all (fun x => x.1.isSome)
      && decide ([e].length + ([] : List Keyword).length + (if ([] : List Keyword).isEmpty then 0 else 1) < 30)) = true := by rfl)
    (hline : (apos.endLine == p3.line) = true := by rfl) (hst : starEach [e] X.env = (false, eval e X.env) :: starEach [] X.env := by rfl) :
    DS X (.Expr (.Call (.Attribute (.Name x p2) "append" apos) [e] [] p3) pos) δ nx rt bk ct := .mk fun Bs B Hs H σ o D f => by
  obtain ⟨i, h1, h2⟩ := hg.at
  obtain ⟨v, h3, p, vs, rfl, e1, e2, r⟩ := o.slot i _ h2
  obtain ⟨v1, v2, v3⟩ := visB_ok hv
  refine WS.of (ps_expr (pe_bm PySem.F.plainAttrs_list PySem.F.slot_list_append PySem.F.type_list_append mt_append (pe_var (i := i) (by rw [S.n]; exact h1) (by rw [S.hsc]; exact v1) v2 v3) (pa_cons pe_W pa_nil hst) rfl hfew hline hst rfl) rfl)
    ⟨_, h3, .inl ⟨rfl, _, .of e2⟩, h Bs B Hs H σ o _ fun d w Hs' H' g ⟨δ', hd, pd⟩ rd => ?_⟩
  obtain ⟨j, h5, rfl⟩ := hd.at
  obtain rfl : i = j := nodup_ix S.nd h1 h5
  have o1 := o.mono g
  have e3 := g.no p (by rw [e2]; exact fun z => nomatch z) e1
  refine ⟨p, vs, w, rfl, rfl, g.hh _ _ e2, ?_, f.nx _ _ Hs' _ (o1.chg (s1 := .ol (l ++ [d])) h2 rfl rfl h3 e3 ⟨p, vs ++ [w], rfl, e3, upd_same, (r.mono g.ss).app (.cons rd .nil)⟩) g.ss pd⟩
  have := r.len
  have : sizeLine = 16777216 := sizeLine_eq
  omega
/-- x.pop() -/
theorem ds_pop (S : Sc M X k N sc cs) {l : List Da} (hg : Gt N δ x (.ol l)) (hv : visB sc x = true) (hz : l ≠ []) (h : ∃ δ', Ss N δ x (some (.ol l.dropLast)) δ' ∧ nx δ')
    (hline : (apos.endLine == p3.line) = true := by rfl) : DS X (.Expr (.Call (.Attribute (.Name x p2) "pop" apos) [] [] p3) pos) δ nx rt bk ct := .mk fun Bs B Hs H σ o D f => by
  obtain ⟨i, h1, h2⟩ := hg.at
  obtain ⟨v, h3, p, vs, rfl, e1, e2, r⟩ := o.slot i _ h2
  obtain ⟨v1, v2, v3⟩ := visB_ok hv
  obtain ⟨δ', hd, pd⟩ := h
  obtain ⟨j, h5, rfl⟩ := hd.at
  obtain rfl : i = j := nodup_ix S.nd h1 h5
  have hl := r.len
  have hp : vs.length - 1 < vs.length := by
    cases l with
    | nil => exact absurd rfl hz
    | cons => simp at hl; omega
  refine WS.of (ps_expr (pe_bm0 PySem.F.plainAttrs_list PySem.F.slot_list_pop PySem.F.type_list_pop mt_pop (pe_var (i := i) (by rw [S.n]; exact h1) (by rw [S.hsc]; exact v1) v2 v3) rfl hline) rfl)
    ⟨_, h3, .inl ⟨rfl, _, .of e2⟩, p, vs, vs[vs.length - 1], rfl, rfl, e2, by simp [hp], ?_⟩
  exact f.nx _ _ Hs _ (o.chg (s1 := .ol l.dropLast) h2 rfl rfl h3 e1 ⟨p, vs.dropLast, rfl, e1, upd_same, r.dropLast⟩) (Same.refl _) pd
/-- targets = x.pop() -/
theorem ds_popTo (S : Sc M X k N sc cs) {l : List Da} {d : Da} (hg : Gt N δ x (.ol (l ++ [d]))) (hv : visB sc x = true) (h : ∃ δ', Ss N δ x (some (.ol l)) δ' ∧ ∃ nm, DG X tg nm d δ' nx)
    (hline : (apos.endLine == p3.line) = true := by rfl) (hs : swapsWithSole [tg] (.Call (.Attribute (.Name x p2) "pop" apos) [] [] p3) pos.line X.env = pure false := by rfl)
    (hw : swappedStores [tg] (.Call (.Attribute (.Name x p2) "pop" apos) [] [] p3) X.env = pure none := by rfl) (h1 : (assignEach [tg] X.env).map (·.2) = [assign tg X.env] := by rfl) :
    DS X (.Assign [tg] (.Call (.Attribute (.Name x p2) "pop" apos) [] [] p3) pos) δ nx rt bk ct := .mk fun Bs B Hs H σ o D f => by
  obtain ⟨i, hi, h2⟩ := hg.at
  obtain ⟨v, h3, p, vs, rfl, e1, e2, r⟩ := o.slot i _ h2
  obtain ⟨v1, v2, v3⟩ := visB_ok hv
  obtain ⟨δ', hd, nm, pd⟩ := h
  obtain ⟨j, h5, rfl⟩ := hd.at
  obtain rfl : i = j := nodup_ix S.nd hi h5
  have hl := r.len
  obtain ⟨w, hw1, rw1⟩ := r.get (i := l.length) (d := d) (by simp)
  refine WS.of (ps_asg (pe_bm0 PySem.F.plainAttrs_list PySem.F.slot_list_pop PySem.F.type_list_pop mt_pop (pe_var (i := i) (by rw [S.n]; exact hi) (by rw [S.hsc]; exact v1) v2 v3) rfl hline) pg_W hs hw h1)
    ⟨_, h3, .inl ⟨rfl, _, .of e2⟩, p, vs, w, rfl, rfl, e2, ?_, ?_⟩
  · rw [← hl]
    simpa using hw1
  have o1 := o.chg (s1 := .ol l) h2 rfl rfl h3 e1 ⟨p, vs.dropLast, rfl, e1, upd_same, by simpa using r.dropLast⟩
  exact pd Bs B Hs _ σ w o1 rw1 _ fun δ2 σ2 Hs2 H2 o2 g2 _ p2 => f.nx _ _ Hs2 H2 o2 g2.ss p2
/-- targets = e -/
theorem ds_asg (h : DE X e δ fun d => ∃ nm, DG X tg nm d δ nx) (hs : swapsWithSole [tg] e pos.line X.env = pure false := by rfl) (hw : swappedStores [tg] e X.env = pure none := by rfl)
    (h1 : (assignEach [tg] X.env).map (·.2) = [assign tg X.env] := by rfl) : DS X (.Assign [tg] e pos) δ nx rt bk ct := .mk fun Bs B Hs H σ o D f =>
  WS.of (ps_asg pe_W pg_W hs hw h1) (h Bs B Hs H σ o _ fun d v Hs' H' g ⟨nm, p⟩ r => p Bs B Hs' H' σ v (o.mono g) r _ fun δ2 σ2 Hs2 H2 o2 g2 _ p2 => f.nx _ _ Hs2 H2 o2 (g.ss.trans g2.ss) p2)
/-- a, b = e1, e2, plain local names -/
theorem ds_par (S : Sc M X k N sc cs) {px py pt : Pos} {kt k2 pt2} (h : DE X a δ fun d => DE X b δ fun d' => ∃ δ1 δ2, Ss N δ x (some (.d d)) δ1 ∧ Ss N δ1 y (some (.d d')) δ2 ∧ nx δ2) (hxy : x ≠ y)
    (hx : (sc.names.lookup x == some .local) = true) (hy : (sc.names.lookup y == some .local) = true)
    (hw : ∀ env : Env, env.scope = sc → swappedStores [.Tuple [.Name x px, .Name y py] kt pt] (.Tuple [a, b] k2 pt2) env = pure (some [x, y]))
    (hN : N.contains x = true) (hN2 : N.contains y = true)
    (hs : swapsWithSole [.Tuple [.Name x px, .Name y py] kt pt] (.Tuple [a, b] k2 pt2) pos.line X.env = pure false := by rfl)
    (h1 : starEach [a, b] X.env = (false, eval a X.env) :: starEach [b] X.env := by rfl) (h2 : starEach [b] X.env = (false, eval b X.env) :: starEach [] X.env := by rfl) :
    DS X (.Assign [.Tuple [.Name x px, .Name y py] kt pt] (.Tuple [a, b] k2 pt2) pos) δ nx rt bk ct := .mk fun Bs B Hs H σ o D f => by
  obtain ⟨i, hi⟩ : ∃ i : Nat, N[i]? = some x := List.mem_iff_getElem?.mp (by simpa using hN)
  obtain ⟨j, hj⟩ : ∃ i : Nat, N[i]? = some y := List.mem_iff_getElem?.mp (by simpa using hN2)
  have hij : i ≠ j := fun e => by
    rw [e, hj] at hi
    exact hxy (Option.some.inj hi).symm
  refine WS.of (ps_par (i := i) (j := j) S.calm (by rw [S.n]; exact S.nd) (by rw [S.n]; exact hi) (by rw [S.n]; exact hj) hij (by rw [S.hsc]; simpa using hx) (by rw [S.hsc]; simpa using hy) (pa_cons pe_W (pa_cons pe_W pa_nil h2) h1) (hw _ S.hsc) hs) ?_
  refine h Bs B Hs H σ o _ fun d v Hs1 H1 g1 p1 r1 => p1 Bs B Hs1 H1 σ (o.mono g1) _ fun d' w Hs2 H2 g2 ⟨δ1, δ2, q1, q2, p2⟩ r2 => ?_
  obtain ⟨i', e1, rfl⟩ := q1.at
  obtain rfl : i = i' := nodup_ix S.nd hi e1
  obtain ⟨j', e2, rfl⟩ := q2.at
  obtain rfl : j = j' := nodup_ix S.nd hj e2
  exact ⟨v, w, rfl, f.nx _ _ Hs2 H2 ((((o.mono g1).mono g2).setD i (Rp.mono g2.ss r1)).setD j r2) (g1.ss.trans g2.ss) p2⟩
/-- x[k] = e, x an own dict -/
theorem ds_dputK (S : Sc M X k N sc cs) {kvs : List (Key × V)} (hg : Gt N δ x (.ok kvs)) (hv : visB sc x = true) (hz : kvs.length < 1000000) (h : DE X e δ fun d => DE X b δ fun y => ∃ v q, d = .a v ∧ y = .a (kV q) ∧ ∃ δ', Ss N δ x (some (.ok (putK kvs q v))) δ' ∧ nx δ')
    (hs : swapsWith e (some (.Subscript (.Name x p2) b p3)) pos.line X.env = pure false := by rfl) : DS X (.Assign [.Subscript (.Name x p2) b p3] e pos) δ nx rt bk ct := .mk fun Bs B Hs H σ o D f => by
  have hu : X.A.units + 1 < cLine := by have := S.room.units; omega
  obtain ⟨i, h1, h2⟩ := hg.at
  obtain ⟨v, h3, p, rfl, e1, e2⟩ := o.slot i _ h2
  obtain ⟨v1, v2, v3⟩ := visB_ok hv
  refine WS.of (ps_dput hu (pe_var (i := i) (by rw [S.n]; exact h1) (by rw [S.hsc]; exact v1) v2 v3) pe_W pe_W hs) (h Bs B Hs H σ o _ fun d w Hs1 H1 g1 q1 r1 => ⟨_, h3, q1 Bs B Hs1 H1 σ (o.mono g1) _ fun y z Hs2 H2 g2 ⟨v, q, ed, ey, δ', hd, pd⟩ r2 => ?_⟩)
  subst ed ey
  cases r1.atom
  cases r2.atom
  obtain ⟨j, h5, rfl⟩ := hd.at
  obtain rfl : i = j := nodup_ix S.nd h1 h5
  have g := g1.trans g2
  have e3 := g.no p (by rw [e2]; exact fun z => nomatch z) e1
  refine ⟨p, _, rfl, DPut.k (g.hh _ _ e2) (by have : sizeLine = 16777216 := sizeLine_eq; omega), f.nx _ _ Hs2 _ ((o.mono g).chg (s1 := .ok (putK kvs q _)) h2 rfl rfl h3 e3 ⟨p, rfl, e3, upd_same⟩) g.ss pd⟩
theorem ds_dputT (S : Sc M X k N sc cs) {kvs : List (List Key × V)} (hg : Gt N δ x (.ot kvs)) (hv : visB sc x = true) (hz : kvs.length < 1000000) (h : DE X e δ fun d => DE X b δ fun y => ∃ v q, d = .a v ∧ y = .tup ((q.map kV).map Da.a) ∧ ∃ δ', Ss N δ x (some (.ot (putK kvs q v))) δ' ∧ nx δ')
    (hs : swapsWith e (some (.Subscript (.Name x p2) b p3)) pos.line X.env = pure false := by rfl) : DS X (.Assign [.Subscript (.Name x p2) b p3] e pos) δ nx rt bk ct := .mk fun Bs B Hs H σ o D f => by
  have hu : X.A.units + 1 < cLine := by have := S.room.units; omega
  obtain ⟨i, h1, h2⟩ := hg.at
  obtain ⟨v, h3, p, rfl, e1, e2⟩ := o.slot i _ h2
  obtain ⟨v1, v2, v3⟩ := visB_ok hv
  refine WS.of (ps_dput hu (pe_var (i := i) (by rw [S.n]; exact h1) (by rw [S.hsc]; exact v1) v2 v3) pe_W pe_W hs) (h Bs B Hs H σ o _ fun d w Hs1 H1 g1 q1 r1 => ⟨_, h3, q1 Bs B Hs1 H1 σ (o.mono g1) _ fun y z Hs2 H2 g2 ⟨v, q, ed, ey, δ', hd, pd⟩ r2 => ?_⟩)
  subst ed ey
  cases r1.atom
  obtain ⟨t, ts, rfl, ht, rt⟩ := r2.tup_inv
  rw [rt.atoms] at ht
  obtain ⟨j, h5, rfl⟩ := hd.at
  obtain rfl : i = j := nodup_ix S.nd h1 h5
  have g := g1.trans g2
  have e3 := g.no p (by rw [e2]; exact fun z => nomatch z) e1
  refine ⟨p, _, rfl, DPut.t (g.hh _ _ e2) (g2.sub _ _ ht) (by have : sizeLine = 16777216 := sizeLine_eq; omega), f.nx _ _ Hs2 _ ((o.mono g).chg (s1 := .ot (putK kvs q _)) h2 rfl rfl h3 e3 ⟨p, rfl, e3, upd_same⟩) g.ss pd⟩

/-! ### loops -/
theorem ds_for (S : Sc M X k N sc cs) {body : List Stmt} (h : DI X tg it δ fun ds => ∃ I : Nat → Sg → Prop, I 0 δ ∧
      (∀ i d δ', ds[i]? = some d → I i δ' → ∃ nm, DG X tg nm d δ' fun δ2 => DB X body δ2 (I (i + 1)) rt nx (I (i + 1))) ∧ ∀ δ', I ds.length δ' → nx δ')
    (hs : ∀ x, foldedSetIterable it X.env x = pure x := by intro _; rfl) : DS X (.For tg it body [] pos) δ nx rt bk ct := .mk fun Bs B Hs H σ o D f =>
  WS.of (ps_for S.po S.calm pi_W pg_W pb_W hs) (h Bs B Hs H σ o _ fun ds J G Y Hs1 H1 g1 ⟨I, i0, step, fin⟩ wk hG hY => by
    refine for_it wk (fun i σ2 H2 => ∃ Hs2 δ2, Same Hs1 Hs2 ∧ Ok X.K Bs B Hs2 H2 σ2 δ2 ∧ i ≤ ds.length ∧ I i δ2) ?_ ?_ ?_ ?_
    · exact ⟨Hs1, δ, Same.refl _, o.mono g1, Nat.zero_le _, i0⟩
    · rintro i σ2 H2 hi ⟨Hs2, δ2, s2, o2, _⟩
      exact hG Hs2 H2 s2 o2.sub
    · rintro i x σ2 H2 H3 hi ⟨Hs2, δ2, s2, o2, _, pi⟩ hy
      obtain ⟨d, hd⟩ : ∃ d, ds[i]? = some d := ⟨ds[i], by simp [hi]⟩
      obtain ⟨Hs3, g3, rd⟩ := hY i d Hs2 H2 x H3 s2 o2.sub hd hy
      obtain ⟨nm, stp⟩ := step i d δ2 hd pi
      refine stp Bs B Hs3 H3 σ2 x (o2.mono g3) rd _ fun δ4 σ4 Hs4 H4 o4 g4 _ p4 => ?_
      have s4 := (s2.trans g3.ss).trans g4.ss
      refine p4 Bs B Hs4 H4 σ4 o4 _ ⟨fun δ5 σ5 Hs5 H5 o5 s5 p5 => ⟨Hs5, δ5, s4.trans s5, o5, by omega, p5⟩, fun d v Hs' H' g s h r => f.rt d v Hs' H' g (g1.ss.trans (s4.trans s)) h r, fun δ5 σ5 Hs5 H5 o5 s5 p5 => f.nx δ5 σ5 Hs5 H5 o5 (g1.ss.trans (s4.trans s5)) p5, fun δ5 σ5 Hs5 H5 o5 s5 p5 => ⟨Hs5, δ5, s4.trans s5, o5, by omega, p5⟩⟩
    · rintro σ2 H2 ⟨Hs2, δ2, s2, o2, _, pi⟩
      exact f.nx δ2 σ2 Hs2 H2 o2 (g1.ss.trans s2) (fin δ2 pi))
theorem ds_while (S : Sc M X k N sc cs) {c : Expr} {body : List Stmt} (I : Nat → Sg → Prop) (h0 : ∃ n, I n δ)
    (step : ∀ n δ', I n δ' → DT X c δ' fun z => (z = true → DB X body δ' (fun δ2 => ∃ n', n' < n ∧ I n' δ2) rt nx (fun δ2 => ∃ n', n' < n ∧ I n' δ2)) ∧ (z = false → nx δ')) : DS X (.While c body [] pos) δ nx rt bk ct := .mk fun Bs B Hs H σ o D f =>
  WS.of (ps_while S.po pt_W pb_W) (by
    obtain ⟨n0, i0⟩ := h0
    refine ⟨fun n σ2 H2 => ∃ Hs2 δ2, Same Hs Hs2 ∧ Ok X.K Bs B Hs2 H2 σ2 δ2 ∧ I n δ2, ⟨n0, Hs, δ, Same.refl _, o, i0⟩, ?_⟩
    rintro n σ2 H2 ⟨Hs2, δ2, s2, o2, pi⟩
    refine step n δ2 pi Bs B Hs2 H2 σ2 o2 _ fun z Hs3 H3 g3 pz => ?_
    cases z with
    | false => exact iteF (f.nx δ2 σ2 Hs3 H3 (o2.mono g3) (s2.trans g3.ss) (pz.2 rfl))
    | true =>
      refine iteT ⟨fun σ4 H4 => ∃ n', n' < n ∧ ∃ Hs4 δ4, Same Hs Hs4 ∧ Ok X.K Bs B Hs4 H4 σ4 δ4 ∧ I n' δ4, fun σ4 H4 h => h, ?_⟩
      have s3 := s2.trans g3.ss
      exact pz.1 rfl Bs B Hs3 H3 σ2 (o2.mono g3) _ ⟨fun δ5 σ5 Hs5 H5 o5 s5 ⟨n', hn, p5⟩ => ⟨n', hn, Hs5, δ5, s3.trans s5, o5, p5⟩, fun d v Hs' H' g s h r => f.rt d v Hs' H' g (s3.trans s) h r, fun δ5 σ5 Hs5 H5 o5 s5 p5 => f.nx δ5 σ5 Hs5 H5 o5 (s3.trans s5) p5, fun δ5 σ5 Hs5 H5 o5 s5 ⟨n', hn, p5⟩ => ⟨n', hn, Hs5, δ5, s3.trans s5, o5, p5⟩⟩)
end
end DL

/-! DL5: promises over data, calls of defs, bodies of defs. -/
namespace DL
open PySem PySem.Spec PyProof.Rows L2

/-- a promise over data: args, what is asked of them, what is handed back -/
def SpD (K : PySem.W.Frag) {α : Type} (ms : List Bool) (args : α → List Da) (pre : α → Prop) (post : α → Da → Prop) : Sp := fun vs H Q _ =>
  ∃ (a : α) (Hs : Hp), Same Hs H ∧ RpL K Hs H ms (args a) vs ∧ pre a ∧ ∀ d v Hs' H', Go Hs H Hs' H' → post a d → Rp K Hs' d v → Q v H'
structure Cal {α : Type} (M : Md) (k : Nat) (x : Str) (ms : List Bool) (args : α → List Da) (pre : α → Prop) (post : α → Da → Prop) : Prop where
  ex : ∃ f fd ps, FnOk M.P M.w M.K M.mg M.base CX0 k f fd ps (SpD M.K ms args pre post) ∧ M.mg x = some (.ref f) ∧ PySem.W.keepIn M.K (.ref f) = true ∧ Binds M.K fd ps []
theorem Cal.mono {α : Type} {M : Md} {k j : Nat} {x : Str} {ms : List Bool} {args : α → List Da} {pre : α → Prop} {post : α → Da → Prop} (c : Cal M k x ms args pre post) (h : k ≤ j) : Cal M j x ms args pre post := by
  obtain ⟨f, fd, ps, F, h1, h2, h3⟩ := c.ex
  exact ⟨f, fd, ps, F.mono h, h1, h2, h3⟩
def startS (n : Nat) (ms : List Bool) (ds : List Da) : Sg := List.zipWith (fun m d => some (if m = true then SD.d d else SD.b d)) ms ds ++ List.replicate (n - ms.length) none
section
variable {M : Md} {X : Cx} {k : Nat} {N : List Str} {sc cs : Scope} {δ δ' : Sg} {m : Bool} {Φ Ψ : Da → Prop} {x y : Str} {pos p2 p3 apos : Pos} {e a b o tg it : Expr} {es : List Expr}
theorem RpL.len2 {K : PySem.W.Frag} {Hs H : Hp} : ∀ {ms : List Bool} {ds : List Da} {vs : List V}, RpL K Hs H ms ds vs → ds.length = ms.length
  | _, _, _, .nil => rfl
  | _, _, _, .cons _ t => congrArg (· + 1) t.len2
theorem RpL.get {K : PySem.W.Frag} {Hs H : Hp} : ∀ {ms : List Bool} {ds : List Da} {vs : List V} {i : Nat} {m : Bool} {d : Da}, RpL K Hs H ms ds vs → ms[i]? = some m → ds[i]? = some d → ∃ v, vs[i]? = some v ∧ RpM m K Hs H d v
  | _, _, _, _, _, _, .nil, e, _ => by simp at e
  | _, _, _, 0, _, _, .cons r _, e, e2 => by simp at e e2; subst e e2; exact ⟨_, rfl, r⟩
  | _, _, _, i + 1, m, d, .cons _ t, e, e2 => by
    obtain ⟨v, h1, h2⟩ := RpL.get (i := i) (m := m) (d := d) t (by simpa using e) (by simpa using e2)
    exact ⟨v, by simpa using h1, h2⟩
theorem ok_start {K : PySem.W.Frag} {Hs H : Hp} {ms : List Bool} {ds : List Da} {vs : List V} (e : Same Hs H) (r : RpL K Hs H ms ds vs) (hn : ms.length ≤ N.length) : Ok K Hs H Hs H (L2.start N vs) (startS N.length ms ds) := by
  have hv := r.lens
  have hd := r.len2
  have key : ∀ {i : Nat} {s : SD}, (startS N.length ms ds)[i]? = some (some s) → ∃ m d, ms[i]? = some m ∧ ds[i]? = some d ∧ s = (if m = true then SD.d d else SD.b d) := fun {i s} h => by
    unfold startS at h
    by_cases hi : i < ms.length
    · rw [List.getElem?_append_left (by simp [hd]; exact hi), List.getElem?_zipWith] at h
      rw [List.getElem?_eq_getElem hi, List.getElem?_eq_getElem (show i < ds.length by omega)] at h
      refine ⟨_, _, List.getElem?_eq_getElem hi, List.getElem?_eq_getElem (show i < ds.length by omega), ?_⟩
      simpa using h.symm
    · rw [List.getElem?_append_right (by simp [hd]; omega), List.getElem?_replicate] at h
      split at h <;> cases h
  have own : ∀ {i : Nat} {s : SD}, (startS N.length ms ds)[i]? = some (some s) → s.own = false := fun {i s} h => by
    obtain ⟨m, d, _, _, rfl⟩ := key h
    cases m <;> rfl
  refine ⟨Go.refl e, fun i s h => ?_, ?_, fun i s p h w _ => ?_, fun i j s t p h _ w _ _ _ => ?_⟩
  · obtain ⟨m, d, h1, h2, rfl⟩ := key h
    obtain ⟨v, h3, h4⟩ := r.get h1 h2
    refine ⟨v, ?_, ?_⟩
    · unfold L2.start
      have hi : i < vs.length := (List.getElem?_eq_some_iff.mp h3).1
      rw [List.getElem?_append_left (by simpa using hi), List.getElem?_map, h3]
      rfl
    · cases m with
      | true => exact h4
      | false => exact h4
  · unfold L2.start startS
    simp [hd]
    omega
  · rw [own h] at w; cases w
  · rw [own h] at w; cases w
theorem sc_of {P : Program} {w : World} {K : PySem.W.Frag} {mg : Str → Option Value} {base : Heap} {qual : Str} {scope : Scope} {f : Addr} {cd : Value} {A : Around} {outer : List Env} {s : Shared} {H : Hp} {E : XK} {ps : List Str}
    (S : FnScope N ps scope) (hr : Room k (A.deeper (envOfC qual scope s.heap.objs.size f cd))) : Sc ⟨P, w, K, mg, base⟩ (cxOf CX0 P w K mg base N qual scope f cd A outer s H E).nox k N scope scope :=
  ⟨rfl, rfl, rfl, rfl, rfl, rfl, S.nd, rfl, hr, S.kind, PassesOwn.never, rfl, fun x h => ⟨locB_ok h, .inl rfl⟩⟩
/-- THE RULE for a def over data -/
theorem fn_ok {α : Type} {qual : Str} {st : Stmt} {f : Addr} {fd : FuncData} {ps : List Str} {ms : List Bool} {args : α → List Da} {pre : α → Prop} {post : α → Da → Prop} (F : Fun M.K x qual st f fd) (S : FnScope N ps (defScope st)) (hl : ms.length = ps.length)
    (hbody : ∀ X, Sc M X k N (defScope st) (defScope st) → ∀ a, pre a → DB X (defBody st) (startS N.length ms (args a)) (fun _ => post a .non) (post a) (fun _ => False) (fun _ => False)) :
    FnOk M.P M.w M.K M.mg M.base CX0 (k + 1) f fd ps (SpD M.K ms args pre post) := by
  refine F.ok S (fun vs H Q E h => ?_) (fun cdv A outer s H vs Q E hr h => ?_)
  · obtain ⟨a, Hs, _, r, _⟩ := h
    rw [r.lens, hl]
  · obtain ⟨a, Hs, e, r, hp, q⟩ := h
    have hN : ms.length ≤ N.length := by
      have := congrArg List.length S.pre
      rw [List.length_take] at this
      omega
    refine ⟨_, pb_W, hbody _ (sc_of S hr) a hp Hs H Hs H _ (ok_start e r hN) _ ⟨fun δ σ Hs' H' o _ h => q .non .non Hs' H' o.go h (.a _), fun d v Hs' H' g _ h r => q d v Hs' H' g h r, fun _ _ _ _ _ _ h => h.elim, fun _ _ _ _ _ _ h => h.elim⟩⟩
theorem cal_mk {α : Type} {f : Addr} {fd : FuncData} {ps : List Str} {ms : List Bool} {args : α → List Da} {pre : α → Prop} {post : α → Da → Prop} (F : FnOk M.P M.w M.K M.mg M.base CX0 k f fd ps (SpD M.K ms args pre post)) (h1 : M.mg x = some (.ref f))
    (h2 : PySem.W.keepIn M.K (.ref f) = true) (h3 : Binds M.K fd ps []) : Cal M k x ms args pre post := ⟨f, fd, ps, F, h1, h2, h3⟩
/-- a call of a def -/
theorem de_call {α : Type} {ms : List Bool} {args : α → List Da} {pre : α → Prop} {post : α → Da → Prop} (S : Sc M X k N sc cs) (c : Cal M k x ms args pre post) (hg : glB sc x = true) (h : DA X ms (e :: es) δ fun ds => ∃ a, ds = args a ∧ pre a ∧ ∀ d, post a d → Φ d)
    (he : starEach (e :: es) X.env = (false, eval e X.env) :: starEach es X.env := by rfl) (hpl : (backTo pos (starEach es X.env)).any (·.1) = false := by rfl) : DM X m (.Call (.Name x p2) (e :: es) [] pos) δ Φ := DM.of <| .mk fun Bs B Hs H σ o Q q => by
  obtain ⟨f, fd, ps, F, h1, h2, h3⟩ := c.ex
  obtain ⟨g1, g2, g3⟩ := glB_ok hg
  have F' : FnOk X.prog X.w X.K X.mg X.base CX0 k f fd ps (SpD X.K ms args pre post) := by rw [S.hP, S.hw, S.hK, S.hmg, S.hb]; exact F
  refine WE.of (pe_call (dvs := []) (ds := []) (E := E0) F' S.room (by show X.env.scope.names.lookup x = _; rw [S.hsc]; exact g1) (by rw [S.hmg]; exact h1) (by rw [S.hK]; exact h2) (by rw [S.hK]; exact h3) .nil pass0 pa_W g2 he hpl) ?_
  refine h Bs B Hs H σ o _ fun ds vs Hs1 H1 gg ⟨a, ea, pa, k⟩ r => ?_
  subst ea
  rw [List.append_nil]
  exact ⟨a, Hs1, gg.sub, r, pa, fun d v Hs' H' g p rd => q d v Hs' H' (gg.trans g) (k d p) rd⟩
end

/-! ### constants of the module -/
def GlS (M : Md) (x s : Str) : Prop := ∃ t, M.mg x = some (.str s t)
def GlI (M : Md) (x : Str) (i : Int) : Prop := ∃ t, M.mg x = some (.int i t)
section
variable {M : Md} {X : Cx} {k : Nat} {N : List Str} {sc cs : Scope} {δ δ' : Sg} {m : Bool} {Φ Ψ : Da → Prop} {x y : Str} {pos p2 p3 apos : Pos} {e a b o tg it : Expr} {es : List Expr}
theorem de_globS (S : Sc M X k N sc cs) {s : Str} (hm : GlS M x s) (hg : glB sc x = true) (h : Φ (.str s)) : DM X m (.Name x pos) δ Φ := by
  obtain ⟨t, e⟩ := hm
  exact de_glob (v := .str s) S hg e ⟨t, rfl⟩ h
theorem de_globI (S : Sc M X k N sc cs) {i : Int} (hm : GlI M x i) (hg : glB sc x = true) (h : Φ (.int i)) : DM X m (.Name x pos) δ Φ := by
  obtain ⟨t, e⟩ := hm
  exact de_glob (v := .int i) S hg e ⟨t, rfl⟩ h
theorem dp_none {Φ : Option Int → Prop} (h : Φ none) : DP X none δ Φ := h
theorem dp_some {Φ : Option Int → Prop} (h : DE X e δ fun d => ∃ i, d = .int i ∧ Φ (some i)) : DP X (some e) δ Φ := h
theorem spT {A B : Prop} (h : A) : (true = true → A) ∧ (true = false → B) := ⟨fun _ => h, fun z => Bool.noConfusion z⟩
theorem spF {A B : Prop} (h : B) : (false = true → A) ∧ (false = false → B) := ⟨fun z => Bool.noConfusion z, fun _ => h⟩
/-- two-way splits -/
theorem two {A B : Bool → Prop} {c : Bool} (h1 : c = true → A true) (h2 : c = false → B false) : (c = true → A true) ∧ (c = false → B false) := ⟨h1, h2⟩
end

/-! ### the end: a law -/
theorem law_imp {α : Type} {M : Md} {k : Nat} {f : Addr} {fd : FuncData} {ps : List Str} {post : List Int → Da → Prop} (F : FnOk M.P M.w M.K M.mg M.base CX0 k f fd ps (SpD M.K [true] (fun ns : List Int => [.scr ns]) (fun ns => ns.length ≤ 63) post)) (h : ∀ ns d, post ns d → d = .bl true) :
    FnOk M.P M.w M.K M.mg M.base CX0 k f fd ps (fun vs H Q _ => ∃ (a : Addr) (ns : List Int), vs = [.ref a] ∧ SqL M.K H a (ns.map V.int) ∧ ns.length ≤ 63 ∧ ∀ H', Q (.bl true) H') :=
  F.imp fun vs H Q E ⟨a, ns, ev, hs, hl, q⟩ => by
    subst ev
    refine ⟨ns, H, Same.refl _, .cons (.scr hs) .nil, hl, fun d v Hs' H' g p r => ?_⟩
    cases h ns d p
    cases r.atom
    exact q H'
end DL

/-! DL6: what == tells of data. -/
namespace DL
open PySem PySem.Spec PyProof.Rows L2
inductive Shp : Nat → Da → Prop
  | non {n : Nat} : Shp n .non
  | bl {n : Nat} (b : Bool) : Shp n (.bl b)
  | int {n : Nat} (i : Int) : Shp n (.int i)
  | str {n : Nat} {x : Str} (h : PyData.strOk x = true) : Shp n (.str x)
  | lst {n : Nat} {l : List Da} (h : ∀ d ∈ l, Shp n d) : Shp (n + 1) (.lst l)
  | tup {n : Nat} {l : List Da} (h : ∀ d ∈ l, Shp n d) : Shp (n + 1) (.tup l)
theorem plAll_of : ∀ {l : List Da}, (∀ d ∈ l, Pl d) → PlAll l
  | [], _ => .nil
  | d :: l, h => .cons (h d List.mem_cons_self) (plAll_of fun e he => h e (List.mem_cons_of_mem _ he))
theorem Shp.pl {n : Nat} {d : Da} (h : Shp n d) : Pl d := by
  induction h with
  | non => exact .non
  | bl b => exact .bl b
  | int i => exact .int i
  | str h => exact .str _
  | lst h ih => exact .lst (plAll_of ih)
  | tup h ih => exact .tup (plAll_of ih)
theorem layAll_of : ∀ {l : List Da}, (∀ d ∈ l, PyData.canLay0 d.py = true) → PyData.canLayAll0 (l.map Da.py) = true
  | [], _ => by simp [PyData.canLayAll0]
  | d :: l, h => by
    rw [List.map_cons, PyData.canLayAll0, h d List.mem_cons_self, layAll_of fun e he => h e (List.mem_cons_of_mem _ he)]
    rfl
theorem depAll_of {n : Nat} : ∀ {l : List Da}, (∀ d ∈ l, PyData.depth d.py ≤ n) → PyData.depthAll (l.map Da.py) ≤ n
  | [], _ => by simp [PyData.depthAll]
  | d :: l, h => by
    have h1 := h d List.mem_cons_self
    have h2 := depAll_of (n := n) (l := l) fun e he => h e (List.mem_cons_of_mem _ he)
    simp only [PyData.depthAll, List.map_cons]
    omega
theorem Shp.lay {n : Nat} {d : Da} (h : Shp n d) : PyData.canLay0 d.py = true := by
  induction h with
  | non => simp [Da.py, PyData.canLay0]
  | bl b => simp [Da.py, PyData.canLay0]
  | int i => simp [Da.py, PyData.canLay0]
  | str h => simp [Da.py, PyData.canLay0, h]
  | lst h ih => rw [Da.py, PyData.canLay0]; exact layAll_of ih
  | tup h ih => rw [Da.py, PyData.canLay0]; exact layAll_of ih
theorem Shp.dep {n : Nat} {d : Da} (h : Shp n d) : PyData.depth d.py ≤ n + 1 := by
  induction h with
  | non => simp [Da.py, PyData.depth]
  | bl b => simp [Da.py, PyData.depth]
  | int i => simp [Da.py, PyData.depth]
  | str h => simp [Da.py, PyData.depth]
  | lst h ih =>
    rw [Da.py, PyData.depth]
    have := depAll_of ih
    omega
  | tup h ih =>
    rw [Da.py, PyData.depth]
    have := depAll_of ih
    omega
theorem Shp.shaped {n : Nat} {d : Da} (h : Shp n d) (hn : n ≤ 60) : SeqAt.shaped d.py = true := by
  show (d.py.canLay0 && decide (d.py.depth ≤ 64)) = true
  have := h.dep
  rw [h.lay, decide_eq_true (by omega)]
  rfl
section
variable {Φ : Bool → Prop}
theorem cmp_eqD {n m : Nat} {x y : Da} (h1 : Shp n x) (h2 : Shp m y) (h : Φ (PyData.eqv x.py y.py)) (hn : n ≤ 60 := by decide) (hm : m ≤ 60 := by decide) : CmpW Φ .Eq x y := .eqD h1.pl h2.pl (h1.shaped hn) (h2.shaped hm) h
theorem cmp_neD {n m : Nat} {x y : Da} (h1 : Shp n x) (h2 : Shp m y) (h : Φ (!PyData.eqv x.py y.py)) (hn : n ≤ 60 := by decide) (hm : m ≤ 60 := by decide) : CmpW Φ .NotEq x y := .neD h1.pl h2.pl (h1.shaped hn) (h2.shaped hm) h
theorem eqv_nil (l : List Da) : PyData.eqv (Da.py (.lst l)) (Da.py (.lst [])) = l.isEmpty := by
  rw [Da.py, Da.py, PyData.eqv]
  cases l with
  | nil => simp [PyData.eqvAll]
  | cons d l => simp [PyData.eqvAll]
/-- xs != [], xs == [] -/
theorem cmp_neNil {n : Nat} {l : List Da} (h1 : Shp n (.lst l)) (h : Φ (!l.isEmpty)) (hn : n ≤ 60 := by decide) : CmpW Φ .NotEq (.lst l) (.lst []) := by
  refine cmp_neD (m := 1) h1 (.lst fun d hd => by cases hd) ?_ hn
  rw [eqv_nil]
  exact h
theorem cmp_eqNil {n : Nat} {l : List Da} (h1 : Shp n (.lst l)) (h : Φ l.isEmpty) (hn : n ≤ 60 := by decide) : CmpW Φ .Eq (.lst l) (.lst []) := by
  refine cmp_eqD (m := 1) h1 (.lst fun d hd => by cases hd) ?_ hn
  rw [eqv_nil]
  exact h
end

/-! ### text[::-1], list[::-1] -/
theorem rev_pick (z : Str) : ((Builtin.Str.strSliceIndices none none (-1) z.length).filterMap (z.cps[·]?)) = z.cps.toList.reverse := by
  have hi : Builtin.Str.strSliceIndices none none (-1) z.length = (List.range z.length).map fun i => z.length - 1 - i := by
    unfold Builtin.Str.strSliceIndices
    show sliceRange ((z.length : Int) - 1) (-1) (-1) = _
    unfold sliceRange
    rw [if_neg (by omega)]
    dsimp only
    have hc : ((if (z.length : Int) - 1 > -1 then ((z.length : Int) - 1 - (-1) - (-1) - 1) / (-(-1)) else 0) : Int).toNat = z.length := by
      split
      · rw [show ((z.length : Int) - 1 - (-1) - (-1) - 1) = (z.length : Int) by omega, show (-(-1) : Int) = 1 from rfl, Int.ediv_one]
        omega
      · omega
    rw [hc]
    refine List.map_congr_left fun i hi => ?_
    have := List.mem_range.mp hi
    omega
  rw [hi]
  have key : ∀ n, n ≤ z.length → (((List.range n).map fun i => z.length - 1 - i).filterMap (z.cps[·]?)) = (z.cps.toList.drop (z.length - n)).reverse := by
    intro n
    induction n with
    | zero =>
      intro _
      rw [Nat.sub_zero, List.drop_of_length_le (by show z.cps.toList.length ≤ z.cps.size; simp)]
      rfl
    | succ n ih =>
      intro hn
      rw [List.range_succ, List.map_append, List.filterMap_append, ih (by omega)]
      have hlt : z.length - 1 - n < z.cps.toList.length := by
        show z.cps.size - 1 - n < z.cps.toList.length
        have : z.length = z.cps.size := rfl
        simp
        omega
      have e1 : z.length - (n + 1) = z.length - 1 - n := by omega
      have e2 : z.length - n = z.length - 1 - n + 1 := by omega
      rw [e1, e2, List.drop_eq_getElem_cons hlt, List.reverse_cons]
      congr 1
      simp only [List.map_cons, List.map_nil]
      rw [List.filterMap_cons_some (b := z.cps.toList[z.length - 1 - n]) (by rw [← Array.getElem?_toList]; exact List.getElem?_eq_getElem hlt)]
      rfl
  rw [key z.length (Nat.le_refl _), Nat.sub_self, List.drop_zero]
/-- the step -1 as written -/
abbrev mone (k : Nat) (p1 p2 : Pos) : Expr := .UnaryOp .USub (.Constant (.int 1) k p1) p2
abbrev slB (k : Nat) (p1 p2 p3 : Pos) : Expr := .Slice none none (some (mone k p1 p2)) p3
theorem mone_po {X : Cx} {k : Nat} {p1 p2 : Pos} : PO X (some (mone k p1 p2)) (tPart (tUn (rU fun i => .int (-i)) (tC (.int 1)))) := po_some (pe_un un_neg pe_int)
/-- the slice, made behind the thing -/
theorem slice_made {X : Cx} {pins : List (Addr × Obj)} {σ : L2.St} {H : Hp} {s : Shared} {k : Nat} {p1 p2 p3 : Pos} {Q : Value → Shared → Prop} (I : Inv X pins σ H s)
    (q : ∀ va vb vc s2, Inv X pins σ H s2 → IsPart va none → IsPart vb none → IsPart vc (some (-1)) → Q (.ref s2.heap.objs.size) { s2 with heap := s2.heap.push { cls := .type "slice", data := .fields #[va, vb, vc] } }) : wpAny (model X.prog X.w) X.A (eval (slB k p1 p2 p3) X.env) Q X.xe s := by
  have none_run : ∀ {s1 : Shared}, Inv X pins σ H s1 → _ := fun {s1} J => po_none.run pins s1 σ H (fun o G => o = none ∧ G = H) J ⟨rfl, rfl⟩
  refine wpAny_Slice (thn (none_run I) fun va sa ⟨_, _, Ia, pa, ea, ga⟩ => ?_)
  subst ea ga
  refine thn (po_none.run pins sa σ _ (fun o G => o = none ∧ G = _) Ia ⟨rfl, rfl⟩) fun vb sb ⟨_, _, Ib, pb, eb, gb⟩ => ?_
  subst eb gb
  refine thn (mone_po.run pins sb σ _ (fun o G => o = some (-1) ∧ G = _) Ib ⟨1, rfl, -1, rfl, rfl, rfl⟩) fun vc sc ⟨_, _, Ic, pc, ec, gc⟩ => ?_
  subst ec gc
  exact q va vb vc sc Ic pa pb pc
/-! ### tuples reversed -/
theorem pick_revT (xs : Array Value) : ((List.range xs.size).filterMap fun (m : Nat) => xs[(((xs.size : Int) - 1) + (m : Int) * (-1)).toNat]?).toArray = xs.toList.reverse.toArray := by
  have key : ∀ n, n ≤ xs.size → ((List.range n).filterMap fun (m : Nat) => xs[(((xs.size : Int) - 1) + (m : Int) * (-1)).toNat]?) = (xs.toList.drop (xs.size - n)).reverse := by
    intro n
    induction n with
    | zero =>
      intro _
      rw [Nat.sub_zero, List.drop_of_length_le (by simp)]
      rfl
    | succ n ih =>
      intro hn
      rw [List.range_succ, List.filterMap_append, ih (by omega)]
      have hlt : xs.size - 1 - n < xs.toList.length := by simp; omega
      have e1 : xs.size - (n + 1) = xs.size - 1 - n := by omega
      have e2 : xs.size - n = xs.size - 1 - n + 1 := by omega
      rw [e1, e2, List.drop_eq_getElem_cons hlt, List.reverse_cons]
      congr 1
      have e3 : (((xs.size : Int) - 1) + (n : Int) * (-1)).toNat = xs.size - 1 - n := by omega
      rw [List.filterMap_cons_some (b := xs.toList[xs.size - 1 - n]) (by rw [e3, ← Array.getElem?_toList]; exact List.getElem?_eq_getElem hlt)]
      rfl
  rw [key xs.size (Nat.le_refl _), Nat.sub_self, List.drop_zero]
section
variable {prog : Program} {w : World} {A : Around} {E : Value → Shared → Prop} {s : Shared}
theorem applied_rev {sl : Addr} {u : Tok} {n : Nat} {Q : Int × Int × Nat → Shared → Prop} (hs : s.heap.IsSliceOf sl .none .none (.int (-1) u))
    (h : Q ((n : Int) - 1, -1, n) s) : wpAny (model prog w) A (Builtin.Slice.sliceApplied (.ref sl) (pure (n : Int))) Q E s := by
  obtain ⟨os, hos, hcs, hds⟩ := id hs
  unfold Builtin.Slice.sliceApplied Builtin.Slice.sliceFields
  refine wpAny_bind (wpAny_bind (wpAny_field hos hds (x := .none) rfl (wpAny_bind (wpAny_field hos hds (x := .none) rfl (wpAny_bind (wpAny_field hos hds (x := .int (-1) u) rfl (wpAny_pure ?_)))))))
  refine wpAny_bind (slicePart_int ?_)
  show wpAny _ _ (if ((-1 : Int) == 0) = true then _ else _) _ _ s
  rw [if_neg (by decide)]
  refine wpAny_bind (slicePart_none (wpAny_bind (slicePart_none (wpAny_bind (wpAny_pure ?_)))))
  show wpAny _ _ (match Builtin.Slice.sliceAdjust none none (-1) (n : Int) with | (lo, hi) => pure (lo, (-1 : Int), Builtin.Slice.slicePlaces lo hi (-1))) _ _ s
  have e1 : Builtin.Slice.sliceAdjust none none (-1) (n : Int) = ((n : Int) - 1, -1) := by
    unfold Builtin.Slice.sliceAdjust
    simp
  rw [e1]
  show wpAny _ _ (pure ((n : Int) - 1, (-1 : Int), Builtin.Slice.slicePlaces ((n : Int) - 1) (-1) (-1))) _ _ s
  have e2 : Builtin.Slice.slicePlaces ((n : Int) - 1) (-1) (-1) = n := by
    unfold Builtin.Slice.slicePlaces
    rw [if_neg (by omega)]
    split
    · rw [show (-(-1) : Int) = 1 from rfl, Int.ediv_one]
      omega
    · omega
  rw [e2]
  exact wpAny_pure h
theorem getItem_tup_rev {t sl : Addr} {items : Array Value} {u : Tok} {Q : Value → Shared → Prop} (ht : IsTup s.heap t items) (hs : s.heap.IsSliceOf sl .none .none (.int (-1) u))
    (h : Q (.ref s.heap.objs.size) { s with heap := s.heap.push { cls := .type "tuple", data := .seq items.toList.reverse.toArray } })
    (hsz : items.size ≤ sizeLine) : wpAny (model prog w) A (getItem (.ref t) (.ref sl)) Q E s := by
  have htake : sizeOk (.seq items.toList.reverse.toArray) := by
    show items.toList.reverse.toArray.size ≤ sizeLine
    simpa using hsz
  obtain ⟨os, hos, hcs, hds⟩ := id hs
  have hTs : s.TypeIs (.ref sl) "slice" := ⟨os, hos, hcs⟩
  unfold getItem
  try with_reducible refine wpAny_holding ?_
  first | refine wpAny_bind (wpAny_pure ?_) | skip
  refine wpAny_bind (wpAny_sequenceKey ht.typeIs (by decide) ?_)
  refine wpAny_bind (wpAny_callSpecial?_slot (name := Str.ofString "__getitem__") ht.typeIs PyProof.Rows.slot_tuple_getitem
    (wpAny_call_entry PyProof.Rows.slot_tuple_getitem ht.typeIs entry_tuple_getitem ?_ (args_tuple_getitem _ _)))
  show wpAny _ _ (Builtin.Tuple.tupleItemsOf (.ref t) >>= _) _ _ s
  refine wpAny_bind (tupleItemsOf_ ht ?_)
  refine wpAny_bind (wpAny_typeOf hTs ?_)
  rw [if_pos (by decide)]
  refine wpAny_bind (applied_rev hs ?_)
  have hno : ¬ ((((items.size : Int) - 1 == 0) && (-1 : Int) == 1 && items.size == items.size) = true) := by
    intro q
    rw [Bool.and_eq_true, Bool.and_eq_true] at q
    exact absurd (eq_of_beq q.1.2) (by decide)
  show wpAny _ _ (if ((((items.size : Int) - 1 == 0) && (-1 : Int) == 1 && items.size == items.size) = true) then _ else _) _ _ s
  rw [if_neg hno, pick_revT]
  first
    | exact wpAny_bind (m := Builtin.Tuple.tupleExact _) (wpAny_newObj_type (wpAny_pure ⟨_, rfl, wpAny_pure h⟩) htake)
    | exact wpAny_bind (m := Builtin.Tuple.tupleExact _) (wpAny_newObj_type (wpAny_bind (wpAny_pure (wpAny_pure ⟨_, rfl, wpAny_pure h⟩))) htake)
    | exact wpAny_bind (wpAny_bind (m := Builtin.Tuple.tupleExact _) (wpAny_newObj_type (wpAny_pure (wpAny_pure ⟨_, rfl, wpAny_pure h⟩)) htake))
    | exact wpAny_bind (wpAny_bind (m := Builtin.Tuple.tupleExact _) (wpAny_newObj_type (wpAny_pure ⟨_, rfl, wpAny_pure h⟩) htake))
end
theorem pe_revS {X : Cx} {e : Expr} {te : TE} {k : Nat} {p1 p2 p3 pos : Pos} (he : PE X e te) : PE X (.Subscript e (slB k p1 p2 p3) pos) (fun σ H Q => te σ H fun x H1 =>
    (∃ z, x = .str z ∧ z.length ≤ sizeLine ∧ Q (.str ⟨z.cps.toList.reverse.toArray⟩) H1) ∨ (∃ a xs, x = .ref a ∧ SqL X.K H1 a xs ∧ ∀ p, H1 p = none → Q (.ref p) (upd H1 p (.lst xs.reverse))) ∨ (∃ a xs, x = .ref a ∧ SqT X.K H1 a xs ∧ ∀ p, H1 p = none → Q (.ref p) (upd H1 p (.tup xs.reverse)))) := by
  refine .mk fun pins s σ H Q I h => ?_
  refine Subscript_ (thn (he.run pins s σ H _ I h) fun v s1 ⟨x, H4, I1, r1, q1⟩ => slice_made I1 fun vl vu vs s4 I4 pl pu ps => ?_)
  have I5 : Inv X pins σ H4 { s4 with heap := s4.heap.push { cls := .type "slice", data := .fields #[vl, vu, vs] } } :=
    I4.kept (t' := s4.toks) fun b ob q => Heap.get?_push_of_some _ q
  rcases q1 with ⟨z, rfl, hz, q⟩ | ⟨a, xs, ex, hx, q⟩ | ⟨a, xs, ex, hx, q⟩
  · obtain ⟨t, rfl⟩ := r1
    show wpAny (model X.prog X.w) X.A (subscriptTail e (slB k p1 p2 p3) (.str z t) (.ref s4.heap.objs.size)) (EP X pins σ Q) X.xe { s4 with heap := s4.heap.push { cls := .type "slice", data := .fields #[vl, vu, vs] } }
    refine tail_any (ops := [.str z t, .ref s4.heap.objs.size]) (typeIs_str _ z t) (PySem.F.slot_str_getitem.lookup) ?_ (by with_unfolding_all rfl)
    obtain ⟨l, rfl, el⟩ := IsPart.raw pl
    obtain ⟨u, rfl, eu⟩ := IsPart.raw pu
    obtain ⟨w, rfl, ew⟩ := IsPart.raw ps
    obtain rfl : l = none := by cases l; rfl; cases el
    obtain rfl : u = none := by cases u; rfl; cases eu
    refine wpAny_getItem_str_slice (l := none) (u := none) (st := w) ⟨_, Heap.get?_push_size _ rfl, rfl, rfl⟩ (by rw [ew]; rfl) ?_
    unfold sliceMade
    rw [ew]
    have hp : slicePicked z none none w = Builtin.Str.strSliceIndices none none (-1) z.length := by
      unfold slicePicked
      rw [ew]
      rfl
    rw [if_neg (by simp), hp, rev_pick]
    refine ⟨?_, .str _, H4, I5.tok _, ⟨_, rfl⟩, q⟩
    show (z.cps.toList.reverse.toArray).size ≤ sizeLine
    rw [List.size_toArray, List.length_reverse, Array.length_toList]
    exact hz
  · subst ex
    cases r1
    obtain ⟨own, rv, hL, hz⟩ := I5.list hx
    have hlen := rv.length
    show wpAny (model X.prog X.w) X.A (subscriptTail e (slB k p1 p2 p3) (.ref a) (.ref s4.heap.objs.size)) (EP X pins σ Q) X.xe { s4 with heap := s4.heap.push { cls := .type "slice", data := .fields #[vl, vu, vs] } }
    refine tail_any (ops := [.ref a, .ref _]) hL.isList.typeIs (PySem.slot_list_getitem.lookup) ?_ (by with_unfolding_all rfl)
    refine wpAny_getItem_list_slice hL.isList (Heap.IsSliceOf.new _ vl vu vs) pl pu ps
      (by decide) ?_ (by rw [List.size_toArray]; omega)
    rw [PySem.W.krv_pick]
    refine ⟨.ref _, _, I5.laid (t' := s4.toks) (o := .lst xs.reverse) (fun _ _ g => Heap.get?_push_of_some _ g) (Nat.le_refl _) ?_, rfl, q _ (I5.hok.fresh (Nat.le_refl _))⟩
    exact ⟨by simpa using hz, _, 0, rv.reverse, Heap.get?_push_size _ rfl⟩
  · subst ex
    cases r1
    obtain ⟨its, rv, ht, hz⟩ := I5.tuple hx
    show wpAny (model X.prog X.w) X.A (subscriptTail e (slB k p1 p2 p3) (.ref a) (.ref s4.heap.objs.size)) (EP X pins σ Q) X.xe { s4 with heap := s4.heap.push { cls := .type "slice", data := .fields #[vl, vu, vs] } }
    refine tail_any (ops := [.ref a, .ref _]) ht.typeIs (PyProof.Rows.slot_tuple_getitem.lookup) ?_ (by with_unfolding_all rfl)
    obtain ⟨w, rfl⟩ : ∃ w, vs = .int (-1) w := by cases ps; exact ⟨_, rfl⟩
    obtain rfl : vl = .none := by cases pl; rfl
    obtain rfl : vu = .none := by cases pu; rfl
    refine getItem_tup_rev ht (Heap.IsSliceOf.new _ _ _ _) ?_ (by rw [List.size_toArray]; have := rv.length; omega)
    refine ⟨.ref _, _, I5.laid (t' := s4.toks) (o := .tup xs.reverse) (fun _ _ g => Heap.get?_push_of_some _ g) (Nat.le_refl _) ?_, rfl, q _ (I5.hok.fresh (Nat.le_refl _))⟩
    exact ⟨by simpa using hz, _, rv.reverse, IsTup.new _ _⟩
inductive RevW (Φ : Da → Prop) : Da → Prop
  | str {z : Str} : z.length ≤ sizeLine → Φ (.str ⟨z.cps.toList.reverse.toArray⟩) → RevW Φ (.str z)
  | lst {l : List Da} : Φ (.lst l.reverse) → RevW Φ (.lst l)
  | tup {l : List Da} : Φ (.tup l.reverse) → RevW Φ (.tup l)
section
variable {M : Md} {X : Cx} {δ : Sg} {m : Bool} {Φ : Da → Prop} {a : Expr}
theorem de_rev {k : Nat} {p1 p2 p3 pos : Pos} (h : DE X a δ fun x => RevW Φ x) : DM X m (.Subscript a (.Slice none none (some (.UnaryOp .USub (.Constant (.int 1) k p1) p2)) p3) pos) δ Φ := DM.of <| .mk fun Bs B Hs H σ o Q q =>
  WE.of (pe_revS pe_W) (h Bs B Hs H σ o _ fun x v Hs1 H1 g1 hb r1 => by
    cases hb with
    | str hl h => cases r1.atom; exact .inl ⟨_, rfl, hl, q _ _ Hs1 H1 g1 h (.a _)⟩
    | lst h =>
      obtain ⟨p, vs, rfl, hp, ra⟩ := r1.lst_inv
      exact .inr (.inl ⟨p, vs, rfl, .of (g1.sub _ _ hp), fun b hb => q _ _ _ _ (g1.trans (Go.new g1.sub hb)) h (.lst upd_same (ra.rev.mono (same_upd (g1.sub.free hb))))⟩)
    | tup h =>
      obtain ⟨p, vs, rfl, hp, ra⟩ := r1.tup_inv
      exact .inr (.inr ⟨p, vs, rfl, .of (g1.sub _ _ hp), fun b hb => q _ _ _ _ (g1.trans (Go.new g1.sub hb)) h (.tup upd_same (ra.rev.mono (same_upd (g1.sub.free hb))))⟩))
end
end DL

/-! DL7: the list of draws; comprehensions' usual forms. -/
namespace DL
open PySem PySem.Spec PyProof.Rows L2
section
variable {M : Md} {X : Cx} {k : Nat} {N : List Str} {sc cs : Scope} {δ δ' : Sg} {m : Bool} {Φ Ψ : Da → Prop} {x y : Str} {pos p2 p3 apos : Pos} {e a b o tg it : Expr} {es : List Expr}
  {st : Stmt} {sts : List Stmt} {nx bk ct : Sg → Prop} {rt : Da → Prop}
theorem upd_id {H : Hp} {p : Addr} {o : HO} (h : H p = some o) : upd H p o = H := by
  funext q
  unfold upd
  split
  · rename_i e; rw [e, h]
  · rfl
theorem drw_ok {H : Hp} {h : Heap} {p : Addr} (d : Drw p h) {P : Program} {w : World} : ObjOk P w H h p (.ext (Drw p)) := by
  refine ⟨d, ?_, fun h1 h2 ⟨n, x, y, t, u, e, b⟩ k => ⟨n, x, y, t, u, k _ e, b⟩⟩
  obtain ⟨n, x, y, t, u, e, _⟩ := d
  exact ⟨_, e⟩
/-- draws[0] = e -/
theorem set_drw : PSet X (fun o i v H Q => ∃ p k z, o = .ref p ∧ H p = some (.ext (Drw p)) ∧ i = .int k ∧ (k = 0 ∨ k = 1) ∧ v = .int z ∧ (k = 1 → 0 ≤ z ∧ z < 2147483648) ∧ Q H) := by
  intro pins s σ H o i v ov iv u Q I ro ri rv h
  obtain ⟨p, k, z, rfl, hp, rfl, hk, rfl, hz, q⟩ := h
  cases ro
  obtain ⟨t, rfl⟩ := ri
  obtain ⟨tz, rfl⟩ := rv
  obtain ⟨⟨n, a, b, ta, tb, ho, hb⟩, _, _⟩ := I.hok p _ hp
  have main : ∀ j : Nat, j = 0 ∨ (j = 1 ∧ 0 ≤ z ∧ z < 2147483648) → Inv X pins σ H { s with heap := s.heap.update p (Obj.mapSeq (·.setIfInBounds j (.int z tz))) } := fun j hj => by
    have e : (s.heap.update p (Obj.mapSeq (·.setIfInBounds j (.int z tz)))).get? p = some { cls := .type "list", data := .seq (([.int a ta, .int b tb] : List Value).set j (.int z tz)).toArray n } := by
      have em := mapSeq_set [.int a ta, .int b tb] n j (.int z tz)
      rw [Heap.get?_update_self _ ho (by rw [em] <;> rfl), em]
    have I' := I.write (x := p) (e := p) (o := .ext (Drw p)) (t' := s.toks) (h' := s.heap.update p (Obj.mapSeq (·.setIfInBounds j (.int z tz)))) (by rw [hp]; trivial) (.inl rfl) (fun b u hb q => (Heap.get?_update_other _ _ (Ne.symm hb)).trans q) ⟨_, e⟩ (drw_ok (by
      rcases hj with rfl | ⟨rfl, hz⟩
      · exact ⟨n, z, b, tz, tb, e, hb⟩
      · exact ⟨n, a, z, ta, tz, e, hz⟩))
    rw [upd_id hp] at I'
    exact I'
  rcases hk with rfl | rfl
  · exact PySem.W.ki_setAt ho (by decide) (by decide) (by show (0 : Int) < 2; decide) ⟨_, main 0 (.inl rfl), q⟩
  · exact PySem.W.ki_setAt ho (by decide) (by decide) (by show (1 : Int) < 2; decide) ⟨_, main 1 (.inr ⟨rfl, hz rfl⟩), q⟩
theorem ds_drwSet (S : Sc M X k N sc cs) (hg : Gt N δ x (.d .drw)) (hv : visB sc x = true) (h : DE X e δ fun d => DE X b δ fun y => ∃ z i, d = .int z ∧ y = .int i ∧ (i = 0 ∨ i = 1) ∧ (i = 1 → 0 ≤ z ∧ z < 2147483648) ∧ nx δ)
    (hs : swapsWithSole [.Subscript (.Name x p2) b p3] e pos.line X.env = pure false := by rfl) (hw : swappedStores [.Subscript (.Name x p2) b p3] e X.env = pure none := by rfl)
    (h1 : (assignEach [.Subscript (.Name x p2) b p3] X.env).map (·.2) = [assign (.Subscript (.Name x p2) b p3) X.env] := by rfl)
    (ha : ∀ v, assign (.Subscript (.Name x p2) b p3) X.env v = (do
      let ov ← holding [v] (eval (.Name x p2) X.env)
      let iv ← holding [v, ov] (eval b X.env)
      standAt p3
      holding [v, ov, iv] (setItem ov iv v)
      release [v, ov, iv] []) := by intro _; rfl) : DS X (.Assign [.Subscript (.Name x p2) b p3] e pos) δ nx rt bk ct := .mk fun Bs B Hs H σ o D f => by
  obtain ⟨i, hi, h2⟩ := hg.at
  obtain ⟨v, h3, r⟩ := o.slot i _ h2
  obtain ⟨p, rfl, hp⟩ := r.drw_inv
  obtain ⟨v1, v2, v3⟩ := visB_ok hv
  refine WS.of (ps_asg pe_W (pg_sub (pe_var (i := i) (by rw [S.n]; exact hi) (by rw [S.hsc]; exact v1) v2 v3) pe_W set_drw ha) hs hw h1) (h Bs B Hs H σ o _ fun d w Hs1 H1 g1 q1 r1 => ⟨_, h3, q1 Bs B Hs1 H1 σ (o.mono g1) _ fun y z Hs2 H2 g2 ⟨zz, j, ed, ey, hj, hz, pd⟩ r2 => ?_⟩)
  subst ed ey
  cases r1.atom
  cases r2.atom
  have g := g1.trans g2
  exact ⟨p, j, zz, rfl, g2.sub _ _ (g.ss _ _ hp), rfl, hj, rfl, hz, f.nx _ _ Hs2 H2 (o.mono g) g.ss pd⟩
/-- [a, b], two numbers: the list of draws -/
theorem pe_lstDrw {ta : TA} (h : PA X es ta) : PE X (.List es pos) (fun σ H Q => ta σ H fun xs H1 => ∃ i j, xs = [.int i, .int j] ∧ (0 ≤ j ∧ j < 2147483648) ∧ ∀ p, H1 p = none → Q (.ref p) (upd H1 p (.ext (Drw p)))) := by
  refine ⟨fun pins s σ H Q I hq => ?_⟩
  refine wpAny_List_spliced (thn (h.run pos pins s σ H _ I hq) fun us s1 ⟨xs, H1, I1, r, i, j, ex, hb, q⟩ => ?_)
  subst ex
  obtain ⟨u1, u2, rfl, ⟨t1, e1⟩, ⟨t2, e2⟩⟩ := vals2 r
  subst e1 e2
  refine ⟨by show 2 ≤ sizeLine; decide, ?_⟩
  have hf : H1 s1.heap.objs.size = none := I1.hok.fresh (Nat.le_refl _)
  refine ⟨.ref s1.heap.objs.size, upd H1 s1.heap.objs.size (.ext (Drw s1.heap.objs.size)), I1.laid (t' := s1.toks) (fun b u e => Heap.get?_push_of_some _ e) (Nat.le_refl _) ?_, rfl, q _ hf⟩
  exact drw_ok ⟨0, i, j, t1, t2, Heap.get?_push_size _ rfl, hb⟩
theorem de_lstDrw (h : DAt X es δ fun ds => ∃ i j, ds = [.int i, .int j] ∧ (0 ≤ j ∧ j < 2147483648) ∧ Φ .drw) : DM X m (.List es pos) δ Φ := DM.of <| .mk fun Bs B Hs H σ o Q q =>
  WE.of (pe_lstDrw pa_W) (h Bs B Hs H σ o _ fun ds vs Hs1 H1 g1 ⟨i, j, e, hb, p⟩ r _ => by
    subst e
    have e2 : vs = [.int i, .int j] := r.atoms (xs := [.int i, .int j])
    subst e2
    exact ⟨i, j, rfl, hb, fun a ha => q _ _ _ _ (g1.trans (Go.new g1.sub ha)) p (.drw upd_same)⟩)

theorem db_freezeL {l : List Da} (hg : Gt N δ x (.ol l)) (hs : ∃ δ', Ss N δ x (some (.d (.lst l))) δ' ∧ DB X sts δ' nx rt bk ct) (nd : N.Nodup) : DB X sts δ nx rt bk ct := db_freeze hg rfl hs nd
theorem db_freezeK {l : List (Key × V)} (hg : Gt N δ x (.ok l)) (hs : ∃ δ', Ss N δ x (some (.d (.dk l))) δ' ∧ DB X sts δ' nx rt bk ct) (nd : N.Nodup) : DB X sts δ nx rt bk ct := db_freeze hg rfl hs nd
theorem db_freezeT {l : List (List Key × V)} (hg : Gt N δ x (.ot l)) (hs : ∃ δ', Ss N δ x (some (.d (.dt l))) δ' ∧ DB X sts δ' nx rt bk ct) (nd : N.Nodup) : DB X sts δ nx rt bk ct := db_freeze hg rfl hs nd

/-! ### comprehensions -/
theorem de_lc1 (S : Sc M X k N sc cs) {scope : Scope} {ifs : List Expr} (h : DI X tg it δ fun ds => LcD M X k N sc scope tg e ifs (tgN 3 tg) δ ds Φ) (hk : blkB N sc scope (tgN 3 tg) = true)
    (hs : ∀ x, foldedSetIterable it X.env x = pure x := by intro _; rfl) : DM X m (.ListComp e [⟨tg, it, ifs, 0⟩] scope pos) δ Φ := de_lc S h hk hs
theorem ds_setLc1 (S : Sc M X k N sc cs) {scope : Scope} {ifs : List Expr} {py lp : Pos} (h : DI X tg it δ fun ds => LcD M X k N sc scope tg e ifs (tgN 3 tg) δ ds fun d => ∃ δ', Ss N δ y (some (.d d)) δ' ∧ nx δ') (hk : blkB N sc scope (tgN 3 tg) = true)
    (hy : (sc.names.lookup y == some .local && (py.line == lp.line) && !(scope.names.any fun (n, k) => n == y && (k == .local || k == .cell))) = true) (hN : N.contains y = true) (hs : ∀ x, foldedSetIterable it X.env x = pure x := by intro _; rfl) :
    DS X (.Assign [.Name y py] (.ListComp e [⟨tg, it, ifs, 0⟩] scope lp) pos) δ nx rt bk ct := ds_setLc S h hk hy hN hs
variable {scope : Scope} {os : List Str} {ifs : List Expr}
/-- [f(a) for a in l] -/
theorem lc_map {α : Type} {l : List α} {g f : α → Da} {δw : Sg} (hw : Wp N os δ δw) (hz : l.length ≤ 1000000)
    (h : ∀ X', Sc M X' k N (relS scope sc) scope → ∀ a ∈ l, DG X' tg os (g a) δw fun δ2 => ∀ X', Sc M X' k N (relS scope sc) scope → DE X' e δ2 fun y => y = f a) (fin : Φ (.lst (l.map f))) : LcD M X k N sc scope tg e [] os δ (l.map g) Φ := by
  refine ⟨δw, hw, by simpa using hz, fun i acc => acc = (l.take i).map f, rfl, fun X' S' i d acc hi hp => ?_, fun acc _ hp => ?_⟩
  · rw [List.getElem?_map] at hi
    obtain ⟨a, ha, rfl⟩ := Option.map_eq_some_iff.mp hi
    have hd := h X' S' a (List.mem_of_getElem? ha)
    refine .mk fun Bs B Hs H σ v o r Q q => hd Bs B Hs H σ v o r Q fun δ' σ' Hs' H' o' g' kp h2 => q δ' σ' Hs' H' o' g' kp fun X2 S2 => DTs.nil ⟨fun _ X3 S3 => ?_, fun z => Bool.noConfusion z⟩
    refine (h2 X3 S3).imp fun y ey => ?_
    dsimp only
    rw [ey, hp, List.take_add_one, ha, Option.toList_some, List.map_append]
    rfl
  · simp at hp
    rw [hp]
    exact fin
/-- [f(a) for a in l if p(a)] -/
theorem lc_filter {α : Type} {l : List α} {g f : α → Da} {p : α → Bool} {δw : Sg} {c : Expr} (hw : Wp N os δ δw) (hz : l.length ≤ 1000000)
    (h : ∀ X', Sc M X' k N (relS scope sc) scope → ∀ a ∈ l, DG X' tg os (g a) δw fun δ2 => ∀ X', Sc M X' k N (relS scope sc) scope → DT X' c δ2 fun z => z = p a ∧ (z = true → ∀ X', Sc M X' k N (relS scope sc) scope → DE X' e δ2 fun y => y = f a)) (fin : Φ (.lst ((l.filter p).map f))) :
    LcD M X k N sc scope tg e [c] os δ (l.map g) Φ := by
  refine ⟨δw, hw, by simpa using hz, fun i acc => acc = ((l.take i).filter p).map f, by simp, fun X' S' i d acc hi hp => ?_, fun acc _ hp => ?_⟩
  · rw [List.getElem?_map] at hi
    obtain ⟨a, ha, rfl⟩ := Option.map_eq_some_iff.mp hi
    have hd := h X' S' a (List.mem_of_getElem? ha)
    have ht : l.take (i + 1) = l.take i ++ [a] := by rw [List.take_add_one, ha]; rfl
    refine .mk fun Bs B Hs H σ v o r Q q => hd Bs B Hs H σ v o r Q fun δ' σ' Hs' H' o' g' kp h2 => q δ' σ' Hs' H' o' g' kp fun X2 S2 => DTs.one ((h2 X2 S2).imp fun z ⟨ez, hy⟩ => ⟨fun hz X3 S3 => ?_, fun hz => ?_⟩)
    · refine (hy hz X3 S3).imp fun y ey => ?_
      dsimp only
      rw [ey, hp, ht, List.filter_append, List.map_append, List.filter_cons_of_pos (by rw [← ez]; exact hz)]
      rfl
    · dsimp only
      rw [hp, ht, List.filter_append, List.filter_cons_of_neg (by rw [← ez, hz]; decide)]
      simp
  · simp at hp
    rw [hp]
    exact fin
/-- [.. for a in l], whatever comes each time -/
theorem lc_any {α : Type} {l : List α} {g : α → Da} {R : α → Da → Prop} {δw : Sg} (hw : Wp N os δ δw) (hz : l.length ≤ 1000000)
    (h : ∀ X', Sc M X' k N (relS scope sc) scope → ∀ a ∈ l, DG X' tg os (g a) δw fun δ2 => ∀ X', Sc M X' k N (relS scope sc) scope → DE X' e δ2 fun y => R a y) (fin : ∀ r : List Da, r.length = l.length → (∀ (i : Nat) a d, l[i]? = some a → r[i]? = some d → R a d) → Φ (.lst r)) : LcD M X k N sc scope tg e [] os δ (l.map g) Φ := by
  refine ⟨δw, hw, by simpa using hz, fun i acc => i ≤ l.length ∧ acc.length = i ∧ ∀ (j : Nat) a d, l[j]? = some a → acc[j]? = some d → R a d, ⟨Nat.zero_le _, rfl, fun j a d _ z => by simp at z⟩, fun X' S' i d acc hi hp => ?_, fun acc _ hp => ?_⟩
  · rw [List.getElem?_map] at hi
    obtain ⟨a, ha, rfl⟩ := Option.map_eq_some_iff.mp hi
    have hd := h X' S' a (List.mem_of_getElem? ha)
    obtain ⟨h0, h1, h2⟩ := hp
    have hil : i < l.length := (List.getElem?_eq_some_iff.mp ha).1
    refine .mk fun Bs B Hs H σ v o r Q q => hd Bs B Hs H σ v o r Q fun δ' σ' Hs' H' o' g' kp h3 => q δ' σ' Hs' H' o' g' kp fun X2 S2 => DTs.nil ⟨fun _ X3 S3 => ?_, fun z => Bool.noConfusion z⟩
    refine (h3 X3 S3).imp fun y ey => ⟨by omega, by simp [h1], fun j a' d' e1 e2 => ?_⟩
    by_cases hj : j < i
    · rw [List.getElem?_append_left (by omega)] at e2
      exact h2 j a' d' e1 e2
    · rw [List.getElem?_append_right (by omega)] at e2
      have hji : j = i := by
        cases hh : j - acc.length with
        | zero => omega
        | succ n => rw [hh] at e2; simp at e2
      subst hji
      rw [ha] at e1
      cases e1
      rw [show j - acc.length = 0 by omega] at e2
      simp at e2
      rw [← e2]
      exact ey
  · simp at hp
    exact fin acc hp.1 hp.2
end
end DL

/-! DL8: zip of two texts, by GoesN.zip2. -/
namespace DL
open PySem PySem.Spec PyProof.Rows L2
/-- the signs of two texts side by side -/
def ItxX (x y : Str) : It :=
  ⟨fun i _ => i < min x.cps.size y.cps.size,
    fun i H v H' => ∃ T c d, v = .ref T ∧ H T = none ∧ H' = upd H T (.tup [.str ⟨#[c]⟩, .str ⟨#[d]⟩]) ∧ x.cps[i]? = some c ∧ y.cps[i]? = some d,
    fun i _ => i = min x.cps.size y.cps.size⟩
/-- how the five cells of zip(x, y) stand, laid from n on -/
def StX (n : Nat) (x y : Str) (t u : Tok) (i : Nat) (h : Heap) : Prop :=
  IsZip h (n + 4) (n + 2) (n + 3) .none ∧ IsTupOf2 h (n + 2) (.ref n) (.ref (n + 1)) ∧ (∃ a b, IsTupOf2 h (n + 3) a b) ∧ h.IsStrIter n (strIterType x) x t i ∧ h.IsStrIter (n + 1) (strIterType y) y u i
abbrev fpX (n : Nat) : List Addr := [n + 4, n + 2, n + 3, n, n + 1]
theorem goesX {P : Program} {w : World} {A : Around} (hh : A.handled = none) (elts : List Expr) (kk : Nat) (tpos : Pos) (n : Nat) (x y : Str) (t u : Tok) :
    GoesN P w A (.Tuple elts kk tpos) (n + 4) (fpX n) [n + 4, n + 3, n, n + 1] (min x.cps.size y.cps.size)
      (fun i h v h' => ∃ T a b, v = .ref T ∧ h.objs.size ≤ T ∧ (∃ c s, x.cps[i]? = some c ∧ a = .str ⟨#[c]⟩ s) ∧ (∃ c s, y.cps[i]? = some c ∧ b = .str ⟨#[c]⟩ s) ∧ h'.IsTuple T #[a, b]) (StX n x y t u) :=
  GoesN.zip2 (zip_sep2 (N := n) (fp1 := []) (fp2 := []) (fun _ z => nomatch z) fun _ z => nomatch z) (Draws.text (A := A.in1) (show A.in1.handled = none from hh) n x t) (Draws.text (A := A.in1) (show A.in1.handled = none from hh) (n + 1) y u)
theorem noLoc {h : Heap} {b : Addr} {c : String} {d : Data} (e : ∃ o, h.get? b = some o ∧ o.cls = .type c ∧ o.data = d) (hd : ∀ v, d ≠ .cell v) : ∃ o, h.get? b = some o ∧ ∀ v, o.data ≠ .cell v := by
  obtain ⟨o, e1, _, e2⟩ := e
  exact ⟨o, e1, fun v => by rw [e2]; exact hd v⟩
theorem StX.live {n i : Nat} {x y : Str} {t u : Tok} {h : Heap} (st : StX n x y t u i h) : ∀ b ∈ fpX n, ∃ o, h.get? b = some o ∧ ∀ v, o.data ≠ .cell v := by
  obtain ⟨h1, h2, ⟨a, b, h3⟩, h4, h5⟩ := st
  simp only [fpX, List.forall_mem_cons, List.forall_mem_nil, and_true]
  exact ⟨⟨_, h1, fun v q => nomatch q⟩, ⟨_, h2, fun v q => nomatch q⟩, ⟨_, h3, fun v q => nomatch q⟩, noLoc h4 (fun v q => nomatch q), noLoc h5 (fun v q => nomatch q), fun _ z => nomatch z⟩
theorem turnX {P : Program} {w : World} {K : PySem.W.Frag} {elts : List Expr} {kk : Nat} {tpos : Pos} (n : Nat) (x y : Str) (t u : Tok) : Turn P w K (.Tuple elts kk tpos) (ItxX x y) (fpX n) (n + 4) (StX n x y t u) := by
  have G := fun (A : Around) (hh : A.handled = none) => goesX (P := P) (w := w) hh elts kk tpos n x y t u
  have hsub : ∀ b, b ∉ fpX n → b ∉ [n + 4, n + 3, n, n + 1] := fun b hb hc => hb (by
    simp only [fpX, List.mem_cons, List.not_mem_nil, or_false] at hc ⊢
    rcases hc with e | e | e | e <;> simp [e])
  refine ⟨List.mem_cons_self, fun i h st => st.live, fun i h h' st k => (G {} rfl).frame i h h' st k, ?_, ?_, fun A i s Q E st h => wpAny_pyIter_zip st.1 h⟩
  · rintro X rfl rfl rfl hc i pins s σ H E I hf st hg
    refine (G X.A (I.ok.hd hc)).goes i s _ E hg st fun v h' tk hy st' hk _ => ?_
    obtain ⟨T, a, b, ev, hT, ⟨c, s1, ec, ea⟩, ⟨d, s2, ed, eb⟩, ho⟩ := hy
    subst ev ea eb
    have new : ObjOk X.prog X.w (upd H T (.tup [.str ⟨#[c]⟩, .str ⟨#[d]⟩])) h' T (.tup [.str ⟨#[c]⟩, .str ⟨#[d]⟩]) := ⟨by show 2 ≤ sizeLine; decide, _, .cons ⟨s1, rfl⟩ (.cons ⟨s2, rfl⟩ .nil), ho⟩
    refine ⟨.ref T, _, I.turnedNew (t' := tk) (fun b o hb e => hk b o (hsub b hb) e) hf hT new, rfl, ⟨T, c, d, rfl, I.hok.fresh hT, rfl, ec, ed⟩, st', fun b hb => ?_⟩
    obtain ⟨o, eo, _⟩ := st.live b hb
    rw [upd_ne (Nat.ne_of_lt (Nat.lt_of_lt_of_le (Heap.lt_size eo) hT))]
    exact (hf b hb).1
  · rintro X rfl rfl rfl hc i pins s σ H E I hf st hg
    cases (show i = min x.cps.size y.cps.size from hg)
    exact (G X.A (I.ok.hd hc)).stops s (fun s1 => Inv X pins σ H s1) E st fun h' tk hk _ => I.turnedL (t' := tk) (fun b o hb e => hk b o (hsub b hb) e) hf
def iTwoX (ta : TA) : TI := fun σ H R => ta σ H fun vs H1 => ∃ x y, vs = [.str x, .str y] ∧ R (ItxX x y) H1
theorem pi_twoX {X : Cx} {e e2 : Expr} {ta : TA} {p pos tpos : Pos} {elts : List Expr} {kk : Nat} (hg : Gl X "zip") (hm : X.mg "zip" = none) (ha : PA X [e, e2] ta)
    (hst : starEach [e, e2] X.env = (false, eval e X.env) :: starEach [e2] X.env) (hno : (backTo pos (starEach [e2] X.env)).any (·.1) = false) : PI X (.Tuple elts kk tpos) (.Call (.Name "zip" p) [e, e2] [] pos) (iTwoX ta) := .mk fun pins s σ H R I h =>
  Call_ (ld_blt I hg hm PyProof.Rows.boot_zip (PyProof.Rows.callWith_type1 (thn (ha.run pos pins s σ H _ I h) fun us s1 ⟨vs, H1, I1, r1, x, y, ex, q⟩ => by
    subst ex
    obtain ⟨u1, u2, rfl, ⟨t1, e1⟩, ⟨t2, e2⟩⟩ := vals2 r1
    subst e1 e2
    refine zip_begins2 (begins_text x t1) (begins_text y t2) trivial trivial fun h' hz hI hO g1 g2 hsz hk => wpAny_pyIter_zip hz ?_
    refine ⟨_, fpX s1.heap.objs.size, _, ItxX x y, H1, rfl, I1.kept (t' := s1.toks) hk, turnX s1.heap.objs.size x y t1 t2, ⟨hz, hI, ⟨_, _, hO⟩, ⟨_, g1, rfl, rfl⟩, ⟨_, g2, rfl, rfl⟩⟩, fun b hb => ?_, q⟩
    have hle : s1.heap.objs.size ≤ b := by
      simp only [fpX, List.mem_cons, List.not_mem_nil, or_false] at hb
      rcases hb with e | e | e | e | e <;> rw [e] <;> first | exact Nat.le_refl _ | exact Nat.le_add_right _ _
    exact I1.fpOk hle (I1.hok.fresh hle)) hst hno))
end DL

/-! DL9: zip of two texts over data, keyword calls, comprehension over pairs. -/
namespace DL
open PySem PySem.Spec PyProof.Rows L2
section
variable {M : Md} {X : Cx} {k : Nat} {N : List Str} {sc cs : Scope} {δ δ' : Sg} {m : Bool} {Φ Ψ : Da → Prop} {x y : Str} {pos p2 p3 apos kpos : Pos} {e a b o tg it : Expr} {es : List Expr}
theorem chars_len {z : Str} : (chars z).length = z.cps.size := by unfold chars; simp
theorem chars_get {z : Str} {i : Nat} {d : Da} (h : (chars z)[i]? = some d) : ∃ c, z.cps[i]? = some c ∧ d = .str ⟨#[c]⟩ := by
  unfold chars at h
  rw [List.getElem?_map, Array.getElem?_toList] at h
  obtain ⟨c, hc, e⟩ := Option.map_eq_some_iff.mp h
  exact ⟨c, hc, e.symm⟩
theorem di_zipX (S : Sc M X k N sc cs) {elts : List Expr} {kk : Nat} {tpos : Pos} {Φ : List Da → Prop} (hm : M.mg "zip" = none) (hg : glB sc "zip" = true)
    (h : DE X a δ fun d => DE X b δ fun d' => ∃ x y, d = .str x ∧ d' = .str y ∧ Φ (zipD (chars x) (chars y)))
    (hs : starEach [a, b] X.env = (false, eval a X.env) :: starEach [b] X.env := by rfl) (hs2 : starEach [b] X.env = (false, eval b X.env) :: starEach [] X.env := by rfl) (hpl : (backTo pos (starEach [b] X.env)).any (·.1) = false := by rfl) : DI X (.Tuple elts kk tpos) (.Call (.Name "zip" p2) [a, b] [] pos) δ Φ := .mk fun Bs B Hs H σ o R q =>
  WI.of (pi_twoX (by show X.env.scope.names.lookup _ = _; rw [S.hsc]; exact (glB_ok hg).1) (by rw [S.hmg]; exact hm) (pa_cons pe_W (pa_cons pe_W pa_nil hs2) hs) hs hpl) (h Bs B Hs H σ o _ fun d v Hs1 H1 g1 h1 r1 => h1 Bs B Hs1 H1 σ (o.mono g1) _ fun d' v' Hs2 H2 g2 ⟨x, y, e1, e2, p⟩ r2 => by
    subst e1 e2
    cases r1.atom
    cases r2.atom
    have hn : (zipD (chars x) (chars y)).length = min x.cps.size y.cps.size := by rw [zipD_len, chars_len, chars_len]
    have wk : Walk (ItxX x y) (zipD (chars x) (chars y)).length (fun _ => True) (YPair (fun i => (x.cps[i]?).map fun c => V.str ⟨#[c]⟩) (fun i => (y.cps[i]?).map fun c => V.str ⟨#[c]⟩)) := by
      rw [hn]
      refine ⟨fun i _ hi q => hi, fun _ q => rfl, fun i H v H' _ q y => ?_⟩
      obtain ⟨T, c, d, h1, h2, h3, h4, h5⟩ := y
      exact ⟨T, _, _, h1, h2, h3, by dsimp only; rw [h4]; rfl, by dsimp only; rw [h5]; rfl⟩
    refine ⟨x, y, rfl, q _ _ (fun _ => True) _ Hs2 H2 (g1.trans g2) p wk (fun _ _ _ _ => True.intro) fun i d Hs2 H2 v H3 s1 s2 hi hy => ?_⟩
    obtain ⟨T, x', y', rfl, hT, rfl, hx, hy⟩ := hy
    dsimp only at hx hy
    obtain ⟨z, w, hz, hw, rfl⟩ := zipD_get hi
    obtain ⟨c, hc, rfl⟩ := chars_get hz
    obtain ⟨c2, hc2, rfl⟩ := chars_get hw
    rw [hc] at hx
    rw [hc2] at hy
    cases hx
    cases hy
    exact pair_new s2 (.a _) (.a _) hT)
/-- a def that may be called with these keywords behind the positional values -/
structure CalK {α : Type} (M : Md) (k : Nat) (x : Str) (ks : List Str) (ms : List Bool) (args : α → List Da) (pre : α → Prop) (post : α → Da → Prop) : Prop where
  ex : ∃ f fd ps, FnOk M.P M.w M.K M.mg M.base CX0 k f fd ps (SpD M.K ms args pre post) ∧ M.mg x = some (.ref f) ∧ PySem.W.keepIn M.K (.ref f) = true ∧ KBinds M.K fd ps ks (fun us ws => us ++ ws) (fun vs zs => vs ++ zs)
theorem CalK.mono {α : Type} {M : Md} {k j : Nat} {x : Str} {ks : List Str} {ms : List Bool} {args : α → List Da} {pre : α → Prop} {post : α → Da → Prop} (c : CalK M k x ks ms args pre post) (h : k ≤ j) : CalK M j x ks ms args pre post := by
  obtain ⟨f, fd, ps, F, h1, h2, h3⟩ := c.ex
  exact ⟨f, fd, ps, F.mono h, h1, h2, h3⟩
theorem calk_mk {α : Type} {f : Addr} {fd : FuncData} {ps ks : List Str} {ms : List Bool} {args : α → List Da} {pre : α → Prop} {post : α → Da → Prop} (F : FnOk M.P M.w M.K M.mg M.base CX0 k f fd ps (SpD M.K ms args pre post)) (h1 : M.mg x = some (.ref f))
    (h2 : PySem.W.keepIn M.K (.ref f) = true) (h3 : ∀ (s : Shared) (us ws : List Value), M.K.In s.heap → (us ++ ws).length = ps.length → BindsTo s fd ⟨us, ks.zip ws⟩ (ps.zip (us ++ ws))) : CalK M k x ks ms args pre post :=
  ⟨f, fd, ps, F, h1, h2, h3, fun r1 r2 => r1.append r2⟩
/-- f(k = e) -/
theorem de_callK1 {α : Type} {kn : Str} {args : α → List Da} {pre : α → Prop} {post : α → Da → Prop} (S : Sc M X k N sc cs) (c : CalK M k x [kn] [true] args pre post) (hg : glB sc x = true)
    (h : DE X e δ fun d => ∃ a, [d] = args a ∧ pre a ∧ ∀ d, post a d → Φ d) : DM X m (.Call (.Name x p2) [] [⟨some kn, e, kpos⟩] pos) δ Φ := DM.of <| .mk fun Bs B Hs H σ o Q q => by
  obtain ⟨f, fd, ps, F, h1, h2, h3⟩ := c.ex
  obtain ⟨g1, g2, g3⟩ := glB_ok hg
  have F' : FnOk X.prog X.w X.K X.mg X.base CX0 k f fd ps (SpD X.K [true] args pre post) := by rw [S.hP, S.hw, S.hK, S.hmg, S.hb]; exact F
  have h3' : KBinds X.K fd ps [kn] (fun us ws => us ++ ws) (fun vs zs => vs ++ zs) := by rw [S.hK]; exact h3
  have main : PE X (.Call (.Name x p2) [] [⟨some kn, e, kpos⟩] pos) (fun σ H Q => tCons (WE X e) tNil σ H fun zs H2 => SpD X.K [true] args pre post zs H2 Q E0) := by
    refine ⟨fun pins s σ H Q I hq => ?_⟩
    refine wpAny_Call_Name_kw (ld_glob I (by show X.env.scope.names.lookup x = _; rw [S.hsc]; exact g1) (by rw [S.hmg]; exact h1) ?_ g2)
    refine PySem.W.callWith_KW0 (h₀ := X.base) I.ok.mod.kin (by rw [S.hK]; exact h2) rfl (thn ((pk_cons (nm := some kn) (kpos := kpos) pe_W pk_nil).run pos pins s σ H _ I hq) fun ws s2 ⟨zs, H2, I2, rz, q2⟩ => ⟨I2.kIn, ?_⟩)
    exact run_fnk (us := []) (vs := []) F' S.room h3' pass0 I2 .nil rz q2
  refine WE.of main ?_
  refine h Bs B Hs H σ o _ fun d v Hs1 H1 gg ⟨a, ea, pa, k⟩ r => ?_
  refine ⟨a, Hs1, gg.sub, ?_, pa, fun d v Hs' H' g p rd => q d v Hs' H' (gg.trans g) (k d p) rd⟩
  rw [← ea]
  exact .cons r .nil
end
end DL

/-! DL10: a dict comprehension whose keys are tuples, kept by a name. -/
namespace DL
open PySem PySem.Spec PyProof.Rows L2
section
variable {X : Cx}
/-- what is asked of {k: v for tg in it if ..}, keys tuples: D the new dict -/
def tTc (wi : TI) (g : TG) (tt : TT) (tk tv : TE) (vs : List Nat) : TE := fun σ H Q => wi σ H fun J H1 => ∀ D, H1 D = none → ∃ W : Nat → Nat → Hp → Prop, (∃ m, W 0 m (upd H1 D (.dT []))) ∧
  ∀ i m H, W i m H → (J.stop i H ∧ Q (.ref D) H) ∨ (J.go i H ∧ ∃ Z : Hp → Prop, (∀ H', Z H' → ∃ j, j < m ∧ W (i + 1) j H') ∧ ∀ x H', J.yld i H x H' → g x (L2.wipe σ vs) H' fun σ2 H2 => L2.wipe σ2 vs = L2.wipe σ vs ∧ tt σ2 H2 fun c H3 =>
    if c = true then tk σ2 H3 fun y H4 => tv σ2 H4 fun z H5 => ∃ kvs k b, y = .ref b ∧ H5 b = some (.tup (k.map kV)) ∧ H5 D = some (.dT kvs) ∧ kvs.length < sizeLine ∧ Z (upd H5 D (.dT (putK kvs k z))) else Z H3)
/-- an entry laid into a dict with tuple keys -/
theorem put_tup {pins : List (Addr × Obj)} {σ : L2.St} {H : Hp} {s : Shared} {E : Value → Shared → Prop} {D b : Addr} {kvs : List (List Key × V)} {k : List Key} {z : V} {r : Value} {Q : Unit → Shared → Prop} (hu : X.A.units + 1 < cLine) (I : Inv X pins σ H s)
    (hD : H D = some (.dT kvs)) (hb : H b = some (.tup (k.map kV))) (hz : kvs.length < sizeLine) (rz : RelV z r) (q : ∀ s', Inv X pins σ (upd H D (.dT (putK kvs k z))) s' → Q () s') : wpAny (model X.prog X.w) X.A (dictSet D (.ref b) r) Q E s := by
  obtain ⟨hl, hn, xs, rel, dd⟩ := dt_of I.hok hD
  have hlen := Paired.length rel
  have hput : (putK kvs k z).length ≤ sizeLine := Nat.le_trans (length_putK kvs k z) hz
  refine wpAny_dictSet_heap (hsz := by omega) (show (tupleKind (mixKind X.prog X.w)).room X.A from Nat.lt_of_succ_lt hu) (key_of I.hok hb) dd fun h' ⟨o, es, ep, e1, e2, e3, e4, _, e5⟩ sb => q _ ?_
  refine d_write I (by rw [hD]; trivial) sb ⟨o, e1⟩ ⟨hput, hn, _, (rel.put k hb rz).keeps fun c ys ec => ?_, o, es, ep, e1, e2, e3, e4, e5⟩
  rwa [upd_ne (ne_of ec hD fun w => nomatch w)]
theorem tc_core {pins : List (Addr × Obj)} {s : Shared} {σ : L2.St} {H : Hp} {Q : VK} {kx vx tg it : Expr} {ifs : List Expr} {scope : Scope} {own : List (Str × Nat)} {pos pos' : Pos} {wi : TI} {g : TG} {tt : TT} {tk tv : TE} {use : Option (Value → Sem Unit)} {Qf : Value → Shared → Prop}
    (hu : X.A.units + 1 < cLine) (hc : X.calm = true) (hN : X.N.Nodup) (I : Inv X pins σ H s) (hi : PI X tg it wi) (ok : BlkOk X.N X.env.scope scope own)
    (hg : ∀ (s : Shared) (H : Hp) (C : Addr) (cl : List (Str × Addr)) (fp : List Addr), PG (X.blk s H scope (compEnvC scope cl C X.env) fp) tg g)
    (ht : ∀ (s : Shared) (H : Hp) (C : Addr) (cl : List (Str × Addr)) (fp : List Addr), PTs (X.blk s H scope (compEnvC scope cl C X.env) fp) ifs tt)
    (hk : ∀ (s : Shared) (H : Hp) (C : Addr) (cl : List (Str × Addr)) (fp : List Addr), PE (X.blk s H scope (compEnvC scope cl C X.env) fp) kx tk)
    (he : ∀ (s : Shared) (H : Hp) (C : Addr) (cl : List (Str × Addr)) (fp : List Addr), PE (X.blk s H scope (compEnvC scope cl C X.env) fp) vx tv)
    (hs : ∀ x, foldedSetIterable it X.env x = pure x) (h : tTc wi g tt tk tv (own.map (·.2)) σ H Q)
    (fin : ∀ D C s' m H', Inv X pins σ H' s' → Q (.ref D) H' → s'.heap.Ns C m → FpOk X pins H' C → compPost (model X.prog X.w) X.A X.xe use Qf (.ref D) C (.ok .next) s') :
    wpAny (model X.prog X.w) X.A (comprehension (.DictComp kx vx [⟨tg, it, ifs, 0⟩] scope pos) scope X.env pos' newDict false (eval it X.env) use) Qf X.xe s := by
  have free : ∀ y ∈ scope.names, y.2 = .free → ∃ c, X.env.cells.lookup y.1 = some c := fun y hy e => I.ok.has _ (ok.free y hy e)
  refine wpAny_comprehension_free (use := use) rfl hs (closure_ok free) ok.kind (fun y hy e => (ok.uniq y hy).trans (congrArg some e)) (thn (hi.run pins s σ H _ I h) fun xv s1 hx => thn hx fun itv s2 h2 => ?_)
  obtain ⟨itA, fp, tn, J, H2, rfl, I2, T, st2, f2, q⟩ := h2
  refine wpAny_newObj_type (newEnv_comp ?_)
  -- the new dict stands at the heap's end
  obtain ⟨D, hD⟩ : ∃ D, D = s2.heap.objs.size := ⟨_, rfl⟩
  rw [← hD]
  have hDn : H2 D = none := I2.hok.fresh (hD ▸ Nat.le_refl _)
  obtain ⟨W, ⟨m0, w0⟩, turn⟩ := q D hDn
  obtain ⟨s3, hs3⟩ : ∃ s3 : Shared, s3 = { s2 with heap := s2.heap.push { cls := .type "dict", data := .dict #[] } } := ⟨_, rfl⟩
  have grow : ∀ b o, s2.heap.get? b = some o → s3.heap.get? b = some o := fun b o e => by rw [hs3]; exact Heap.get?_push_of_some _ e
  have I3 : Inv X pins σ (upd H2 D (.dT [])) s3 := by
    have new := dt_empty (P := X.prog) (w := X.w) (H := upd H2 D (.dT [])) s2.heap I2.big
    rw [← hD] at new
    rw [hs3]
    exact I2.laid (t' := s2.toks) (fun b o e => Heap.get?_push_of_some _ e) (hD ▸ Nat.le_refl _) new
  have hsz : s3.heap.objs.size = s2.heap.objs.size + 1 := by rw [hs3]; exact Heap.size_push ..
  have f3 : ∀ b ∈ fp, FpOk X pins (upd H2 D (.dT [])) b ∧ b < s3.heap.objs.size := fun b hb => by
    obtain ⟨o, e, _⟩ := T.obj _ _ st2 b hb
    have hlt := Heap.lt_size e
    refine ⟨⟨?_, (f2 b hb).2⟩, by rw [hsz]; exact Nat.lt_succ_of_lt hlt⟩
    rw [upd_ne (by rw [hD]; exact Nat.ne_of_lt hlt)]
    exact (f2 b hb).1
  have st3 : tn 0 s3.heap := T.keep _ _ _ st2 fun b _ o e => grow b o e
  have I4 := block_start I3 ok hN f3
  obtain ⟨cl, hcl⟩ : ∃ cl, cl = cellsFrom (s3.heap.objs.size + 1) scope.names (cloFrom X.env.cells scope.names []) := ⟨_, rfl⟩
  rw [← hcl] at I4
  have eD : s2.heap.push { cls := .type "dict", data := .dict #[] } = s3.heap := by rw [hs3]
  obtain ⟨s4, hs4⟩ : ∃ s4 : Shared, s4 = { s3 with heap := pushCells (s3.heap.push { cls := .type "dict", data := .dict #[] }) scope.names } := ⟨_, rfl⟩
  have goal : codeAny (model X.prog X.w) X.A (.compStart (.DictComp kx vx [⟨tg, it, ifs, 0⟩] scope pos) 0 (.ref itA) (.ref D) (compEnvC scope cl s3.heap.objs.size X.env)) (compPost (model X.prog X.w) X.A X.xe use Qf (.ref D) s3.heap.objs.size) s4 := by
    rw [← hs4] at I4
    have st4 : tn 0 s4.heap := T.keep _ _ _ st3 fun b _ o e => by rw [hs4]; exact pushCells_keeps _ _ _ _ (Heap.get?_push_of_some _ e)
    have pg := hg s3 (upd H2 D (.dT [])) s3.heap.objs.size cl fp
    have pt := ht s3 (upd H2 D (.dT [])) s3.heap.objs.size cl fp
    have pk := hk s3 (upd H2 D (.dT [])) s3.heap.objs.size cl fp
    have pv := he s3 (upd H2 D (.dT [])) s3.heap.objs.size cl fp
    obtain ⟨ce, hce⟩ : ∃ ce, ce = compEnvC scope cl s3.heap.objs.size X.env := ⟨_, rfl⟩
    rw [← hce] at I4 pg pt pk pv ⊢
    have cL : ce.locals = s3.heap.objs.size := by rw [hce]; rfl
    have n3 : ∀ b ∈ fp, (upd H2 D (.dT [])) b = none := fun b hb => (f3 b hb).1.1
    obtain ⟨H3, hH3⟩ : ∃ H3, H3 = upd H2 D (.dT []) := ⟨_, rfl⟩
    rw [← hH3] at I3 I4 pg pt pk pv w0 n3 f3
    have stat : ∀ {σ' : L2.St} {H' : Hp} {s' : Shared}, Inv (X.blk s3 H3 scope ce fp) [] σ' H' s' → (∀ b ∈ fp, H' b = none) → ∀ b ∈ fp, FpOk (X.blk s3 H3 scope ce fp) [] H' b := fun {σ' H' s'} J' hn b hb =>
      ⟨hn b hb, (J'.ok.exf b hb).1, J'.ok.exfs b hb, .inl hb, fun x c e => (J'.ok.exf b hb).2 x c e, fun p hp => by
        have hp : p ∈ ([] : List (Addr × Obj)) ++ [] := hp
        cases hp⟩
    let G : Nat → Shared → Prop := fun n s' => ∃ i H', Inv (X.blk s3 H3 scope ce fp) [] (L2.wipe σ (own.map (·.2))) H' s' ∧ tn i s'.heap ∧ (∀ b ∈ fp, H' b = none) ∧ W i n H'
    have loop : codeAny (model X.prog X.w) X.A (.compLoop (.DictComp kx vx [⟨tg, it, ifs, 0⟩] scope pos) 0 (.ref itA) (.ref D) ce) (compPost (model X.prog X.w) X.A X.xe use Qf (.ref D) s3.heap.objs.size) s4 := by
      refine compLoop_anyD G ?_ m0 ⟨0, H3, I4, st4, n3, w0⟩
      rintro n s5 ⟨i, H5, I5, st5, n5, w5⟩
      rcases turn i n H5 w5 with ⟨stop, qq⟩ | ⟨go, Z, hZ, step⟩
      · refine thnF (T.done (X.blk s3 H3 scope ce fp) rfl rfl rfl hc i [] s5 _ H5 (fun _ _ => False) I5 (stat I5 n5) st5 stop) fun r s6 ⟨hr, I6⟩ => ?_
        subst hr
        have fpk : ∀ b ∈ fp, _ := fun b hb => (f3 b hb).1.2
        have I7 : Inv X pins σ H5 s6 := I3.call' (ch := fp) I6.os I6.base I6.hok I6.bare fun b hb => ⟨(fpk b hb).2.2.1, (fpk b hb).1, (fpk b hb).2.2.2.1, (fpk b hb).2.2.2.2⟩
        have nC : H5 s3.heap.objs.size = none := by rw [← cL]; exact I6.free
        obtain ⟨m, hn, _⟩ := I6.loc
        have hn : s6.heap.Ns s3.heap.objs.size m := by rw [← cL]; exact hn
        exact fin D s3.heap.objs.size s6 m H5 I7 qq hn (I3.fpOk (Nat.le_refl _) nC)
      · refine thnF (T.item (X.blk s3 H3 scope ce fp) rfl rfl rfl hc i [] s5 _ H5 (fun _ _ => False) I5 (stat I5 n5) st5 go) fun r s6 ⟨u, hr, h6⟩ => ?_
        subst hr
        refine thnF h6 fun _ s7 ⟨x, H7, I7, r7, y7, st7, n7⟩ => ?_
        refine thnF (pg.run _ s7 _ H7 x u _ (I7.pinned (stat I7 n7) (T.obj _ _ st7)) r7 (step x H7 y7)) fun _ s8 ⟨σ8, H8, I8, hw8, q8⟩ => ?_
        refine thnF (pt.run _ s8 σ8 H8 _ I8 q8) fun c s9 ⟨H9, I9, q9⟩ => ?_
        have next : ∀ {s' : Shared} {H' : Hp}, Inv (X.blk s3 H3 scope ce fp) ([] ++ pinsAt fp s7.heap) σ8 H' s' → Z H' → ∃ m, m < n ∧ G m s' := fun {s' H'} I' nx => by
          obtain ⟨j, hj, w'⟩ := hZ H' nx
          have keep : ∀ b ∈ fp, ∀ o, s7.heap.get? b = some o → s'.heap.get? b = some o ∧ H' b = none := fun b hb o e => by
            have z := I'.pin (b, o) (List.mem_append_right _ (List.mem_append_right _ (mem_pinsAt hb e)))
            exact ⟨z.1, z.2.1⟩
          have hl : (L2.wipe σ (own.map (·.2))).length = σ8.length := by rw [← hw8, wipe_length]
          refine ⟨j, hj, i + 1, H', (I'.unpinned (pins := [])).weak hl (fun a v e => (wipe_some (by rw [hw8]; exact e)).1), T.keep _ _ _ st7 fun b hb o e => (keep b hb o e).1, fun b hb => ?_, w'⟩
          obtain ⟨o, e, _⟩ := T.obj _ _ st7 b hb
          exact (keep b hb o e).2
        cases c with
        | false => exact next I9 (by simpa using q9)
        | true =>
          simp only [if_true] at q9
          refine iteT (thnF (pk.run _ s9 σ8 H9 _ I9 q9) fun y s10 ⟨yk, H10, I10, r10, q10⟩ => thnF (pv.run _ s10 σ8 H10 _ I10 q10) fun z s11 ⟨yv, H11, I11, r11, kvs, k, b, ek, hb, hD11, hz11, nx⟩ => ?_)
          subst ek
          cases r10
          exact put_tup (X := X.blk s3 H3 scope ce fp) hu I11 hD11 hb hz11 r11 fun s12 I12 => next I12 nx
    exact codeAny_compStart_dict loop (T.self X.A 0 _ _ _ st4 loop)
  rw [hs4, hs3] at goal
  rw [hcl, hs3] at goal
  exact goal
/-- y = {k: v for ..} -/
theorem ps_setTc {i : Nat} {y : Str} {py : Pos} {kx vx tg it : Expr} {ifs : List Expr} {scope : Scope} {own : List (Str × Nat)} {pos spos : Pos} {wi : TI} {g : TG} {tt : TT} {tk tv : TE} (hu : X.A.units + 1 < cLine) (hc : X.calm = true) (hN : X.N.Nodup) (hy : X.N[i]? = some y)
    (hyl : X.env.scope.names.lookup y = some .local) (hsw : swapsWith (.DictComp kx vx [⟨tg, it, ifs, 0⟩] scope pos) (some (.Name y py)) spos.line X.env = pure true) (hi : PI X tg it wi) (ok : BlkOk X.N X.env.scope scope own)
    (hg : ∀ (s : Shared) (H : Hp) (C : Addr) (cl : List (Str × Addr)) (fp : List Addr), PG (X.blk s H scope (compEnvC scope cl C X.env) fp) tg g)
    (ht : ∀ (s : Shared) (H : Hp) (C : Addr) (cl : List (Str × Addr)) (fp : List Addr), PTs (X.blk s H scope (compEnvC scope cl C X.env) fp) ifs tt)
    (hk : ∀ (s : Shared) (H : Hp) (C : Addr) (cl : List (Str × Addr)) (fp : List Addr), PE (X.blk s H scope (compEnvC scope cl C X.env) fp) kx tk)
    (he : ∀ (s : Shared) (H : Hp) (C : Addr) (cl : List (Str × Addr)) (fp : List Addr), PE (X.blk s H scope (compEnvC scope cl C X.env) fp) vx tv) (hs : ∀ x, foldedSetIterable it X.env x = pure x) :
    PS X (.Assign [.Name y py] (.DictComp kx vx [⟨tg, it, ifs, 0⟩] scope pos) spos) (tAsg (tTc wi g tt tk tv (own.map (·.2))) (gName i)) := .mk fun pins s σ H D I h => by
  rw [exec_Assign_Name_used _ _ _ _ hsw]
  have h : tTc wi g tt tk tv (own.map (·.2)) σ H (fun x H1 => gName i x σ H1 D.nx) := h
  have run := tc_core (pos' := firstIterPos [⟨tg, it, ifs, 0⟩] pos) (pos := pos) (use := some (assign (.Name y py) X.env)) (Qf := fun _ s' => SP X pins D .next s') hu hc hN I hi ok hg ht hk he hs h fun L C s' m H' I' q hn f => by
    refine wpAny_assign_Name (store_ok2 (v := V.ref L) I' hN hy (.inl hyl) rfl (fun s2 I2 ⟨a, sb, ha⟩ => ?_) (.inr hyl))
    obtain ⟨f0, f1, f2, f3, f4, f5⟩ := f
    have haC : C ≠ a := ha.elim (fun z => z ▸ f1) fun z e => f4 y a z e.symm
    exact ⟨m, hn.sameBut sb haC, fun h3 sb3 => ⟨_, H', I2.turned (t' := s2.toks) (fun b o hb e => (sb3.2 b hb).trans e) f0 f1 f3 f4 f5, q⟩⟩
  refine wpAny_bind (wpAny_standAt (wpAny_bind ?_))
  exact wpAny_bind (thn run fun _ s' hq => wpAny_pure (wpAny_pure hq))
end
end DL

/-! DL11: dict comprehensions with tuple keys over data; lists unpacked; range downwards; a pair with a new dict. -/
namespace DL
open PySem PySem.Spec PyProof.Rows L2
/-- an own object that stands, taken into a slot -/
theorem Ok.adopt {K : PySem.W.Frag} {Bs B Hs H : Hp} {σ : L2.St} {δ : Sg} (o : Ok K Bs B Hs H σ δ) (i : Nat) {s0 : SD} {p : Addr} (hb : B p = none) (np : ∀ (j : Nat) (s : SD) (q : Addr), δ[j]? = some (some s) → s.own = true → σ[j]? = some (some (.ref q)) → q ≠ p)
    (r : SlotOk K B Hs H s0 (.ref p)) : Ok K Bs B Hs H (σ.set i (some (.ref p))) (δ.set i (some s0)) := by
  refine ⟨o.go, fun j s e => ?_, by simp [o.len], fun j s q e w e2 => ?_, fun j k s t q e1 e2 q1 q2 e3 e4 => ?_⟩
  · rcases set_some_key e with ⟨hj, e⟩ | ⟨rfl, rfl, hl⟩
    · rw [List.getElem?_set_ne (Ne.symm hj)]
      exact o.slot j s e
    · exact ⟨_, by rw [List.getElem?_set_self (by rw [o.len]; exact hl)], r⟩
  · rcases set_some_key e with ⟨hj, e⟩ | ⟨rfl, rfl, hl⟩
    · exact o.fr j s q e w (by rwa [List.getElem?_set_ne (Ne.symm hj)] at e2)
    · rw [List.getElem?_set_self (by rw [o.len]; exact hl)] at e2
      cases e2
      exact hb
  · rcases set_some_key e1 with ⟨hj, f1⟩ | ⟨rfl, rfl, hl⟩
    · rw [List.getElem?_set_ne (Ne.symm hj)] at e3
      rcases set_some_key e2 with ⟨hk, e2⟩ | ⟨rfl, rfl, hl⟩
      · exact o.ap j k s t q f1 e2 q1 q2 e3 (by rwa [List.getElem?_set_ne (Ne.symm hk)] at e4)
      · rw [List.getElem?_set_self (by rw [o.len]; exact hl)] at e4
        cases e4
        exact absurd rfl (np _ _ _ f1 q1 e3)
    · rw [List.getElem?_set_self (by rw [o.len]; exact hl)] at e3
      cases e3
      rcases set_some_key e2 with ⟨hk, e2⟩ | ⟨rfl, rfl, hl⟩
      · exact absurd rfl (np _ _ _ e2 q2 (by rwa [List.getElem?_set_ne (Ne.symm hk)] at e4))
      · rfl
section
variable {M : Md} {X : Cx} {k : Nat} {N : List Str} {sc cs : Scope} {δ δ' : Sg} {m : Bool} {Φ Ψ : Da → Prop} {x y : Str} {pos p2 p3 apos kpos : Pos} {e a b c o tg it kx vx : Expr} {es : List Expr} {sts : List Stmt} {nx bk ct : Sg → Prop} {rt : Da → Prop}
def DcD (M : Md) (X : Cx) (k : Nat) (N : List Str) (sc : Scope) (scope : Scope) (tg kx vx : Expr) (ifs : List Expr) (os : List Str) (δ : Sg) (ds : List Da) (Φ : List (List Key × V) → Prop) : Prop :=
  ∃ δw, Wp N os δ δw ∧ ds.length ≤ 1000000 ∧ ∃ P : Nat → List (List Key × V) → Prop, P 0 [] ∧
    (∀ X', Sc M X' k N (relS scope sc) scope → ∀ i d acc, ds[i]? = some d → P i acc → DG X' tg os d δw fun δ2 => ∀ X', Sc M X' k N (relS scope sc) scope → DTs X' ifs δ2 fun c =>
      (c = true → ∀ X', Sc M X' k N (relS scope sc) scope → DE X' kx δ2 fun y => ∀ X', Sc M X' k N (relS scope sc) scope → DE X' vx δ2 fun z => ∃ q v, y = .tup ((q.map kV).map Da.a) ∧ z = .a v ∧ P (i + 1) (putK acc q v)) ∧ (c = false → P (i + 1) acc)) ∧
    ∀ acc, acc.length ≤ ds.length → P ds.length acc → Φ acc
theorem tc_it {J : It} {n : Nat} {G : Hp → Prop} {Y : Nat → Hp → V → Hp → Prop} {g : TG} {tt : TT} {tk tv : TE} {vs : List Nat} {σ : L2.St} {H1 : Hp} {D : Addr} {Qd : Hp → Prop} (wk : Walk J n G Y) (Pv : Nat → Hp → Prop) (h0 : Pv 0 (upd H1 D (.dT []))) (hq : ∀ i H, i ≤ n → Pv i H → G H)
    (hs : ∀ i x H H', i < n → Pv i H → Y i H x H' → g x (L2.wipe σ vs) H' fun σ2 H2 => L2.wipe σ2 vs = L2.wipe σ vs ∧ tt σ2 H2 fun c H3 =>
      if c = true then tk σ2 H3 fun y H4 => tv σ2 H4 fun z H5 => ∃ kvs k b, y = .ref b ∧ H5 b = some (.tup (k.map kV)) ∧ H5 D = some (.dT kvs) ∧ kvs.length < sizeLine ∧ Pv (i + 1) (upd H5 D (.dT (putK kvs k z))) else Pv (i + 1) H3) (hd : ∀ H, Pv n H → Qd H) :
    ∃ W : Nat → Nat → Hp → Prop, (∃ m, W 0 m (upd H1 D (.dT []))) ∧ ∀ i m H, W i m H → (J.stop i H ∧ Qd H) ∨ (J.go i H ∧ ∃ Z : Hp → Prop, (∀ H', Z H' → ∃ j, j < m ∧ W (i + 1) j H') ∧ ∀ x H', J.yld i H x H' → g x (L2.wipe σ vs) H' fun σ2 H2 => L2.wipe σ2 vs = L2.wipe σ vs ∧ tt σ2 H2 fun c H3 =>
      if c = true then tk σ2 H3 fun y H4 => tv σ2 H4 fun z H5 => ∃ kvs k b, y = .ref b ∧ H5 b = some (.tup (k.map kV)) ∧ H5 D = some (.dT kvs) ∧ kvs.length < sizeLine ∧ Z (upd H5 D (.dT (putK kvs k z))) else Z H3) := by
  refine ⟨fun i m H => m = n - i ∧ i ≤ n ∧ Pv i H, ⟨n, by simp, Nat.zero_le _, h0⟩, ?_⟩
  rintro i m H ⟨rfl, hi, p⟩
  by_cases hlt : i < n
  · exact .inr ⟨wk.goes i H hlt (hq i H hi p), Pv (i + 1), fun H' p' => ⟨n - (i + 1), by omega, rfl, hlt, p'⟩, fun x H' y => hs i x H H' hlt p (wk.yields i H x H' hlt (hq i H hi p) y)⟩
  · obtain rfl : i = n := by omega
    exact .inl ⟨wk.stops H (hq i H hi p), hd H p⟩
theorem put_len {kvs : List (List Key × V)} {q : List Key} {v : V} : (putK kvs q v).length ≤ kvs.length + 1 := length_putK kvs q v
/-- y = {k: v for ..}, keys tuples -/
theorem ds_setTc (S : Sc M X k N sc cs) {scope : Scope} {ifs : List Expr} {os : List Str} {py lp : Pos} (h : DI X tg it δ fun ds => DcD M X k N sc scope tg kx vx ifs os δ ds fun l => ∃ δ', Ss N δ y (some (.ot l)) δ' ∧ nx δ') (hk : blkB N sc scope os = true)
    (hy : (sc.names.lookup y == some .local && (py.line == lp.line) && !(scope.names.any fun (n, k) => n == y && (k == .local || k == .cell))) = true) (hN : N.contains y = true) (hs : ∀ x, foldedSetIterable it X.env x = pure x := by intro _; rfl) :
    DS X (.Assign [.Name y py] (.DictComp kx vx [⟨tg, it, ifs, 0⟩] scope lp) pos) δ nx rt bk ct := .mk fun Bs B Hs H σ o D f => by
  have hu : X.A.units + 1 < cLine := by have := S.room.units; omega
  have ok : BlkOk X.N X.env.scope scope (ownOf N os) := by rw [S.n, S.hsc]; exact blkOk_by hk
  have nd := S.nd
  simp only [Bool.and_eq_true, beq_iff_eq, Bool.not_eq_true'] at hy
  obtain ⟨⟨h1, h2⟩, h3⟩ := hy
  intro pins s I
  obtain ⟨i, hi⟩ : ∃ i : Nat, N[i]? = some y := List.mem_iff_getElem?.mp (by simpa using hN)
  have hkd : X.env.scope.kind = .function := by rw [S.hsc]; exact S.kind
  have sw : swapsWith (.DictComp kx vx [⟨tg, it, ifs, 0⟩] scope lp) (some (.Name y py)) pos.line X.env = pure true := by
    have ky : X.env.kindOf y = some .local := by show X.env.scope.names.lookup y = _; rw [S.hsc]; exact h1
    have hb : X.env.blockKind = .function := by unfold Env.blockKind; rw [hkd]; rfl
    unfold swapsWith
    simp only [hb, ky, h3, Expr.pos, h2, beq_self_eq_true]
    rfl
  refine WS.of (ps_setTc (i := i) hu S.calm (by rw [S.n]; exact nd) (by rw [S.n]; exact hi) (by rw [S.hsc]; exact h1) sw pi_W ok pgb_W ptb_W peb_W peb_W hs) ?_ pins s I
  refine h Bs B Hs H σ o _ fun ds J G Y Hs1 H1 g1 ⟨δw, hw, hz, P, p0, step, fin⟩ wk hG hY D' hD => ?_
  have oD : ∀ (i : Nat) (s : SD) (q : Addr), δ[i]? = some (some s) → s.own = true → σ[i]? = some (some (.ref q)) → q ≠ D' := fun i s q e w h z => (o.mono g1).ownAt e w h (by rw [z]; exact hD)
  have hD0 : H D' = none := g1.hh.free hD
  have hB : B D' = none := o.go.hh.free hD0
  refine tc_it wk (fun i H2 => ∃ Hs2 acc, Go Hs H Hs2 H2 ∧ Same Hs1 Hs2 ∧ Ok X.K Bs B Hs2 H2 σ δ ∧ Hs2 D' = none ∧ H2 D' = some (.dT acc) ∧ acc.length ≤ i ∧ i ≤ ds.length ∧ P i acc) ?_ ?_ ?_ ?_
  · exact ⟨Hs1, [], g1.trans (Go.own g1.sub hD), Same.refl _, (o.mono g1).mono (Go.own g1.sub hD), g1.sub.free hD, upd_same, Nat.le_refl _, Nat.zero_le _, p0⟩
  · rintro i H2 hi ⟨Hs2, acc, g2, s2, o2, _⟩
    exact hG Hs2 H2 s2 o2.sub
  · rintro i x H2 H3 hi ⟨Hs2, acc, g2, s2, o2, hDs, hDv, hl, _, pi⟩ hy s H0 C cl fp
    intro pins s' u I r
    obtain ⟨d, hd⟩ : ∃ d, ds[i]? = some d := ⟨ds[i], by simp [hi]⟩
    obtain ⟨Hs3, g3, rd⟩ := hY i d Hs2 H2 x H3 s2 o2.sub hd hy
    have hsl : σ.length = N.length := by
      have := I.len
      rw [wipe_length] at this
      rw [this]
      exact congrArg List.length S.n
    have nDs : ∀ {Hs' H' : Hp}, Go Hs2 H2 Hs' H' → Hs' D' = none := fun g => g.no D' (by rw [hDv]; exact fun z => nomatch z) hDs
    refine step (X.blk s H0 scope (compEnvC scope cl C X.env) fp) (S.blk ok.kind) i d acc hd pi Bs B Hs3 H3 _ x ((o2.mono g3).wipe nd hw) rd _ (fun δ2 σ2 Hs4 H4 o4 g4 kp ht => ?_) pins s' u I r
    refine ⟨wipe_keep nd hsl (by have kp' : Keep X.N os _ σ2 := kp; rw [S.n] at kp'; exact kp') fun _ z => z, fun s H0 C cl fp pins s' I => ?_⟩
    refine ht (X.blk s H0 scope (compEnvC scope cl C X.env) fp) (S.blk ok.kind) Bs B Hs4 H4 σ2 o4 _ (fun c Hs5 H5 g5 p5 => ?_) pins s' I
    have g35 := (g3.trans g4).trans g5
    cases c with
    | false => exact iteF ⟨Hs5, acc, g2.trans g35, s2.trans g35.ss, o2.mono g35, nDs g35, g35.hh _ _ hDv, by omega, by omega, p5.2 rfl⟩
    | true =>
      refine iteT fun s H0 C cl fp pins s' I => ?_
      have o5 := o4.mono g5
      refine p5.1 rfl (X.blk s H0 scope (compEnvC scope cl C X.env) fp) (S.blk ok.kind) Bs B Hs5 H5 σ2 o5 _ (fun y v Hs6 H6 g6 p6 r6 => ?_) pins s' I
      intro s H0 C cl fp pins s' I
      refine p6 (X.blk s H0 scope (compEnvC scope cl C X.env) fp) (S.blk ok.kind) Bs B Hs6 H6 σ2 (o5.mono g6) _ (fun z w Hs7 H7 g7 ⟨q, vw, ey, ez, p7⟩ r7 => ?_) pins s' I
      subst ey
      have ew : w = vw := by subst ez; exact r7.atom
      subst ew
      obtain ⟨t, ts, rfl, hts, rts⟩ := r6.tup_inv
      rw [rts.atoms] at hts
      have g37 := (g35.trans g6).trans g7
      have e2 : sizeLine = 16777216 := sizeLine_eq
      have e3 := put_len (kvs := acc) (q := q) (v := w)
      exact ⟨acc, q, t, rfl, g7.hh _ _ (g6.sub.trans (Same.refl _) _ _ hts), g37.hh _ _ hDv, by omega, Hs7, putK acc q w, (g2.trans g37).mut hD0 (nDs g37), s2.trans g37.ss, (o2.mono g37).other (nDs g37) hB oD, nDs g37, upd_same, by omega, by omega, p7⟩
  · rintro H2 ⟨Hs2, acc, g2, s2, o2, hDs, hDv, hl, _, pi⟩
    obtain ⟨δ', hd, p⟩ := fin acc hl pi
    obtain ⟨j, h5, rfl⟩ := hd.at
    obtain rfl : i = j := nodup_ix S.nd hi h5
    exact f.nx _ _ Hs2 H2 (o2.adopt i (s0 := .ot acc) hB oD ⟨D', rfl, hDs, hDv⟩) g2.ss p
/-! ### range downwards, lists unpacked -/
def downD (hi : Int) (n : Nat) : List Da := (List.range n).map fun (i : Nat) => Da.int (hi - (i : Int))
theorem downD_len {hi : Int} {n : Nat} : (downD hi n).length = n := by simp [downD]
theorem downD_get {hi : Int} {n i : Nat} {d : Da} (h : (downD hi n)[i]? = some d) : i < n ∧ d = .int (hi - (i : Int)) := by
  unfold downD at h
  rw [List.getElem?_map] at h
  obtain ⟨j, hj, rfl⟩ := Option.map_eq_some_iff.mp h
  obtain ⟨h1, h2⟩ := List.getElem?_eq_some_iff.mp hj
  rw [List.getElem_range] at h2
  subst h2
  exact ⟨by simpa using h1, rfl⟩
/-- range(a, b, -1) -/
theorem di_down (S : Sc M X k N sc cs) {k2 : Nat} {q1 q2 : Pos} {Φ : List Da → Prop} (hm : M.mg "range" = none) (hg : glB sc "range" = true) (h : DE X a δ fun d => DE X b δ fun d' => ∃ i j : Int, d = .int i ∧ d' = .int j ∧ (-(2 ^ 62) ≤ i ∧ i < 2 ^ 62 ∧ -(2 ^ 62) ≤ j ∧ j < 2 ^ 62) ∧ Φ (downD i (i - j).toNat))
    (hs : starEach [a, b, .UnaryOp .USub (.Constant (.int 1) k2 q1) q2] X.env = (false, eval a X.env) :: starEach [b, .UnaryOp .USub (.Constant (.int 1) k2 q1) q2] X.env := by rfl)
    (hs2 : starEach [b, .UnaryOp .USub (.Constant (.int 1) k2 q1) q2] X.env = (false, eval b X.env) :: starEach [.UnaryOp .USub (.Constant (.int 1) k2 q1) q2] X.env := by rfl)
    (hpl : (backTo pos (starEach [b, .UnaryOp .USub (.Constant (.int 1) k2 q1) q2] X.env)).any (·.1) = false := by rfl) :
    DI X tg (.Call (.Name "range" p2) [a, b, .UnaryOp .USub (.Constant (.int 1) k2 q1) q2] [] pos) δ Φ := .mk fun Bs B Hs H σ o R q =>
  WI.of (pi_range3 (by show X.env.scope.names.lookup _ = _; rw [S.hsc]; exact (glB_ok hg).1) (by rw [S.hmg]; exact hm) (pa_cons pe_W (pa_cons pe_W (pa_cons (pe_un un_neg pe_int) pa_nil) hs2) hs) hs hpl) (h Bs B Hs H σ o _ fun d v Hs1 H1 g1 h1 r1 => h1 Bs B Hs1 H1 σ (o.mono g1) _ fun d' v' Hs2 H2 g2 ⟨i, j, e1, e2, bd, p⟩ r2 => by
    subst e1 e2
    cases r1.atom
    cases r2.atom
    refine ⟨1, rfl, i, j, -1, (i - j).toNat, rfl, RgC.neg bd.1 bd.2.1 bd.2.2.1 bd.2.2.2, q _ _ (fun _ => True) _ Hs2 H2 (g1.trans g2) p (by rw [downD_len]; exact walk_rangeC) (fun _ _ _ _ => True.intro) fun i d Hs2 H2 v H3 s1 s2 hi hy => ?_⟩
    obtain ⟨rfl, rfl⟩ := hy
    obtain ⟨_, rfl⟩ := downD_get hi
    refine ⟨Hs2, Go.refl s2, ?_⟩
    have key : ∀ (z : Int) (n : Nat), Rp X.K Hs2 (.int (z - (n : Int))) (.int (z + (n : Int) * -1)) := fun z n => by
      rw [show z + (n : Int) * -1 = z - (n : Int) by omega]
      exact .a _
    exact key _ _)
theorem dg_lst (S : Sc M X k N sc cs) {nm : List Str} {ds : List Da} {j : Nat} {Φ : Sg → Prop} (h : DGs X es nm ds δ Φ) (hn : (assignEach es X.env).length = ds.length := by rfl) (hst : (assignEach es X.env).findIdx? (·.1) = none := by rfl) : DG X (.Tuple es j pos) nm (.lst ds) δ Φ := .mk fun Bs B Hs H σ v o r Q q => by
  obtain ⟨a, vs, rfl, ha, ra⟩ := r.lst_inv
  exact WG.of (pg_lst S.calm pgs_W hn hst) ⟨a, vs, rfl, .of (o.sub _ _ ha), by rw [ra.len], h Bs B Hs H σ vs o ra Q q⟩
/-! ### min(some, default=None) -/
def ominI : List Int → Option Int
  | [] => none
  | n :: r => some (r.foldl min n)
def odV : Option Int → V
  | none => .non
  | some i => .int i
theorem readsInts {h : Heap} : ∀ {ns : List Int} {its : List Value}, Vals (ns.map V.int) its → ReadsAll h its (ns.map PyData.int) []
  | [], _, r => by cases r; exact .nil
  | n :: ns, _, r => by
    cases r with
    | cons r t =>
      obtain ⟨t1, rfl⟩ := r
      exact .cons (.int n t1) (readsInts t)
theorem depInts : ∀ ns : List Int, PyData.depthAll (ns.map PyData.int) ≤ 1
  | [] => by unfold PyData.depthAll; simp
  | n :: ns => by
    have := depInts ns
    simp only [PyData.depthAll, List.map_cons, PyData.depth]
    omega
theorem call_minD (S : Sc M X k N sc cs) : CallRK X (.builtin "min") ["default"] (fun xs zs H Q => ∃ a ns, xs = [.ref a] ∧ zs = [.non] ∧ SqL X.K H a (ns.map V.int) ∧ Q (odV (ominI ns)) H) := by
  intro pins s σ H xs zs us ws Q I rx rz h
  obtain ⟨a, ns, rfl, rfl, hq, q⟩ := h
  cases rx with
  | cons r t =>
    cases t
    cases r
    cases rz with
    | cons r2 t2 =>
      cases t2
      cases r2
      obtain ⟨its, rv, p, _⟩ := I.list hq
      have hu : X.A.units + 64 < cLine := S.room.units
      have hd := depInts ns
      refine PySem.W.min_list_default (I.ok.hd S.calm) p.isList (readsInts rv) ⟨fun x hx y hy => ?_, fun x hx => ?_⟩ (by omega) (fun e h' tk kp => ?_) fun y ys i v h' tk bs e hv hr kp => ?_
      · obtain ⟨i, _, rfl⟩ := List.mem_map.mp hx
        obtain ⟨j, _, rfl⟩ := List.mem_map.mp hy
        rfl
      · obtain ⟨i, _, rfl⟩ := List.mem_map.mp hx
        exact fun z => nomatch z
      · cases ns with
        | nil => exact ⟨.non, H, I.kept kp, rfl, q⟩
        | cons n r => cases e
      · cases ns with
        | nil => cases e
        | cons n r =>
          obtain ⟨rfl, rfl⟩ := List.cons.inj e
          rw [PySem.W.minD_ints] at hr
          cases hr
          exact ⟨.int (r.foldl min n), H, I.kept kp, ⟨_, rfl⟩, q⟩
theorem ints_vals {K : PySem.W.Frag} {H : Hp} : ∀ {ns : List Int} {vs : List V}, RpAll K H (ns.map Da.int) vs → vs = ns.map V.int
  | [], _, .nil => rfl
  | n :: ns, _, .cons r t => by
    cases r.atom
    rw [ints_vals t]
    rfl
theorem de_minD (S : Sc M X k N sc cs) {k3 : Nat} {q1 kp : Pos} (hm : M.mg "min" = none) (hg : glB sc "min" = true) (h : DE X e δ fun d => ∃ ns : List Int, d = .lst (ns.map Da.int) ∧ Φ (.a (odV (ominI ns))))
    (hs : starEach [e] X.env = (false, eval e X.env) :: starEach [] X.env := by rfl) :
    DM X m (.Call (.Name "min" p2) [e] [⟨some "default", .Constant .none k3 q1, kp⟩] pos) δ Φ := DM.of <| .mk fun Bs B Hs H σ o Q q => by
  refine WE.of (pe_callBK (ks := ["default"]) (call_minD S) (by show X.env.scope.names.lookup _ = _; rw [S.hsc]; exact (glB_ok hg).1) (by rw [S.hmg]; exact hm) PyProof.Rows.boot_min (pa_cons pe_W pa_nil hs) (pk_cons pe_non pk_nil) (by decide) (by decide) (by rw [hs]; rfl) (by rw [hs]; rfl)) ?_
  refine h Bs B Hs H σ o _ fun d v Hs1 H1 g ⟨ns, e1, p⟩ r => ?_
  subst e1
  obtain ⟨a, vs, rfl, ha, ra⟩ := r.lst_inv
  rw [ints_vals ra] at ha
  exact ⟨a, ns, rfl, rfl, .of (g.sub _ _ ha), q _ _ Hs1 H1 g p (.a _)⟩
end
end DL

/-! DL12: own lists made with things in them; a pair whose second is a new own dict; keyword calls in any order. -/
namespace DL
open PySem PySem.Spec PyProof.Rows L2
section
variable {M : Md} {X : Cx} {k : Nat} {N : List Str} {sc cs : Scope} {δ δ' : Sg} {m : Bool} {Φ Ψ : Da → Prop} {x y : Str} {pos p2 p3 apos kpos : Pos} {e a b c o tg it kx vx : Expr} {es : List Expr} {sts : List Stmt} {nx bk ct : Sg → Prop} {rt : Da → Prop}
theorem ds_ownLs (S : Sc M X k N sc cs) (h : DAt X (e :: es) δ fun ds => ∃ δ', Ss N δ x (some (.ol ds)) δ' ∧ nx δ') (hl : locB cs x = true) (hN : N.contains x = true) (hz : (e :: es).length ≤ sizeLine := by decide) : DS X (.Assign [.Name x p2] (.List (e :: es) p3) pos) δ nx rt bk ct := .mk fun Bs B Hs H σ o D f => by
  obtain ⟨i, hi⟩ : ∃ i : Nat, N[i]? = some x := List.mem_iff_getElem?.mp (by simpa using hN)
  refine WS.of (ps_set (i := i) (by rw [S.n]; exact S.nd) (by rw [S.n]; exact hi) (S.fn x hl).1 (pe_lst pa_W) rfl (S.fn x hl).2) ?_
  refine h Bs B Hs H σ o _ fun ds vs Hs1 H1 g1 ⟨δ', h1, h2⟩ r hd => ⟨by rw [← r.len, hd]; exact hz, fun p hp => ?_⟩
  obtain ⟨j, h3, rfl⟩ := h1.at
  obtain rfl : i = j := nodup_ix S.nd hi h3
  have o1 := o.mono g1
  exact f.nx _ _ Hs1 _ (o1.setO i (s0 := .ol ds) hp ⟨p, vs, rfl, g1.sub.free hp, upd_same, r⟩) g1.ss h2
/-- x, y = (e, {}) -/
theorem ds_parT (S : Sc M X k N sc cs) {px py pt p4 : Pos} {kt k2 pt2} (h : DE X a δ fun d => ∃ δ1 δ2, Ss N δ x (some (.d d)) δ1 ∧ Ss N δ1 y (some (.ot [])) δ2 ∧ nx δ2) (hxy : x ≠ y)
    (hx : (sc.names.lookup x == some .local) = true) (hy : (sc.names.lookup y == some .local) = true)
    (hw : ∀ env : Env, env.scope = sc → swappedStores [.Tuple [.Name x px, .Name y py] kt pt] (.Tuple [a, .Dict [] [] p4] k2 pt2) env = pure (some [x, y]))
    (hN : N.contains x = true) (hN2 : N.contains y = true)
    (hs : swapsWithSole [.Tuple [.Name x px, .Name y py] kt pt] (.Tuple [a, .Dict [] [] p4] k2 pt2) pos.line X.env = pure false := by rfl)
    (h1 : starEach [a, .Dict [] [] p4] X.env = (false, eval a X.env) :: starEach [.Dict [] [] p4] X.env := by rfl) (h2 : starEach [.Dict [] [] p4] X.env = (false, eval (.Dict [] [] p4) X.env) :: starEach [] X.env := by rfl) :
    DS X (.Assign [.Tuple [.Name x px, .Name y py] kt pt] (.Tuple [a, .Dict [] [] p4] k2 pt2) pos) δ nx rt bk ct := .mk fun Bs B Hs H σ o D f => by
  obtain ⟨i, hi⟩ : ∃ i : Nat, N[i]? = some x := List.mem_iff_getElem?.mp (by simpa using hN)
  obtain ⟨j, hj⟩ : ∃ i : Nat, N[i]? = some y := List.mem_iff_getElem?.mp (by simpa using hN2)
  have hij : i ≠ j := fun e => by
    rw [e, hj] at hi
    exact hxy (Option.some.inj hi).symm
  refine WS.of (ps_par (i := i) (j := j) S.calm (by rw [S.n]; exact S.nd) (by rw [S.n]; exact hi) (by rw [S.n]; exact hj) hij (by rw [S.hsc]; simpa using hx) (by rw [S.hsc]; simpa using hy) (pa_cons pe_W (pa_cons pe_dnewT pa_nil h2) h1) (hw _ S.hsc) hs) ?_
  refine h Bs B Hs H σ o _ fun d v Hs1 H1 g1 ⟨δ1, δ2, q1, q2, p2⟩ r1 => fun p hp => ?_
  obtain ⟨i', e1, rfl⟩ := q1.at
  obtain rfl : i = i' := nodup_ix S.nd hi e1
  obtain ⟨j', e2, rfl⟩ := q2.at
  obtain rfl : j = j' := nodup_ix S.nd hj e2
  exact ⟨v, .ref p, rfl, f.nx _ _ Hs1 _ (((o.mono g1).setD i r1).setO j (s0 := .ot []) hp ⟨p, rfl, g1.sub.free hp, upd_same⟩) g1.ss p2⟩
end
end DL

/-! DL13: three keywords from the last parameter to the first; plain assignment to a target. -/
namespace DL
open PySem PySem.Spec PyProof.Rows L2
structure CalR3 {α : Type} (M : Md) (k : Nat) (x : Str) (ks : List Str) (args : α → List Da) (pre : α → Prop) (post : α → Da → Prop) : Prop where
  ex : ∃ f fd ps, FnOk M.P M.w M.K M.mg M.base CX0 k f fd ps (SpD M.K [true, true, true] args pre post) ∧ M.mg x = some (.ref f) ∧ PySem.W.keepIn M.K (.ref f) = true ∧ KBinds M.K fd ps ks (fun us ws => us ++ ws.reverse) (fun vs zs => vs ++ zs.reverse)
theorem CalR3.mono {α : Type} {M : Md} {k j : Nat} {x : Str} {ks : List Str} {args : α → List Da} {pre : α → Prop} {post : α → Da → Prop} (c : CalR3 M k x ks args pre post) (h : k ≤ j) : CalR3 M j x ks args pre post := by
  obtain ⟨f, fd, ps, F, h1, h2, h3⟩ := c.ex
  exact ⟨f, fd, ps, F.mono h, h1, h2, h3⟩
theorem three_cases {β : Type} : ∀ {us ws : List β}, (us ++ ws.reverse).length = 3 → (∃ a b c, us = [] ∧ ws = [a, b, c]) ∨ (∃ a b c, us = [a] ∧ ws = [b, c]) ∨ (∃ a b c, us = [a, b] ∧ ws = [c]) ∨ ∃ a b c, us = [a, b, c] ∧ ws = []
  | [], [a, b, c], _ => .inl ⟨a, b, c, rfl, rfl⟩
  | [a], [b, c], _ => .inr (.inl ⟨a, b, c, rfl, rfl⟩)
  | [a, b], [c], _ => .inr (.inr (.inl ⟨a, b, c, rfl, rfl⟩))
  | [a, b, c], [], _ => .inr (.inr (.inr ⟨a, b, c, rfl, rfl⟩))
  | [], [], h => by simp at h
  | [], [_], h => by simp at h
  | [], [_, _], h => by simp at h
  | [], _ :: _ :: _ :: _ :: _, h => by simp at h
  | [_], [], h => by simp at h
  | [_], [_], h => by simp at h
  | [_], _ :: _ :: _ :: _, h => by simp at h
  | [_, _], [], h => by simp at h
  | [_, _], _ :: _ :: _, h => by simp at h
  | [_, _, _], _ :: _, h => by simp at h
  | _ :: _ :: _ :: _ :: _, _, h => by simp at h
section
variable {M : Md} {X : Cx} {k : Nat} {N : List Str} {sc cs : Scope} {δ δ' : Sg} {m : Bool} {Φ Ψ : Da → Prop} {x y : Str} {pos p2 p3 apos kp1 kp2 kp3 : Pos} {e a b c : Expr}
theorem calr3_mk {α : Type} {f : Addr} {fd : FuncData} {ps ks : List Str} {args : α → List Da} {pre : α → Prop} {post : α → Da → Prop} (F : FnOk M.P M.w M.K M.mg M.base CX0 k f fd ps (SpD M.K [true, true, true] args pre post)) (h1 : M.mg x = some (.ref f))
    (h2 : PySem.W.keepIn M.K (.ref f) = true) (h3 : ∀ (s : Shared) (us ws : List Value), M.K.In s.heap → (us ++ ws.reverse).length = ps.length → BindsTo s fd ⟨us, ks.zip ws⟩ (ps.zip (us ++ ws.reverse))) : CalR3 M k x ks args pre post :=
  ⟨f, fd, ps, F, h1, h2, h3, fun r1 r2 => r1.append r2.reverse⟩
theorem de_callR3 {α : Type} {k1 k2 k3 : Str} {args : α → List Da} {pre : α → Prop} {post : α → Da → Prop} (S : Sc M X k N sc cs) (cl : CalR3 M k x [k1, k2, k3] args pre post) (hg : glB sc x = true)
    (h : DE X a δ fun d1 => DE X b δ fun d2 => DE X c δ fun d3 => ∃ z, [d3, d2, d1] = args z ∧ pre z ∧ ∀ d, post z d → Φ d) : DM X m (.Call (.Name x p2) [] [⟨some k1, a, kp1⟩, ⟨some k2, b, kp2⟩, ⟨some k3, c, kp3⟩] pos) δ Φ := DM.of <| .mk fun Bs B Hs H σ o Q q => by
  obtain ⟨f, fd, ps, F, h1, h2, h3⟩ := cl.ex
  obtain ⟨g1, g2, g3⟩ := glB_ok hg
  have F' : FnOk X.prog X.w X.K X.mg X.base CX0 k f fd ps (SpD X.K [true, true, true] args pre post) := by rw [S.hP, S.hw, S.hK, S.hmg, S.hb]; exact F
  have h3' : KBinds X.K fd ps [k1, k2, k3] (fun us ws => us ++ ws.reverse) (fun vs zs => vs ++ zs.reverse) := by rw [S.hK]; exact h3
  have main : PE X (.Call (.Name x p2) [] [⟨some k1, a, kp1⟩, ⟨some k2, b, kp2⟩, ⟨some k3, c, kp3⟩] pos) (fun σ H Q => tCons (WE X a) (tCons (WE X b) (tCons (WE X c) tNil)) σ H fun zs H2 => SpD X.K [true, true, true] args pre post zs.reverse H2 Q E0) := by
    refine .mk fun pins s σ H Q I hq => ?_
    refine wpAny_Call_Name_kw (ld_glob I (by show X.env.scope.names.lookup x = _; rw [S.hsc]; exact g1) (by rw [S.hmg]; exact h1) ?_ g2)
    refine PySem.W.callWith_KW0 (h₀ := X.base) I.ok.mod.kin (by rw [S.hK]; exact h2) rfl (thn ((pk_cons (nm := some k1) (kpos := kp1) pe_W (pk_cons (nm := some k2) (kpos := kp2) pe_W (pk_cons (nm := some k3) (kpos := kp3) pe_W pk_nil))).run pos pins s σ H _ I hq) fun ws s2 ⟨zs, H2, I2, rz, q2⟩ => ⟨I2.kIn, ?_⟩)
    exact run_fnk (us := []) (vs := []) F' S.room h3' pass0 I2 .nil rz q2
  refine WE.of main ?_
  refine h Bs B Hs H σ o _ fun d1 v1 Hs1 H1 gg1 q1 r1 => q1 Bs B Hs1 H1 σ (o.mono gg1) _ fun d2 v2 Hs2 H2 gg2 q2 r2 => q2 Bs B Hs2 H2 σ ((o.mono gg1).mono gg2) _ fun d3 v3 Hs3 H3 gg3 ⟨z, ez, pz, kz⟩ r3 => ?_
  refine ⟨z, Hs3, gg3.sub, ?_, pz, fun d v Hs' H' g p rd => q d v Hs' H' (((gg1.trans gg2).trans gg3).trans g) (kz d p) rd⟩
  rw [← ez]
  exact .cons r3 (.cons (Rp.mono gg3.ss r2) (.cons (Rp.mono (gg2.ss.trans gg3.ss) r1) .nil))
end
end DL

/-! DL14: three names at once; two keywords from the last parameter to the first; numbers' abs in tests; texts repeated. -/
namespace DL
open PySem PySem.Spec PyProof.Rows L2
structure CalR2 {α : Type} (M : Md) (k : Nat) (x : Str) (ks : List Str) (args : α → List Da) (pre : α → Prop) (post : α → Da → Prop) : Prop where
  ex : ∃ f fd ps, FnOk M.P M.w M.K M.mg M.base CX0 k f fd ps (SpD M.K [true, true] args pre post) ∧ M.mg x = some (.ref f) ∧ PySem.W.keepIn M.K (.ref f) = true ∧ KBinds M.K fd ps ks (fun us ws => us ++ ws.reverse) (fun vs zs => vs ++ zs.reverse)
theorem CalR2.mono {α : Type} {M : Md} {k j : Nat} {x : Str} {ks : List Str} {args : α → List Da} {pre : α → Prop} {post : α → Da → Prop} (c : CalR2 M k x ks args pre post) (h : k ≤ j) : CalR2 M j x ks args pre post := by
  obtain ⟨f, fd, ps, F, h1, h2, h3⟩ := c.ex
  exact ⟨f, fd, ps, F.mono h, h1, h2, h3⟩
theorem two_cases {β : Type} : ∀ {us ws : List β}, (us ++ ws.reverse).length = 2 → (∃ a b, us = [] ∧ ws = [a, b]) ∨ (∃ a b, us = [a] ∧ ws = [b]) ∨ ∃ a b, us = [a, b] ∧ ws = []
  | [], [a, b], _ => .inl ⟨a, b, rfl, rfl⟩
  | [a], [b], _ => .inr (.inl ⟨a, b, rfl, rfl⟩)
  | [a, b], [], _ => .inr (.inr ⟨a, b, rfl, rfl⟩)
  | [], [], h => by simp at h
  | [], [_], h => by simp at h
  | [], _ :: _ :: _ :: _, h => by simp at h
  | [_], [], h => by simp at h
  | [_], _ :: _ :: _, h => by simp at h
  | [_, _], _ :: _, h => by simp at h
  | _ :: _ :: _ :: _, _, h => by simp at h
section
variable {M : Md} {X : Cx} {k : Nat} {N : List Str} {sc cs : Scope} {δ δ' : Sg} {m : Bool} {Φ Ψ : Da → Prop} {x y z : Str} {pos p2 p3 apos kp1 kp2 kp3 : Pos} {e a b c : Expr} {nx bk ct : Sg → Prop} {rt : Da → Prop}
theorem calr2_mk {α : Type} {f : Addr} {fd : FuncData} {ps ks : List Str} {args : α → List Da} {pre : α → Prop} {post : α → Da → Prop} (F : FnOk M.P M.w M.K M.mg M.base CX0 k f fd ps (SpD M.K [true, true] args pre post)) (h1 : M.mg x = some (.ref f))
    (h2 : PySem.W.keepIn M.K (.ref f) = true) (h3 : ∀ (s : Shared) (us ws : List Value), M.K.In s.heap → (us ++ ws.reverse).length = ps.length → BindsTo s fd ⟨us, ks.zip ws⟩ (ps.zip (us ++ ws.reverse))) : CalR2 M k x ks args pre post :=
  ⟨f, fd, ps, F, h1, h2, h3, fun r1 r2 => r1.append r2.reverse⟩
theorem de_callR2 {α : Type} {k1 k2 : Str} {args : α → List Da} {pre : α → Prop} {post : α → Da → Prop} (S : Sc M X k N sc cs) (cl : CalR2 M k x [k1, k2] args pre post) (hg : glB sc x = true)
    (h : DE X a δ fun d1 => DE X b δ fun d2 => ∃ z, [d2, d1] = args z ∧ pre z ∧ ∀ d, post z d → Φ d) : DM X m (.Call (.Name x p2) [] [⟨some k1, a, kp1⟩, ⟨some k2, b, kp2⟩] pos) δ Φ := DM.of <| .mk fun Bs B Hs H σ o Q q => by
  obtain ⟨f, fd, ps, F, h1, h2, h3⟩ := cl.ex
  obtain ⟨g1, g2, g3⟩ := glB_ok hg
  have F' : FnOk X.prog X.w X.K X.mg X.base CX0 k f fd ps (SpD X.K [true, true] args pre post) := by rw [S.hP, S.hw, S.hK, S.hmg, S.hb]; exact F
  have h3' : KBinds X.K fd ps [k1, k2] (fun us ws => us ++ ws.reverse) (fun vs zs => vs ++ zs.reverse) := by rw [S.hK]; exact h3
  have main : PE X (.Call (.Name x p2) [] [⟨some k1, a, kp1⟩, ⟨some k2, b, kp2⟩] pos) (fun σ H Q => tCons (WE X a) (tCons (WE X b) tNil) σ H fun zs H2 => SpD X.K [true, true] args pre post zs.reverse H2 Q E0) := by
    refine .mk fun pins s σ H Q I hq => ?_
    refine wpAny_Call_Name_kw (ld_glob I (by show X.env.scope.names.lookup x = _; rw [S.hsc]; exact g1) (by rw [S.hmg]; exact h1) ?_ g2)
    refine PySem.W.callWith_KW0 (h₀ := X.base) I.ok.mod.kin (by rw [S.hK]; exact h2) rfl (thn ((pk_cons (nm := some k1) (kpos := kp1) pe_W (pk_cons (nm := some k2) (kpos := kp2) pe_W pk_nil)).run pos pins s σ H _ I hq) fun ws s2 ⟨zs, H2, I2, rz, q2⟩ => ⟨I2.kIn, ?_⟩)
    exact run_fnk (us := []) (vs := []) F' S.room h3' pass0 I2 .nil rz q2
  refine WE.of main ?_
  refine h Bs B Hs H σ o _ fun d1 v1 Hs1 H1 gg1 q1 r1 => q1 Bs B Hs1 H1 σ (o.mono gg1) _ fun d2 v2 Hs2 H2 gg2 ⟨z, ez, pz, kz⟩ r2 => ?_
  refine ⟨z, Hs2, gg2.sub, ?_, pz, fun d v Hs' H' g p rd => q d v Hs' H' ((gg1.trans gg2).trans g) (kz d p) rd⟩
  rw [← ez]
  exact .cons r2 (.cons (Rp.mono gg2.ss r1) .nil)
/-- a, b, c = e1, e2, e3, plain local names -/
theorem ds_par3 (S : Sc M X k N sc cs) {px py pz pt : Pos} {kt k2 pt2} (h : DE X a δ fun d => DE X b δ fun d' => DE X c δ fun d'' => ∃ δ1 δ2 δ3, Ss N δ x (some (.d d)) δ1 ∧ Ss N δ1 y (some (.d d')) δ2 ∧ Ss N δ2 z (some (.d d'')) δ3 ∧ nx δ3) (hxy : x ≠ y) (hxz : x ≠ z) (hyz : y ≠ z)
    (hx : (sc.names.lookup x == some .local) = true) (hy : (sc.names.lookup y == some .local) = true) (hz : (sc.names.lookup z == some .local) = true)
    (hw : ∀ env : Env, env.scope = sc → swappedStores [.Tuple [.Name x px, .Name y py, .Name z pz] kt pt] (.Tuple [a, b, c] k2 pt2) env = pure (some [x, y, z]))
    (hN : N.contains x = true) (hN2 : N.contains y = true) (hN3 : N.contains z = true)
    (hs : swapsWithSole [.Tuple [.Name x px, .Name y py, .Name z pz] kt pt] (.Tuple [a, b, c] k2 pt2) pos.line X.env = pure false := by rfl)
    (h1 : starEach [a, b, c] X.env = (false, eval a X.env) :: starEach [b, c] X.env := by rfl) (h2 : starEach [b, c] X.env = (false, eval b X.env) :: starEach [c] X.env := by rfl) (h3 : starEach [c] X.env = (false, eval c X.env) :: starEach [] X.env := by rfl) :
    DS X (.Assign [.Tuple [.Name x px, .Name y py, .Name z pz] kt pt] (.Tuple [a, b, c] k2 pt2) pos) δ nx rt bk ct := .mk fun Bs B Hs H σ o D f => by
  obtain ⟨i, hi⟩ : ∃ i : Nat, N[i]? = some x := List.mem_iff_getElem?.mp (by simpa using hN)
  obtain ⟨j, hj⟩ : ∃ i : Nat, N[i]? = some y := List.mem_iff_getElem?.mp (by simpa using hN2)
  obtain ⟨l, hl⟩ : ∃ i : Nat, N[i]? = some z := List.mem_iff_getElem?.mp (by simpa using hN3)
  have nq : ∀ {i j : Nat} {x y : Str}, N[i]? = some x → N[j]? = some y → x ≠ y → i ≠ j := fun hi hj ne e => by
    rw [e, hj] at hi
    exact ne (Option.some.inj hi).symm
  refine WS.of (ps_par3 (i := i) (j := j) (l := l) S.calm (by rw [S.n]; exact S.nd) (by rw [S.n]; exact hi) (by rw [S.n]; exact hj) (by rw [S.n]; exact hl) (nq hi hj hxy) (nq hi hl hxz) (nq hj hl hyz) (by rw [S.hsc]; simpa using hx) (by rw [S.hsc]; simpa using hy) (by rw [S.hsc]; simpa using hz) (pa_cons pe_W (pa_cons pe_W (pa_cons pe_W pa_nil h3) h2) h1) (hw _ S.hsc) hs) ?_
  refine h Bs B Hs H σ o _ fun d v Hs1 H1 g1 p1 r1 => p1 Bs B Hs1 H1 σ (o.mono g1) _ fun d' w Hs2 H2 g2 p2 r2 => p2 Bs B Hs2 H2 σ ((o.mono g1).mono g2) _ fun d'' u Hs3 H3 g3 ⟨δ1, δ2, δ3, q1, q2, q3, pf⟩ r3 => ?_
  obtain ⟨i', e1, rfl⟩ := q1.at
  obtain rfl : i = i' := nodup_ix S.nd hi e1
  obtain ⟨j', e2, rfl⟩ := q2.at
  obtain rfl : j = j' := nodup_ix S.nd hj e2
  obtain ⟨l', e3, rfl⟩ := q3.at
  obtain rfl : l = l' := nodup_ix S.nd hl e3
  exact ⟨v, w, u, rfl, f.nx _ _ Hs3 H3 ((((((o.mono g1).mono g2).mono g3).setD i (Rp.mono (g2.ss.trans g3.ss) r1)).setD j (Rp.mono g3.ss r2)).setD l r3) ((g1.ss.trans g2.ss).trans g3.ss) pf⟩
end
end DL

/-! DL15: enumerate over a text and over a tuple; tuples repeated. -/
namespace DL
open PySem PySem.Spec PyProof.Rows L2
theorem meets_enum1 {v : Value} {o : Obj} {H : Heap → Prop} (B : Begins v o H) :
    Meets (Builtin.«enumerate.__new__» ⟨[.type "enumerate", v], []⟩) (fun _ R s => H s.heap ∧
      R (.ok (.ret (.ref (s.heap.push o).objs.size))) { s with heap := (s.heap.push o).push { cls := .type "enumerate", data := .fields #[.none, .bool false, .ref s.heap.objs.size, rawInt 0, .none, .none] } }) :=
  .of_wp fun prog w A R s h => by
    obtain ⟨hp, g, d, tk, os⟩ := s; obtain ⟨h1, h⟩ := h
    have hsub := sub_enumerate
    have q1 : ∀ {A' : Around} {E : Value → Shared → Prop} {Q : Value → Shared → Prop}, Q (.ref hp.objs.size) ⟨hp.push o, g, d, tk, os⟩ → wpAny (model prog w) A' (pyIter v) Q E ⟨hp, g, d, tk, os⟩ :=
      fun q => B.iter prog w _ _ ⟨hp, g, d, tk, os⟩ _ h1 q
    wp_walk using q1
    refine wpAny_stack_any fun st => wpAny_pure ?_
    split
    · rename_i c _ _ _ _ _
      cases (c == Value.type "enumerate")
      · wp_walk using q1
        exact ⟨_, rfl, h⟩
      · wp_walk using q1
        exact ⟨_, rfl, h⟩
    · wp_walk using q1
      exact ⟨_, rfl, h⟩
theorem enum_begins1 {prog : Program} {w : World} {A : Around} {E : Value → Shared → Prop} {s : Shared} {v : Value} {o : Obj} {H : Heap → Prop} {Q : Value → Shared → Prop} (B : Begins v o H) (h1 : H s.heap)
    (h : ∀ h', IsEnum h' (s.heap.objs.size + 1) s.heap.objs.size 0 .none → h'.get? s.heap.objs.size = some o → h'.objs.size = s.heap.objs.size + 2 →
      (∀ b o, s.heap.get? b = some o → h'.get? b = some o) → Q (.ref (s.heap.objs.size + 1)) { s with heap := h' }) :
    wpAny (model prog w) A (call (.type "enumerate") [v]) Q E s := by
  refine callType_new F.called_enumerate (by decide) (F.typeCall_enumerate_1 _) (F.newCall_enumerate_1 _) (fun obj => F.args_object_init_2 obj _) F.entry_enumerate_new
    (meets_enum1 B) ⟨h1, ?_⟩
  have hz : (s.heap.push o).objs.size = s.heap.objs.size + 1 := Heap.size_push ..
  show _ ∧ _
  rw [hz]
  have he : IsEnum ((s.heap.push o).push { cls := .type "enumerate", data := .fields #[.none, .bool false, .ref s.heap.objs.size, rawInt 0, .none, .none] }) (s.heap.objs.size + 1) s.heap.objs.size 0 .none := by
    have := Heap.get?_push_size (s.heap.push o) (o := { cls := .type "enumerate", data := .fields #[.none, .bool false, .ref s.heap.objs.size, rawInt 0, .none, .none] }) rfl
    rw [hz] at this; exact this
  refine ⟨⟨_, he, rfl⟩, h _ he (Heap.get?_push_of_some _ (Heap.get?_push_size _ B.free)) (by rw [Heap.size_push, hz]) fun b o x => Heap.get?_push_of_some _ (Heap.get?_push_of_some _ x)⟩

/-! ### over a text -/
def ItES (x : Str) : It :=
  ⟨fun i _ => i < x.cps.size, fun i H v H' => ∃ T c, v = .ref T ∧ H T = none ∧ H' = upd H T (.tup [.int (i : Nat), .str ⟨#[c]⟩]) ∧ x.cps[i]? = some c, fun i _ => i = x.cps.size⟩
def StES (n : Nat) (x : Str) (t : Tok) (i : Nat) (h : Heap) : Prop := (∃ old, IsEnum h (n + 1) n (0 + (i : Int)) old) ∧ h.IsStrIter n (strIterType x) x t i
theorem goesES {P : Program} {w : World} {A : Around} (hh : A.handled = none) (elts : List Expr) (kk : Nat) (tpos : Pos) (n : Nat) (x : Str) (t : Tok) :
    GoesN P w A (.Tuple elts kk tpos) (n + 1) [n + 1, n] [n + 1, n] x.cps.size
      (fun i h v h' => ∃ T tt a, v = .ref T ∧ h.objs.size ≤ T ∧ (∃ c s, x.cps[i]? = some c ∧ a = .str ⟨#[c]⟩ s) ∧ h'.IsTuple T #[.int (0 + (i : Int)) tt, a]) (StES n x t) :=
  GoesN.enumFrom 0 (Draws.text (A := A.in1) (show A.in1.handled = none from hh) n x t) (n + 1) (Nat.succ_ne_self n) (fun z => Nat.succ_ne_self n (List.mem_singleton.mp z)) (List.mem_singleton.mpr rfl)
theorem turnES {P : Program} {w : World} {K : PySem.W.Frag} {elts : List Expr} {kk : Nat} {tpos : Pos} (n : Nat) (x : Str) (t : Tok) : Turn P w K (.Tuple elts kk tpos) (ItES x) [n + 1, n] (n + 1) (StES n x t) := by
  have G := fun (A : Around) (hh : A.handled = none) => goesES (P := P) (w := w) hh elts kk tpos n x t
  have live : ∀ i h, StES n x t i h → ∀ b ∈ [n + 1, n], ∃ o, h.get? b = some o ∧ ∀ v, o.data ≠ .cell v := fun i h st b hb => by
    obtain ⟨⟨old, he⟩, ⟨o, ho, _, hd⟩⟩ := st
    have e' : b = n + 1 ∨ b = n := by simpa using hb
    rcases e' with z | z
    · rw [z]; exact ⟨_, he, fun v q => nomatch q⟩
    · rw [z]; exact ⟨o, ho, fun v q => by rw [hd] at q; cases q⟩
  refine ⟨List.mem_cons_self, live, fun i h h' st k => (G {} rfl).frame i h h' st k, ?_, ?_, fun A i s Q E st h => let ⟨⟨_, he⟩, _⟩ := st; wpAny_pyIter_enum he h⟩
  · rintro X rfl rfl rfl hc i pins s σ H E I hf st hg
    refine (G X.A (I.ok.hd hc)).goes i s _ E hg st fun v h' tk hy st' hk _ => ?_
    obtain ⟨T, tt, a, ev, hT, ⟨c, s1, ec, ea⟩, ho⟩ := hy
    subst ev ea
    have e0 : (0 + (i : Int)) = (i : Int) := Int.zero_add _
    rw [e0] at ho
    have new : ObjOk X.prog X.w (upd H T (.tup [.int (i : Nat), .str ⟨#[c]⟩])) h' T (.tup [.int (i : Nat), .str ⟨#[c]⟩]) := ⟨by show 2 ≤ sizeLine; decide, _, .cons ⟨tt, rfl⟩ (.cons ⟨s1, rfl⟩ .nil), ho⟩
    refine ⟨.ref T, _, I.turnedNew (t' := tk) (fun b o hb e => hk b o hb e) hf hT new, rfl, ⟨T, c, rfl, I.hok.fresh hT, rfl, ec⟩, st', fun b hb => ?_⟩
    obtain ⟨o, eo, _⟩ := live _ _ st b hb
    rw [upd_ne (Nat.ne_of_lt (Nat.lt_of_lt_of_le (Heap.lt_size eo) hT))]
    exact (hf b hb).1
  · rintro X rfl rfl rfl hc i pins s σ H E I hf st hg
    cases (show i = x.cps.size from hg)
    exact (G X.A (I.ok.hd hc)).stops s (fun s1 => Inv X pins σ H s1) E st fun h' tk hk _ => I.turnedL (t' := tk) (fun b o hb e => hk b o hb e) hf
def iES (ta : TA) : TI := fun σ H R => ta σ H fun vs H1 => ∃ x, vs = [.str x] ∧ R (ItES x) H1
theorem pi_enumS {X : Cx} {e : Expr} {ta : TA} {p pos tpos : Pos} {elts : List Expr} {kk : Nat} (hg : Gl X "enumerate") (hm : X.mg "enumerate" = none) (ha : PA X [e] ta) (hs : starEach [e] X.env = [(false, eval e X.env)] := by rfl) :
    PI X (.Tuple elts kk tpos) (.Call (.Name "enumerate" p) [e] [] pos) (iES ta) := .mk fun pins s σ H R I h =>
  Call_ (ld_blt I hg hm PyProof.Rows.boot_enumerate (PyProof.Rows.callWith_type1 (thn (ha.run pos pins s σ H _ I h) fun us s1 ⟨vs, H1, I1, r1, x, ex, q⟩ => by
    subst ex
    cases r1 with
    | cons r rr =>
      cases rr
      obtain ⟨t1, rfl⟩ := r
      refine enum_begins1 (begins_text x t1) trivial fun h' he g1 hsz hk => wpAny_pyIter_enum he ?_
      refine ⟨_, [s1.heap.objs.size + 1, s1.heap.objs.size], _, ItES x, H1, rfl, I1.kept (t' := s1.toks) hk, turnES s1.heap.objs.size x t1, ⟨⟨_, he⟩, ⟨_, g1, rfl, rfl⟩⟩, fun b hb => ?_, q⟩
      have hle : s1.heap.objs.size ≤ b := by
        have e' : b = s1.heap.objs.size + 1 ∨ b = s1.heap.objs.size := by simpa using hb
        rcases e' with z | z
        · rw [z]; exact Nat.le_add_right _ _
        · rw [z]; exact Nat.le_refl _
      exact I1.fpOk hle (I1.hok.fresh hle)) hs rfl))

/-! ### over a tuple -/
def ItET (K : PySem.W.Frag) (a : Addr) : It :=
  ⟨fun i H => ∃ (xs : List V) (x : V), SqT K H a xs ∧ xs[i]? = some x, fun i H v H' => ∃ T x, v = .ref T ∧ H T = none ∧ H' = upd H T (.tup [.int (i : Nat), x]) ∧ ∀ xs, SqT K H a xs → xs[i]? = some x, fun i H => ∃ xs : List V, SqT K H a xs ∧ xs.length = i⟩
def StET (n a : Nat) (i : Nat) (h : Heap) : Prop := (∃ old, IsEnum h (n + 1) n (0 + (i : Int)) old) ∧ h.IsTupleIter n a i ∧ a < n
theorem goesET {P : Program} {w : World} {A : Around} (hh : A.handled = none) (elts : List Expr) (kk : Nat) (tpos : Pos) (n a : Nat) (ha : a < n) (items : Array Value) :
    GoesN P w A (.Tuple elts kk tpos) (n + 1) [n + 1, n, a] [n + 1, n] items.size
      (fun i h v h' => ∃ T tt x, v = .ref T ∧ h.objs.size ≤ T ∧ items[i]? = some x ∧ h'.IsTuple T #[.int (0 + (i : Int)) tt, x]) (fun i h => (∃ old, IsEnum h (n + 1) n (0 + (i : Int)) old) ∧ h.IsTupleIter n a i ∧ h.IsTuple a items) :=
  GoesN.enumFrom 0 (Draws.tuple (A := A.in1) (show A.in1.handled = none from hh) n a (Nat.ne_of_lt ha) items) (n + 1) (Nat.succ_ne_self n) (fun z => by
    rcases List.mem_cons.mp z with z | z
    · exact Nat.succ_ne_self n z
    · have := List.mem_singleton.mp z
      have e : n + 1 = a := this
      omega) List.mem_cons_self
theorem turnET {P : Program} {w : World} {K : PySem.W.Frag} {elts : List Expr} {kk : Nat} {tpos : Pos} (n a : Nat) : Turn P w K (.Tuple elts kk tpos) (ItET K a) [n + 1, n] (n + 1) (StET n a) := by
  have live : ∀ i h, StET n a i h → ∀ b ∈ [n + 1, n], ∃ o, h.get? b = some o ∧ ∀ v, o.data ≠ .cell v := fun i h st b hb => by
    obtain ⟨⟨old, he⟩, ⟨o, ho, _, hd⟩, _⟩ := st
    have e' : b = n + 1 ∨ b = n := by simpa using hb
    rcases e' with z | z
    · rw [z]; exact ⟨_, he, fun v q => nomatch q⟩
    · rw [z]; exact ⟨o, ho, fun v q => by rw [hd] at q; cases q⟩
  refine ⟨List.mem_cons_self, live, fun i h h' st k => ?_, ?_, ?_, fun A i s Q E st h => let ⟨⟨_, he⟩, _⟩ := st; wpAny_pyIter_enum he h⟩
  · obtain ⟨⟨old, he⟩, hi, ha⟩ := st
    exact ⟨⟨old, k (n + 1) (by simp) _ he⟩, hi.at fun o q => k n (by simp) o q, ha⟩
  · rintro X rfl rfl rfl hc i pins s σ H E I hf st hg
    obtain ⟨he, hi, ha⟩ := st
    obtain ⟨xs, x, hq, hx⟩ := hg
    obtain ⟨its, rv, p, hz⟩ := I.tuple hq
    obtain ⟨u, hu, ru⟩ := rv.get hx
    have hlt : i < its.toArray.size := by simpa using (List.getElem?_eq_some_iff.mp hu).1
    refine (goesET (I.ok.hd hc) elts kk tpos n a ha its.toArray).goes i s _ E hlt ⟨he, hi, p⟩ fun v h' tk hy st' hk _ => ?_
    obtain ⟨T, tt, y, ev, hT, ey, ho⟩ := hy
    subst ev
    have e1 : its[i]? = some y := by simpa using ey
    rw [hu] at e1
    cases e1
    have e0 : (0 + (i : Int)) = (i : Int) := Int.zero_add _
    rw [e0] at ho
    have new : ObjOk X.prog X.w (upd H T (.tup [.int (i : Nat), x])) h' T (.tup [.int (i : Nat), x]) := ⟨by show 2 ≤ sizeLine; decide, _, .cons ⟨tt, rfl⟩ (.cons ru .nil), ho⟩
    refine ⟨.ref T, _, I.turnedNew (t' := tk) (fun b o hb e => hk b o hb e) hf hT new, rfl, ⟨T, x, rfl, I.hok.fresh hT, rfl, fun ys hy => by rw [I.tuple_inj hy hq]; exact hx⟩, ⟨st'.1, st'.2.1, ha⟩, fun b hb => ?_⟩
    obtain ⟨o, eo, _⟩ := live i _ ⟨he, hi, ha⟩ b hb
    rw [upd_ne (Nat.ne_of_lt (Nat.lt_of_lt_of_le (Heap.lt_size eo) hT))]
    exact (hf b hb).1
  · rintro X rfl rfl rfl hc i pins s σ H E I hf st hg
    obtain ⟨he, hi, ha⟩ := st
    obtain ⟨xs, hq, hx⟩ := hg
    obtain ⟨its, rv, p, hz⟩ := I.tuple hq
    have hl := rv.length
    have e : i = its.toArray.size := by
      rw [List.size_toArray]
      omega
    subst e
    exact (goesET (I.ok.hd hc) elts kk tpos n a ha its.toArray).stops s (fun s1 => Inv X pins σ H s1) E ⟨he, hi, p⟩ fun h' tk hk _ => I.turnedL (t' := tk) (fun b o hb e => hk b o hb e) hf
def iET (K : PySem.W.Frag) (ta : TA) : TI := fun σ H R => ta σ H fun vs H1 => ∃ a xs, vs = [.ref a] ∧ SqT K H1 a xs ∧ R (ItET K a) H1
theorem pi_enumT {X : Cx} {e : Expr} {ta : TA} {p pos tpos : Pos} {elts : List Expr} {kk : Nat} (hg : Gl X "enumerate") (hm : X.mg "enumerate" = none) (ha : PA X [e] ta) (hs : starEach [e] X.env = [(false, eval e X.env)] := by rfl) :
    PI X (.Tuple elts kk tpos) (.Call (.Name "enumerate" p) [e] [] pos) (iET X.K ta) := .mk fun pins s σ H R I h =>
  Call_ (ld_blt I hg hm PyProof.Rows.boot_enumerate (PyProof.Rows.callWith_type1 (thn (ha.run pos pins s σ H _ I h) fun us s1 ⟨vs, H1, I1, r1, a, xs, ex, hq, q⟩ => by
    subst ex
    cases r1 with
    | cons r rr =>
      cases rr
      cases r
      obtain ⟨its, rv, p', hz⟩ := I1.tuple hq
      have hlt : a < s1.heap.objs.size := by obtain ⟨o, ho, _⟩ := p'; exact Heap.lt_size ho
      refine enum_begins1 (begins_tuple a its.toArray) p' fun h' he g1 hsz hk => wpAny_pyIter_enum he ?_
      refine ⟨_, [s1.heap.objs.size + 1, s1.heap.objs.size], _, ItET X.K a, H1, rfl, I1.kept (t' := s1.toks) hk, turnET s1.heap.objs.size a, ⟨⟨_, he⟩, ⟨_, g1, rfl, rfl⟩, hlt⟩, fun b hb => ?_, q⟩
      have hle : s1.heap.objs.size ≤ b := by
        have e' : b = s1.heap.objs.size + 1 ∨ b = s1.heap.objs.size := by simpa using hb
        rcases e' with z | z
        · rw [z]; exact Nat.le_add_right _ _
        · rw [z]; exact Nat.le_refl _
      exact I1.fpOk hle (I1.hok.fresh hle)) hs rfl))
section
variable {M : Md} {X : Cx} {k : Nat} {N : List Str} {sc cs : Scope} {δ δ' : Sg} {m : Bool} {Φ Ψ : Da → Prop} {x y : Str} {pos p2 p3 apos : Pos} {e a b o tg it : Expr} {es : List Expr}
theorem di_enumS (S : Sc M X k N sc cs) {elts : List Expr} {kk : Nat} {tpos : Pos} {Φ : List Da → Prop} (hm : M.mg "enumerate" = none) (hg : glB sc "enumerate" = true) (h : DE X e δ fun d => ∃ z, d = .str z ∧ Φ (enumD (chars z)))
    (hs : starEach [e] X.env = (false, eval e X.env) :: starEach [] X.env := by rfl) : DI X (.Tuple elts kk tpos) (.Call (.Name "enumerate" p2) [e] [] pos) δ Φ := .mk fun Bs B Hs H σ o R q =>
  WI.of (pi_enumS (by show X.env.scope.names.lookup _ = _; rw [S.hsc]; exact (glB_ok hg).1) (by rw [S.hmg]; exact hm) (pa_cons pe_W pa_nil hs) (by rw [hs]; rfl)) (h Bs B Hs H σ o _ fun d v Hs1 H1 g ⟨z, e1, p⟩ r => by
    subst e1
    cases r.atom
    have wk : Walk (ItES z) (enumD (chars z)).length (fun _ => True) (YPair (fun i => some (.int (i : Nat))) (fun i => (z.cps[i]?).map fun c => V.str ⟨#[c]⟩)) := by
      rw [enumD_len, chars_len]
      refine ⟨fun i _ hi q => hi, fun _ q => rfl, fun i H v H' _ q y => ?_⟩
      obtain ⟨T, c, h1, h2, h3, h4⟩ := y
      exact ⟨T, _, _, h1, h2, h3, rfl, by dsimp only; rw [h4]; rfl⟩
    refine ⟨z, rfl, q _ _ (fun _ => True) _ Hs1 H1 g p wk (fun _ _ _ _ => True.intro) fun i d Hs2 H2 v H3 s1 s2 hi hy => ?_⟩
    obtain ⟨T, x, y, rfl, hT, rfl, hx, hy⟩ := hy
    dsimp only at hx hy
    obtain ⟨w, hw, rfl⟩ := enumD_get hi
    obtain ⟨c, hc, rfl⟩ := chars_get hw
    rw [hc] at hy
    cases hy
    cases hx
    exact pair_new s2 (.a _) (.a _) hT)
theorem di_enumT (S : Sc M X k N sc cs) {elts : List Expr} {kk : Nat} {tpos : Pos} {Φ : List Da → Prop} (hm : M.mg "enumerate" = none) (hg : glB sc "enumerate" = true) (h : DE X e δ fun d => ∃ l, d = .tup l ∧ Φ (enumD l))
    (hs : starEach [e] X.env = (false, eval e X.env) :: starEach [] X.env := by rfl) : DI X (.Tuple elts kk tpos) (.Call (.Name "enumerate" p2) [e] [] pos) δ Φ := .mk fun Bs B Hs H σ o R q =>
  WI.of (pi_enumT (by show X.env.scope.names.lookup _ = _; rw [S.hsc]; exact (glB_ok hg).1) (by rw [S.hmg]; exact hm) (pa_cons pe_W pa_nil hs) (by rw [hs]; rfl)) (h Bs B Hs H σ o _ fun d v Hs1 H1 g ⟨l, e1, p⟩ r => by
    subst e1
    obtain ⟨a, vs, rfl, ha, ra⟩ := r.tup_inv
    have wk : Walk (ItET X.K a) (enumD l).length (fun H => SqT X.K H a vs) (YPair (fun i => some (.int (i : Nat))) (fun i => vs[i]?)) := by
      rw [enumD_len, ra.len]
      refine ⟨fun i _ hi q => ⟨vs, vs[i], q, by simp [hi]⟩, fun _ q => ⟨vs, q, rfl⟩, fun i H v H' _ q y => ?_⟩
      obtain ⟨T, x, h1, h2, h3, h4⟩ := y
      exact ⟨T, .int (i : Nat), x, h1, h2, h3, rfl, h4 vs q⟩
    refine ⟨a, vs, rfl, .of (g.sub _ _ ha), q _ _ (fun H => SqT X.K H a vs) _ Hs1 H1 g p wk (fun Hs2 H2 s1 s2 => .of (s2 _ _ (s1 _ _ ha))) fun i d Hs2 H2 v H3 s1 s2 hi hy => ?_⟩
    obtain ⟨T, x, y, rfl, hT, rfl, hx, hy⟩ := hy
    dsimp only at hx hy
    obtain ⟨z, hz, rfl⟩ := enumD_get hi
    obtain ⟨v', hv', rv⟩ := ra.get hz
    rw [hy] at hv'
    cases hv'
    cases hx
    exact pair_new s2 (.a _) (rv.mono s1) hT)
theorem RpAll.reps {K : PySem.W.Frag} {H : Hp} {ds : List Da} {vs : List V} (r : RpAll K H ds vs) : ∀ n : Nat, RpAll K H (List.replicate n ds).flatten (List.replicate n vs).flatten
  | 0 => .nil
  | n + 1 => by
    rw [List.replicate_succ, List.replicate_succ, List.flatten_cons, List.flatten_cons]
    exact r.app (r.reps n)
/-- (..) * n -/
theorem de_mulT (h : DE X a δ fun x => DE X b δ fun y => ∃ l i, x = .tup l ∧ y = .int i ∧ l ≠ [] ∧ 2 ≤ i ∧ i ≤ 1000 ∧ l.length ≤ 1000 ∧ Φ (.tup (List.replicate i.toNat l).flatten)) : DM X m (.BinOp a .Mult b pos) δ Φ := de_bin (h.imp fun x hx => hx.imp fun y hy => by
  obtain ⟨l, i, rfl, rfl, hne, h1, h2, h3, p⟩ := hy
  intro Hs H v w e r1 r2 Q q
  obtain ⟨p1, vs, rfl, hp, a1⟩ := r1.tup_inv
  cases r2.atom
  have hl := a1.len
  refine rW_of op_repT ⟨p1, i, vs, rfl, rfl, .of (e _ _ hp), fun z => hne (by rw [z] at hl; exact List.length_eq_zero_iff.mp hl), h1, h2, by omega, fun p' hp' => q _ _ _ _ (Go.new e hp') p ?_⟩
  exact .tup upd_same ((a1.reps _).mono (same_upd (e.free hp'))))
end
end DL

/-! DL16: products of all kinds; slices from the end; places in lists. -/
namespace DL
open PySem PySem.Spec PyProof.Rows L2
def repN (n : Nat) (r : List Nat) : List Nat := (List.replicate n r).flatten
theorem rep_cps (r : List Nat) (n : Nat) : (List.replicate n (tx r).cps).foldl (· ++ ·) #[] = (repN n r).toArray := by
  have key : ∀ (n : Nat) (a : List Nat), (List.replicate n r.toArray).foldl (· ++ ·) a.toArray = (a ++ repN n r).toArray := by
    intro n
    induction n with
    | zero => intro a; simp [repN]
    | succ n ih =>
      intro a
      rw [List.replicate_succ, List.foldl_cons]
      have e : a.toArray ++ r.toArray = (a ++ r).toArray := by simp
      rw [e, ih (a ++ r)]
      unfold repN
      rw [List.replicate_succ, List.flatten_cons, List.append_assoc]
  have := key n []
  rw [List.nil_append] at this
  exact this
theorem repN_len (n : Nat) (r : List Nat) : (repN n r).length = n * r.length := by
  unfold repN
  induction n with
  | zero => simp
  | succ n ih => rw [List.replicate_succ, List.flatten_cons, List.length_append, ih, Nat.succ_mul, Nat.add_comm]
def rMulS : R2 := fun x y H Q => ∃ (r : List Nat) (n : Nat), x = .str (tx r) ∧ y = .int (n : Int) ∧ n ≤ 1000 ∧ r.length ≤ 1000 ∧ Q (.str (tx (repN n r))) H
theorem op_mulS {X : Cx} : OpR X (binaryOp .Mult) rMulS := by
  intro pins s σ H x y v u Q I rx ry h
  obtain ⟨r, n, rfl, rfl, hn, hr, q⟩ := h
  obtain ⟨t, rfl⟩ := rx
  obtain ⟨t2, rfl⟩ := ry
  have hlen : (tx r).length = r.length := by show r.toArray.size = _; simp
  have hmul : r.length * n ≤ 1000000 := Nat.le_trans (Nat.mul_le_mul hr hn) (by decide)
  refine PySem.P.mul_str (by
      have h1 : ¬ ((n : Int) < -(2 ^ 63)) := by omega
      have h2 : ¬ ((n : Int) ≥ 2 ^ 63) := by omega
      rw [decide_eq_false h1, decide_eq_false h2]; rfl) (fun h1 _ => ?_) (fun h1 _ => ?_) ?_
  · rw [hlen]
    have h3 : (1001 : Int) ≤ (2 ^ 63 - 1) / (n : Int) := by
      rw [Int.le_ediv_iff_mul_le (by omega)]
      omega
    omega
  · rw [hlen, Int.toNat_natCast]
    unfold PySem.Builtin.Str.tooLong
    have : sizeLine = 16777216 := sizeLine_eq
    simp
    omega
  · by_cases h1 : (n : Int) < 1
    · rw [if_pos h1]
      have hn0 : n = 0 := by omega
      subst hn0
      exact ⟨by decide, .str (tx []), H, I.tok _, ⟨_, rfl⟩, by have e : repN 0 r = [] := rfl; rw [e] at q; exact q⟩
    · rw [if_neg h1]
      by_cases h2 : (((n : Int) == 1 || (tx r).length == 0) = true)
      · rw [if_pos h2]
        have e : repN n r = r := by
          rw [Bool.or_eq_true] at h2
          rcases h2 with h2 | h2
          · have : n = 1 := by have := eq_of_beq h2; omega
            subst this
            show (List.replicate 1 r).flatten = r
            simp
          · have h3 := eq_of_beq h2
            rw [hlen] at h3
            have : r = [] := List.length_eq_zero_iff.mp h3
            subst this
            unfold repN
            simp
        rw [e] at q
        exact ⟨.str (tx r), H, I, ⟨_, rfl⟩, q⟩
      · rw [if_neg h2, Int.toNat_natCast, rep_cps]
        refine ⟨?_, .str (tx (repN n r)), H, I.tok _, ⟨_, rfl⟩, q⟩
        show (repN n r).toArray.size ≤ sizeLine
        have : sizeLine = 16777216 := sizeLine_eq
        rw [List.size_toArray, repN_len, Nat.mul_comm]
        omega
inductive MulW (Φ : Da → Prop) : Da → Da → Prop
  | int {i j : Int} : (CMul i j ∨ CMulW i j) → Φ (.int (i * j)) → MulW Φ (.int i) (.int j)
  | ib {i : Int} {c : Bool} : Φ (.int (i * b2i c)) → MulW Φ (.int i) (.bl c)
  | str {r : List Nat} {n : Nat} : n ≤ 1000 → r.length ≤ 1000 → Φ (.str (tx (repN n r))) → MulW Φ (.str (tx r)) (.int (n : Int))
  | tup {l : List Da} {i : Int} : l ≠ [] → 2 ≤ i → i ≤ 1000 → l.length ≤ 1000 → Φ (.tup (List.replicate i.toNat l).flatten) → MulW Φ (.tup l) (.int i)
  | lst {l : List Da} {n : Nat} : n ≤ 1000 → l.length ≤ 1000 → Φ (.lst (List.replicate n l).flatten) → MulW Φ (.lst l) (.int (n : Int))
section
variable {M : Md} {X : Cx} {k : Nat} {N : List Str} {sc cs : Scope} {δ δ' : Sg} {m : Bool} {Φ Ψ : Da → Prop} {x y : Str} {pos p2 p3 apos : Pos} {e a b o tg it : Expr} {es : List Expr}
theorem de_mulA (h : DE X a δ fun x => DE X b δ fun y => MulW Φ x y) : DM X m (.BinOp a .Mult b pos) δ Φ := de_bin (h.imp fun x hx => hx.imp fun y hy => by
  cases hy with
  | ib h => exact ow_atom op_mul_ib (fun H Q q => ⟨_, _, rfl, rfl, q⟩) h
  | int hc h =>
    rcases hc with hc | hc
    · exact ow_atom op_mul (fun H Q q => ⟨_, _, rfl, rfl, hc, q⟩) h
    · exact ow_atom op_mulW (fun H Q q => ⟨_, _, rfl, rfl, hc, q⟩) h
  | str h1 h2 h => exact ow_atom op_mulS (fun H Q q => ⟨_, _, rfl, rfl, h1, h2, q⟩) h
  | @tup l i hne h1 h2 h3 p =>
    intro Hs H v w e r1 r2 Q q
    obtain ⟨p1, vs, rfl, hp, a1⟩ := r1.tup_inv
    cases r2.atom
    have hl := a1.len
    refine rW_of op_repT ⟨p1, i, vs, rfl, rfl, .of (e _ _ hp), fun z => hne (by rw [z] at hl; exact List.length_eq_zero_iff.mp hl), h1, h2, by omega, fun p' hp' => q _ _ _ _ (Go.new e hp') p ?_⟩
    exact .tup upd_same ((a1.reps _).mono (same_upd (e.free hp')))
  | @lst l n h1 h2 p =>
    intro Hs H v w e r1 r2 Q q
    obtain ⟨p1, vs, rfl, hp, a1⟩ := r1.lst_inv
    cases r2.atom
    have hl := a1.len
    have hmul : vs.length * n ≤ 1000000 := Nat.le_trans (Nat.mul_le_mul (by omega : vs.length ≤ 1000) h1) (by decide)
    have : sizeLine = 16777216 := sizeLine_eq
    refine rW_of op_rep ⟨p1, (n : Int), vs, rfl, rfl, e _ _ hp, by omega, by omega, by rw [Int.toNat_natCast]; omega, fun p' hp' => ?_⟩
    rw [Int.toNat_natCast]
    exact q _ _ _ _ (Go.new e hp') p (.lst upd_same ((a1.reps _).mono (same_upd (e.free hp')))))
end
theorem cutL_to {α : Type} (l : List α) {j : Int} (h : 0 ≤ j) : cutL l none (some j) = l.take j.toNat := by
  obtain ⟨n, rfl⟩ := Int.eq_ofNat_of_zero_le h
  unfold cutL
  have e0 : HT.sIx l.length 0 none = 0 := rfl
  rw [HT.sIx_nat, e0, List.drop_zero, Nat.sub_zero, Int.toNat_natCast]
  by_cases hn : n ≤ l.length
  · rw [Nat.min_eq_left hn]
  · rw [Nat.min_eq_right (by omega), List.take_of_length_le (Nat.le_refl _), List.take_of_length_le (by omega)]
theorem cutL_from {α : Type} (l : List α) {j : Int} (h : 0 ≤ j) : cutL l (some j) none = l.drop j.toNat := by
  obtain ⟨n, rfl⟩ := Int.eq_ofNat_of_zero_le h
  unfold cutL
  rw [HT.sIx_nat, HT.sIx_none, Int.toNat_natCast, List.take_of_length_le (by rw [List.length_drop]; omega)]
  by_cases hn : n ≤ l.length
  · rw [Nat.min_eq_left hn]
  · rw [Nat.min_eq_right (by omega), List.drop_of_length_le (Nat.le_refl _), List.drop_of_length_le (by omega)]
theorem cutL_mid {α : Type} (l : List α) {i j : Int} (h : 0 ≤ i) (h2 : 0 ≤ j) : cutL l (some i) (some j) = (l.drop i.toNat).take (j.toNat - i.toNat) := by
  obtain ⟨n, rfl⟩ := Int.eq_ofNat_of_zero_le h
  obtain ⟨m, rfl⟩ := Int.eq_ofNat_of_zero_le h2
  unfold cutL
  rw [HT.sIx_nat, HT.sIx_nat, Int.toNat_natCast, Int.toNat_natCast]
  by_cases hn : n ≤ l.length
  · rw [Nat.min_eq_left hn]
    by_cases hm : m ≤ l.length
    · rw [Nat.min_eq_left hm]
    · rw [Nat.min_eq_right (by omega), List.take_of_length_le (by rw [List.length_drop]; omega), List.take_of_length_le (by rw [List.length_drop]; omega)]
  · rw [List.drop_of_length_le (l := l) (i := n) (by omega), List.drop_of_length_le (l := l) (by omega)]
    simp
theorem cutL_neg {α : Type} (l : List α) : cutL l none (some (-1)) = l.dropLast := by
  unfold cutL
  have e0 : HT.sIx l.length 0 none = 0 := rfl
  have e1 : HT.sIx l.length l.length (some (-1)) = l.length - 1 := by
    unfold HT.sIx
    dsimp only
    rw [if_pos (by decide)]
    omega
  rw [e0, e1, List.drop_zero, Nat.sub_zero, List.dropLast_eq_take]
end DL

/-! DL17: isinstance; sorted pairs; comprehensions of two clauses; dict comprehensions by whole numbers; lengths of dicts. -/
namespace DL
open PySem PySem.Spec PyProof.Rows L2
/-! ### isinstance -/
def tyD : Da → String
  | .a .non => "NoneType"
  | .a (.bl _) => "bool"
  | .a (.int _) => "int"
  | .a (.str _) => "str"
  | .lst _ => "list"
  | .tup _ => "tuple"
  | .dk _ => "dict"
  | .dt _ => "dict"
  | _ => "?"
/-- data whose type is known -/
def TyK : Da → Prop
  | .a .non => True
  | .a (.bl _) => True
  | .a (.int _) => True
  | .a (.str _) => True
  | .lst _ => True
  | .tup _ => True
  | .dk _ => True
  | _ => False
theorem tyD_of {K : PySem.W.Frag} {H : Hp} {d : Da} {v : V} (k : TyK d) (r : Rp K H d v) : TyX K H v (.type (tyD d)) := by
  cases r with
  | a v =>
    cases v with
    | non => exact .base .non
    | bl b => exact .base (.bl b)
    | int i => exact .base (.int i)
    | str x => exact .base (.str x)
    | byt b => cases k
    | flt b => cases k
    | ref a => cases k
    | ty n => cases k
  | lst h _ => exact .base (.lst h)
  | tup h _ => exact .base (.tup h)
  | dk h => exact .base (.dK h)
  | dt h => cases k
  | drw h => cases k
  | scr h => cases k
section
variable {M : Md} {X : Cx} {k : Nat} {N : List Str} {sc cs : Scope} {δ δ' : Sg} {m : Bool} {Φ Ψ : Da → Prop} {x y : Str} {pos p2 p3 apos : Pos} {e a b o tg it kx vx : Expr} {es : List Expr} {nx bk ct : Sg → Prop} {rt : Da → Prop}
/-- a built-in class as a value -/
theorem de_ty (S : Sc M X k N sc cs) {T : String} (hm : M.mg x = none) (hg : glB sc x = true) (hv : bootBuiltins x = some (.type T)) (h : Φ (.a (.ty T))) : DM X m (.Name x pos) δ Φ := de_bltn (v := .ty T) S hg hm hv rfl h
theorem bw_isi {d : Da} {T : String} {r : Bool} (k : TyK d) (hk : kitB (tyD d) T = some r) (h : Φ (.bl r)) : BW X (.builtin "isinstance") [d, .a (.ty T)] Φ := fun Hs H vs e rr Q q => by
  cases rr with
  | cons r1 t =>
    cases t with
    | cons r2 t2 =>
      cases t2
      cases r2.atom
      exact rCW_of call_isi ⟨_, _, _, _, r, rfl, .ty T, tyD_of k (r1.mono e), kit_ty hk, q _ _ Hs H (Go.refl e) h (.a _)⟩
/-- isinstance(x, (A, B)) -/
theorem bw_isi2 {d : Da} {T U : String} {r1 r2 : Bool} (k : TyK d) (h1 : kitB (tyD d) T = some r1) (h2 : kitB (tyD d) U = some r2) (h : Φ (.bl (r1 || r2))) : BW X (.builtin "isinstance") [d, .tup [.a (.ty T), .a (.ty U)]] Φ := fun Hs H vs e rr Q q => by
  cases rr with
  | cons q1 t =>
    cases t with
    | cons q2 t2 =>
      cases t2
      obtain ⟨p, ws, rfl, hp, ra⟩ := q2.tup_inv
      have ra2 : RpAll X.K Hs ([V.ty T, V.ty U].map Da.a) ws := ra
      rw [ra2.atoms] at hp
      refine rCW_of call_isiT ⟨_, p, _, _, [.type T, .type U], r1 || r2, rfl, e _ _ hp, .cons (.ty T) (.cons (.ty U) .nil), tyD_of k (q1.mono e), ?_, q _ _ Hs H (Go.refl e) h (.a _)⟩
      refine kitAny_cons (b := r1) (kit_ty h1) (fun z => ?_) (fun z => by rw [z]; rfl)
      refine kitAny_cons (b := r2) (kit_ty h2) (fun z2 => ?_) (fun z2 => by rw [z2]; cases r1 <;> rfl)
      rw [z, z2]
      exact kitAny_nil
theorem bw_lenK {l : List (Key × V)} (h : Φ (.int l.length)) : BW X (.builtin "len") [.dk l] Φ := fun Hs H vs e rr Q q => by
  cases rr with
  | cons r t =>
    cases t
    obtain ⟨a, rfl, ha⟩ := r.dk_inv
    exact rCW_of call_lenD ⟨a, l, rfl, e _ _ ha, q _ _ Hs H (Go.refl e) h (.a _)⟩

/-! ### sorted pairs of whole numbers -/
def encI (p : Int × Int) : Da := .tup [.int p.1, .int p.2]
def ltI (p q : Int × Int) : Prop := p.1 < q.1 ∨ (p.1 = q.1 ∧ p.2 < q.2)
/-- what a tracked pair holds -/
def prOf (H : Hp) (v : V) : Int × Int := match v with
  | .ref t => match H t with
    | some (.tup [.int i, .int j]) => (i, j)
    | _ => (0, 0)
  | _ => (0, 0)
theorem prOf_rp {K : PySem.W.Frag} {H : Hp} {p : Int × Int} {v : V} (r : Rp K H (encI p) v) : prOf H v = p ∧ ∃ t, v = .ref t ∧ H t = some (.tup [.int p.1, .int p.2]) := by
  obtain ⟨t, ws, rfl, ht, ra⟩ := r.tup_inv
  have ra2 : RpAll K H ([V.int p.1, V.int p.2].map Da.a) ws := ra
  rw [ra2.atoms] at ht
  refine ⟨?_, t, rfl, ht⟩
  unfold prOf
  dsimp only
  rw [ht]
theorem prs_rp {K : PySem.W.Frag} {H : Hp} : ∀ {ps : List (Int × Int)} {vs : List V}, RpAll K H (ps.map encI) vs → vs.map (prOf H) = ps ∧ ∀ v ∈ vs, Rp K H (encI (prOf H v)) v
  | [], _, .nil => ⟨rfl, fun v hv => by cases hv⟩
  | p :: ps, _, .cons r t => by
    obtain ⟨h1, h2⟩ := prs_rp t
    obtain ⟨e, _⟩ := prOf_rp r
    refine ⟨by rw [List.map_cons, h1, e], fun v hv => ?_⟩
    rcases List.mem_cons.mp hv with rfl | hv
    · rw [e]; exact r
    · exact h2 v hv
theorem prs_all {K : PySem.W.Frag} {H : Hp} : ∀ {vs : List V}, (∀ v ∈ vs, Rp K H (encI (prOf H v)) v) → RpAll K H ((vs.map (prOf H)).map encI) vs
  | [], _ => .nil
  | v :: vs, h => .cons (h v List.mem_cons_self) (prs_all fun u hu => h u (List.mem_cons_of_mem _ hu))
theorem srt_uniq {qs rs : List (Int × Int)} (hp : qs.Perm rs) (h1 : qs.Pairwise ltI) (h2 : rs.Pairwise fun p q => ¬ ltI q p) : qs = rs := by
  induction qs generalizing rs with
  | nil => exact (List.Perm.eq_nil hp.symm).symm
  | cons q qs ih =>
    cases rs with
    | nil => exact absurd hp.length_eq (by simp)
    | cons r rs =>
      have a := List.pairwise_cons.mp h1
      have b := List.pairwise_cons.mp h2
      have e : q = r := by
        rcases List.mem_cons.mp (hp.mem_iff.mp (List.mem_cons_self (a := q) (l := qs))) with e | hq
        · exact e
        · rcases List.mem_cons.mp (hp.mem_iff.mpr (List.mem_cons_self (a := r) (l := rs))) with e | hr
          · exact e.symm
          · exact absurd (a.1 r hr) (b.1 q hq)
      subst e
      rw [ih hp.cons_inv a.2 b.2]
theorem bw_sortP {ps qs : List (Int × Int)} (hp : qs.Perm ps) (hs : qs.Pairwise ltI) (h : Φ (.lst (qs.map encI))) : BW X (.builtin "sorted") [.lst (ps.map encI)] Φ := fun Hs H vs e rr Q q => by
  cases rr with
  | cons r t =>
    cases t
    obtain ⟨a, ws, rfl, ha, ra⟩ := r.lst_inv
    obtain ⟨h1, h2⟩ := prs_rp ra
    refine rCW_of cr_sortedPO ⟨a, ws, prOf Hs, rfl, .of (e _ _ ha), fun x hx => ?_, fun ys p sy st hH => ?_⟩
    · obtain ⟨t, e2, e3⟩ := (prOf_rp (h2 x hx)).2
      exact ⟨t, e2, e _ _ e3⟩
    · have eq : qs = ys.map (prOf Hs) := by
        refine srt_uniq ?_ hs ?_
        · rw [← h1] at hp
          exact hp.trans (st.perm.symm.map _)
        · rw [List.pairwise_map]
          exact List.Pairwise.imp (fun {x y} hxy => SrtO.lexB_no.mp hxy) sy
      have hq : RpAll X.K Hs (qs.map encI) ys := by
        rw [eq]
        exact prs_all fun v hv => h2 v (st.perm.mem_iff.mp hv)
      exact q _ _ _ _ (Go.new e hH) h (.lst upd_same (hq.mono (same_upd (e.free hH))))
end
end DL

/-! DL18: list comprehensions of two clauses over data. -/
namespace DL
open PySem PySem.Spec PyProof.Rows L2
section
variable {M : Md} {X : Cx} {k : Nat} {N : List Str} {sc cs : Scope} {δ δ' : Sg} {m : Bool} {Φ Ψ : Da → Prop} {x y : Str} {pos p2 p3 apos : Pos} {e a b o tg it tg1 it1 : Expr} {es : List Expr} {nx bk ct : Sg → Prop} {rt : Da → Prop} {scope : Scope} {os0 os os1 : List Str}
theorem yesT {σ : L2.St} {H : Hp} {A B : Hp → Prop} (h : A H) : tYes σ H (fun b H3 => if b = true then A H3 else B H3) := by
  unfold tYes
  exact h
/-- no slot holds an own object -/
def noOwn (δ : Sg) : Bool := δ.all fun s => match s with
  | some s => !s.own
  | none => true
theorem noOwn_no {δ : Sg} (h : noOwn δ = true) {i : Nat} {s : SD} (e : δ[i]? = some (some s)) : s.own = false := by
  have := List.all_eq_true.mp h (some s) (List.mem_of_getElem? e)
  simpa using this
def WIb (X : Cx) (scope : Scope) (tg it : Expr) : TI := fun σ H R => ∀ s H0 C cl fp, WI (X.blk s H0 scope (compEnvC scope cl C X.env) fp) tg it σ H R
theorem pib_W {tg it : Expr} (s : Shared) (H0 : Hp) (C : Addr) (cl : List (Str × Addr)) (fp : List Addr) : PI (X.blk s H0 scope (compEnvC scope cl C X.env) fp) tg it (WIb X scope tg it) := ⟨fun pins s' σ H R I h => h s H0 C cl fp pins s' I⟩
/-- what is shown of [e for tg in .. for tg1 in it1] -/
def Lc2D (M : Md) (k : Nat) (N : List Str) (sc : Scope) (scope : Scope) (tg tg1 it1 e : Expr) (os0 os os1 : List Str) (δ : Sg) (ds : List Da) (Φ : Da → Prop) : Prop :=
  ∃ (δw : Sg) (P : Nat → List Da → Prop), Wp N os δ δw ∧ P 0 [] ∧
    (∀ X', Sc M X' k N (relS scope sc) scope → ∀ i d acc, ds[i]? = some d → P i acc → DG X' tg os0 d δw fun δ2 => noOwn δ2 = true ∧ ∃ δ2w, Wp N os1 δ2 δ2w ∧ ∀ X', Sc M X' k N (relS scope sc) scope → DI X' tg1 it1 δ2 fun ds1 =>
      ∃ P1 : Nat → List Da → Prop, P1 0 acc ∧ (∀ X', Sc M X' k N (relS scope sc) scope → ∀ j d1 acc1, ds1[j]? = some d1 → P1 j acc1 → acc1.length < 1000000 ∧ DG X' tg1 os1 d1 δ2w fun δ3 => ∀ X', Sc M X' k N (relS scope sc) scope → DE X' e δ3 fun y => P1 (j + 1) (acc1 ++ [y])) ∧
        ∀ acc1, P1 ds1.length acc1 → P (i + 1) acc1) ∧
    ∀ acc, P ds.length acc → Φ (.lst acc)
theorem lc2_run (S : Sc M X k N sc cs) (kind : scope.kind = .function) (hn0 : ∀ x ∈ os0, x ∈ os) (h : DI X tg it δ fun ds => Lc2D M k N sc scope tg tg1 it1 e os0 os os1 δ ds Φ) {Bs B Hs H : Hp} {σ : L2.St} (o : Ok X.K Bs B Hs H σ δ) {Q : VK}
    (q : ∀ d v Hs' H', Go Hs H Hs' H' → Φ d → Rp X.K Hs' d v → Q v H') : tLc2 (WI X tg it) (WGb X scope tg) (WTb X scope []) (WIb X scope tg1 it1) (WGb X scope tg1) (WTb X scope []) (WEb X scope e) ((ownOf N os).map (·.2)) ((ownOf N os1).map (·.2)) σ H Q := by
  have nd := S.nd
  have sz : sizeLine = 16777216 := sizeLine_eq
  refine h Bs B Hs H σ o _ fun ds J G Y Hs1 H1 g1 ⟨δw, P, hw, p0, step, fin⟩ wk hG hY D hD => ?_
  have oD : ∀ (i : Nat) (s : SD) (q : Addr), δ[i]? = some (some s) → s.own = true → σ[i]? = some (some (.ref q)) → q ≠ D := fun i s q e w h z => (o.mono g1).ownAt e w h (by rw [z]; exact hD)
  have hD0 : H D = none := g1.hh.free hD
  have hB : B D = none := o.go.hh.free hD0
  refine ⟨fun i m H2 => m = ds.length - i ∧ i ≤ ds.length ∧ ∃ Hs2 acc vs, Go Hs H Hs2 H2 ∧ Same Hs1 Hs2 ∧ Ok X.K Bs B Hs2 H2 σ δ ∧ Hs2 D = none ∧ H2 D = some (.lst vs) ∧ RpAll X.K Hs2 acc vs ∧ P i acc,
    ⟨_, rfl, Nat.zero_le _, Hs1, [], [], g1.trans (Go.own g1.sub hD), Same.refl _, (o.mono g1).mono (Go.own g1.sub hD), g1.sub.free hD, upd_same, .nil, p0⟩, ?_⟩
  rintro i m H2 ⟨rfl, hi, Hs2, acc, vs, g2, s2, o2, hDs, hDv, ra, pi⟩
  by_cases hlt : i < ds.length
  · refine .inr ⟨wk.goes i H2 hlt (hG Hs2 H2 s2 o2.sub), fun H' => ∃ Hs2 acc vs, Go Hs H Hs2 H' ∧ Same Hs1 Hs2 ∧ Ok X.K Bs B Hs2 H' σ δ ∧ Hs2 D = none ∧ H' D = some (.lst vs) ∧ RpAll X.K Hs2 acc vs ∧ P (i + 1) acc, fun H' p' => ⟨ds.length - (i + 1), by omega, rfl, hlt, p'⟩, fun x H3 hy => ?_⟩
    have hy := wk.yields i H2 x H3 hlt (hG Hs2 H2 s2 o2.sub) hy
    intro s H0 C cl fp pins s' u I r
    obtain ⟨d, hd⟩ : ∃ d, ds[i]? = some d := ⟨ds[i], by simp [hlt]⟩
    obtain ⟨Hs3, g3, rd⟩ := hY i d Hs2 H2 x H3 s2 o2.sub hd hy
    have hsl : σ.length = N.length := by
      have := I.len
      rw [wipe_length] at this
      rw [this]
      exact congrArg List.length S.n
    have nDs : ∀ {Hs' H' : Hp}, Go Hs2 H2 Hs' H' → Hs' D = none := fun g => g.no D (by rw [hDv]; exact fun z => nomatch z) hDs
    refine step (X.blk s H0 scope (compEnvC scope cl C X.env) fp) (S.blk kind) i d acc hd pi Bs B Hs3 H3 _ x ((o2.mono g3).wipe nd hw) rd _ (fun δ2 σ2 Hs4 H4 o4 g4 kp ⟨no, δ2w, hw2, hi1⟩ => ?_) pins s' u I r
    have kp' : Keep N os0 (L2.wipe σ ((ownOf N os).map (·.2))) σ2 := by have z : Keep X.N os0 _ σ2 := kp; rwa [S.n] at z
    have hsl2 : σ2.length = N.length := by rw [kp'.1, wipe_length, hsl]
    refine ⟨wipe_keep nd hsl kp' hn0, fun s H0 C cl fp pins s' I => WTs.of pts_nil (yesT ?_) pins s' I⟩
    intro s H0 C cl fp pins s' I
    refine hi1 (X.blk s H0 scope (compEnvC scope cl C X.env) fp) (S.blk kind) Bs B Hs4 H4 σ2 o4 _ (fun ds1 J1 G1 Y1 Hs5 H5 g5 ⟨P1, q0, step1, fin1⟩ wk1 hG1 hY1 => ?_) pins s' I
    have g35 := (g3.trans g4).trans g5
    have o2D : ∀ (i : Nat) (s : SD) (q : Addr), δ2[i]? = some (some s) → s.own = true → σ2[i]? = some (some (.ref q)) → q ≠ D := fun i s q e w h => by rw [noOwn_no no e] at w; cases w
    refine ⟨fun j m H6 => m = ds1.length - j ∧ j ≤ ds1.length ∧ ∃ Hs6 acc1 ws, Go Hs H Hs6 H6 ∧ Same Hs5 Hs6 ∧ Ok X.K Bs B Hs6 H6 σ δ ∧ Ok X.K Bs B Hs6 H6 σ2 δ2 ∧ Hs6 D = none ∧ H6 D = some (.lst ws) ∧ RpAll X.K Hs6 acc1 ws ∧ P1 j acc1,
      ⟨_, rfl, Nat.zero_le _, Hs5, acc, vs, g2.trans g35, Same.refl _, o2.mono g35, o4.mono g5, nDs g35, g35.hh _ _ hDv, ra.mono g35.ss, q0⟩, ?_⟩
    rintro j m H6 ⟨rfl, hj, Hs6, acc1, ws, g6, s6, o6, o26, hDs6, hDv6, ra6, pj⟩
    by_cases hlt1 : j < ds1.length
    · refine .inr ⟨wk1.goes j H6 hlt1 (hG1 Hs6 H6 s6 o26.sub), fun H' => ∃ Hs6 acc1 ws, Go Hs H Hs6 H' ∧ Same Hs5 Hs6 ∧ Ok X.K Bs B Hs6 H' σ δ ∧ Ok X.K Bs B Hs6 H' σ2 δ2 ∧ Hs6 D = none ∧ H' D = some (.lst ws) ∧ RpAll X.K Hs6 acc1 ws ∧ P1 (j + 1) acc1, fun H' p' => ⟨ds1.length - (j + 1), by omega, rfl, hlt1, p'⟩, fun x1 H7 hy1 => ?_⟩
      have hy1 := wk1.yields j H6 x1 H7 hlt1 (hG1 Hs6 H6 s6 o26.sub) hy1
      intro s H0 C cl fp pins s' u I r
      obtain ⟨d1, hd1⟩ : ∃ d1, ds1[j]? = some d1 := ⟨ds1[j], by simp [hlt1]⟩
      obtain ⟨Hs7, g7, rd1⟩ := hY1 j d1 Hs6 H6 x1 H7 s6 o26.sub hd1 hy1
      have nD6 : ∀ {Hs' H' : Hp}, Go Hs6 H6 Hs' H' → Hs' D = none := fun g => g.no D (by rw [hDv6]; exact fun z => nomatch z) hDs6
      obtain ⟨hb, stp⟩ := step1 (X.blk s H0 scope (compEnvC scope cl C X.env) fp) (S.blk kind) j d1 acc1 hd1 pj
      refine stp Bs B Hs7 H7 _ x1 ((o26.mono g7).wipe nd hw2) rd1 _ (fun δ3 σ3 Hs8 H8 o8 g8 kp3 he => ?_) pins s' u I r
      have kp3' : Keep N os1 (L2.wipe σ2 ((ownOf N os1).map (·.2))) σ3 := by have z : Keep X.N os1 _ σ3 := kp3; rwa [S.n] at z
      refine ⟨wipe_keep nd hsl2 kp3' fun _ z => z, fun s H0 C cl fp pins s' I => WTs.of pts_nil (yesT ?_) pins s' I⟩
      intro s H0 C cl fp pins s' I
      refine he (X.blk s H0 scope (compEnvC scope cl C X.env) fp) (S.blk kind) Bs B Hs8 H8 σ3 o8 _ (fun y v Hs9 H9 g9 p9 r9 => ?_) pins s' I
      have g79 := (g7.trans g8).trans g9
      have hl := ra6.len
      exact ⟨ws, g79.hh _ _ hDv6, by omega, Hs9, acc1 ++ [y], ws ++ [v], (g6.trans g79).mut hD0 (nD6 g79), s6.trans g79.ss, (o6.mono g79).other (nD6 g79) hB oD, (o26.mono g79).other (nD6 g79) hB o2D, nD6 g79, upd_same, (ra6.mono g79.ss).app (.cons r9 .nil), p9⟩
    · obtain rfl : j = ds1.length := by omega
      exact .inl ⟨wk1.stops H6 (hG1 Hs6 H6 s6 o26.sub), Hs6, acc1, ws, g6, s2.trans (g35.ss.trans s6), o6, hDs6, hDv6, ra6, fin1 acc1 pj⟩
  · obtain rfl : i = ds.length := by omega
    exact .inl ⟨wk.stops H2 (hG Hs2 H2 s2 o2.sub), q _ _ _ _ (g2.freeze hD0 hDs hDv) (fin acc pi) (.lst upd_same (ra.mono (same_upd hDs)))⟩
theorem de_lc2 (S : Sc M X k N sc cs) (h : DI X tg it δ fun ds => Lc2D M k N sc scope tg tg1 it1 e os0 os os1 δ ds Φ) (hk : blkB N sc scope os = true) (hn0 : ∀ x ∈ os0, x ∈ os) (hn1 : ∀ x ∈ os1, x ∈ os)
    (hs : ∀ x, foldedSetIterable it X.env x = pure x := by intro _; rfl) (hs1 : ∀ env x, foldedSetIterable it1 env x = pure x := by intro _ _; rfl) : DM X m (.ListComp e [⟨tg, it, [], 0⟩, ⟨tg1, it1, [], 0⟩] scope pos) δ Φ := DM.of <| .mk fun Bs B Hs H σ o Q q => by
  have ok : BlkOk X.N X.env.scope scope (ownOf N os) := by rw [S.n, S.hsc]; exact blkOk_by hk
  have hv : ∀ i ∈ (ownOf N os1).map (·.2), i ∈ (ownOf N os).map (·.2) := fun i hi => by
    unfold ownOf at hi ⊢
    rw [List.map_map] at hi ⊢
    obtain ⟨z, hz, rfl⟩ := List.mem_map.mp hi
    exact List.mem_map.mpr ⟨z, hn1 z hz, rfl⟩
  exact WE.of (pe_lc2 S.calm (by rw [S.n]; exact S.nd) pi_W ok hv pgb_W ptb_W pib_W pgb_W ptb_W peb_W hs hs1) (lc2_run S ok.kind hn0 h o q)
/-- [f(a, b) for a in l for b in m(a)] -/
theorem lc2_map {α β : Type} {l : List α} {g : α → Da} {mm : α → List β} {g1 : α → β → Da} {f : α → β → Da} {δw : Sg} (hw : Wp N os δ δw) (hz : (l.flatMap mm).length ≤ 1000000)
    (h : ∀ X', Sc M X' k N (relS scope sc) scope → ∀ a ∈ l, DG X' tg os0 (g a) δw fun δ2 => noOwn δ2 = true ∧ ∃ δ2w, Wp N os1 δ2 δ2w ∧ ∀ X', Sc M X' k N (relS scope sc) scope → DI X' tg1 it1 δ2 fun ds1 => ds1 = (mm a).map (g1 a) ∧
      ∀ X', Sc M X' k N (relS scope sc) scope → ∀ b ∈ mm a, DG X' tg1 os1 (g1 a b) δ2w fun δ3 => ∀ X', Sc M X' k N (relS scope sc) scope → DE X' e δ3 fun y => y = f a b)
    (fin : Φ (.lst (l.flatMap fun a => (mm a).map (f a)))) : Lc2D M k N sc scope tg tg1 it1 e os0 os os1 δ (l.map g) Φ := by
  have hlen : ∀ l : List α, (l.flatMap fun a => (mm a).map (f a)).length = (l.flatMap mm).length := fun l => by
    rw [List.length_flatMap, List.length_flatMap]
    simp
  refine ⟨δw, fun i acc => acc = (l.take i).flatMap fun a => (mm a).map (f a), hw, rfl, fun X' S' i d acc hi hp => ?_, fun acc hp => ?_⟩
  · rw [List.getElem?_map] at hi
    obtain ⟨a, ha, rfl⟩ := Option.map_eq_some_iff.mp hi
    have hil := (List.getElem?_eq_some_iff.mp ha).1
    have hd := h X' S' a (List.mem_of_getElem? ha)
    have et : l.take (i + 1) = l.take i ++ [a] := by rw [List.take_add_one, ha]; rfl
    have hsplit : l = l.take i ++ (a :: l.drop (i + 1)) := by
      rw [← (List.getElem?_eq_some_iff.mp ha).2, ← List.drop_eq_getElem_cons hil, List.take_append_drop]
    have hb0 : ((l.take i).flatMap mm).length + (mm a).length ≤ 1000000 := by
      have e2 := congrArg (fun z => (z.flatMap mm).length) hsplit
      simp only [List.flatMap_append, List.flatMap_cons, List.length_append] at e2
      omega
    refine .mk fun Bs B Hs H σ v o r Q q => hd Bs B Hs H σ v o r Q fun δ' σ' Hs' H' o' g' kp ⟨h1, δ2w, h2, h3⟩ => q δ' σ' Hs' H' o' g' kp ⟨h1, δ2w, h2, fun X2 S2 => ?_⟩
    refine .mk fun Bs B Hs H σ o R q => (h3 X2 S2) Bs B Hs H σ o R fun ds1 J G Y Hs' H' g' ⟨e1, stp⟩ wk hG hY => q ds1 J G Y Hs' H' g' ?_ wk hG hY
    subst e1
    refine ⟨fun j acc1 => acc1 = acc ++ ((mm a).take j).map (f a), by simp, fun X3 S3 j d1 acc1 hj hp1 => ?_, fun acc1 hp1 => ?_⟩
    · rw [List.getElem?_map] at hj
      obtain ⟨b, hb, rfl⟩ := Option.map_eq_some_iff.mp hj
      have hjl := (List.getElem?_eq_some_iff.mp hb).1
      refine ⟨?_, ?_⟩
      · rw [hp1, hp, List.length_append, hlen, List.length_map, List.length_take]
        omega
      · have hd2 := stp X3 S3 b (List.mem_of_getElem? hb)
        refine .mk fun Bs B Hs H σ v o r Q q => hd2 Bs B Hs H σ v o r Q fun δ' σ' Hs' H' o' g' kp h5 => q δ' σ' Hs' H' o' g' kp fun X4 S4 => (h5 X4 S4).imp fun y ey => ?_
        dsimp only
        rw [ey, hp1, List.take_add_one, hb, Option.toList_some, List.map_append, List.append_assoc]
        rfl
    · have e3 : ((mm a).map (g1 a)).length = (mm a).length := by simp
      rw [e3, List.take_length] at hp1
      dsimp only
      rw [hp1, hp, et, List.flatMap_append]
      simp
  · rw [List.length_map, List.take_length] at hp
    rw [hp]
    exact fin
end
end DL

/-! DL19: dict comprehensions of two clauses (no tests), at the level of the machine. -/
namespace DL
open PySem PySem.Spec PyProof.Rows L2
abbrev dcE (kx vx t0 i0 t1 i1 : Expr) (scope : Scope) (pos : Pos) : Expr := .DictComp kx vx [⟨t0, i0, [], 0⟩, ⟨t1, i1, [], 0⟩] scope pos
theorem dcT0 (kx vx t0 i0 t1 i1 : Expr) (scope : Scope) (pos : Pos) (it acc : Value) (env : Env) : compTurn (dcE kx vx t0 i0 t1 i1 scope pos) 0 it acc env = (do
    standAt i0.pos
    match ← pyNext it with
    | none => pure (.done .next)
    | some a => do
      letOwnedTupleGo t0 it a
      assign t0 env a
      let src ← eval i1 env
      standAt i1.pos
      let src ← foldedSetIterable i1 env src
      let _ ← runOwn (.compStart (dcE kx vx t0 i0 t1 i1 scope pos) 1 (← holding [src] (pyIter src)) acc env) env
      again (.compLoop (dcE kx vx t0 i0 t1 i1 scope pos) 0 it acc env)) := by rfl
theorem dcT1 (kx vx t0 i0 t1 i1 : Expr) (scope : Scope) (pos : Pos) (it : Value) (D : Addr) (env : Env) : compTurn (dcE kx vx t0 i0 t1 i1 scope pos) 1 it (.ref D) env = (do
    standAt i1.pos
    match ← pyNext it with
    | none => pure (.done .next)
    | some a => do
      letOwnedTupleGo t1 it a
      assign t1 env a
      (do
        let kw ← eval kx env
        let vw ← holding [kw] (eval vx env)
        standAt { kx.pos with endLine := vx.pos.endLine, endCol := vx.pos.endCol }
        holding [kw, vw] (dictSet D kw vw))
      again (.compLoop (dcE kx vx t0 i0 t1 i1 scope pos) 1 it (.ref D) env)) := by rfl
section
variable {prog : Program} {w : World} {A : Around} {R : Result → Shared → Prop} {s : Shared} {kx vx t0 i0 t1 i1 : Expr} {scope : Scope} {pos : Pos} {it acc : Value} {D : Addr} {env : Env}
abbrev errR (prog : Program) (w : World) (A : Around) (env : Env) (R : Result → Shared → Prop) : Value → Shared → Prop := notedBy (model prog w) A env fun e s' => R (.error e) s'
abbrev back0 (J : Nat → Shared → Prop) (n : Nat) (s : Shared) : Prop := ∃ j, j < n ∧ J j s
theorem dcL0 (hs1 : ∀ x, foldedSetIterable i1 env x = pure x) (J : Nat → Shared → Prop)
    (go : ∀ n s, J n s → wpAny (model prog w) A (pyNext it) (fun r s1 => match r with
      | none => R (.ok .next) s1
      | some a => wpAny (model prog w) A (letOwnedTupleGo t0 it a) (fun _ s2 => wpAny (model prog w) A (assign t0 env a) (fun _ s3 => wpAny (model prog w) A (eval i1 env) (fun src s4 => wpAny (model prog w) A (pyIter src) (fun jt s5 =>
          codeAny (model prog w) A (.compStart (dcE kx vx t0 i0 t1 i1 scope pos) 1 jt acc env) (fun r s' => match r with
            | .ok _ => back0 J n s'
            | .error _ => False) s5) (errR prog w A env R) s4) (errR prog w A env R) s3) (errR prog w A env R) s2) (errR prog w A env R) s1) (errR prog w A env R) s)
    (n : Nat) (h : J n s) : codeAny (model prog w) A (.compLoop (dcE kx vx t0 i0 t1 i1 scope pos) 0 it acc env) R s := by
  refine codeAny_loop rfl J (fun n s hJ => ?_) n h
  show wpAny _ A ((compTurn (dcE kx vx t0 i0 t1 i1 scope pos) 0 it acc env).onRaise (fun z => do noteFrame z env; theTreesLotGoes z)) _ _ s
  refine wpAny_noted ?_
  rw [dcT0]
  refine wpAny_bind (wpAny_standAt (wpAny_bind (wpAny_mono (go n s hJ) (fun r s1 q1 => ?_) fun _ _ z => z)))
  cases r with
  | none => exact wpAny_pure q1
  | some a =>
    refine wpAny_bind (wpAny_mono q1 (fun _ s2 q2 => wpAny_bind (wpAny_mono q2 (fun _ s3 q3 => wpAny_bind (wpAny_mono q3 (fun src s4 q4 => ?_) fun _ _ z => z)) fun _ _ z => z)) fun _ _ z => z)
    refine wpAny_bind (wpAny_standAt (wpAny_bind (wpAny_of_eq (hs1 src) (wpAny_bind (wpAny_holding (wpAny_mono q4 (fun jt s5 q5 => wpAny_bind (wpAny_runOwn ?_)) fun _ _ z => z))))))
    rw [Around.mark_none]
    refine codeAny_mono q5 fun r s' hr => ?_
    cases r with
    | error e => exact hr.elim
    | ok f =>
      first
        | exact wpAny_bind (wpAny_pure (wpAny_pure ⟨rfl, hr⟩))
        | exact wpAny_pure ⟨rfl, hr⟩
theorem dcL1 (J : Nat → Shared → Prop)
    (go : ∀ n s, J n s → wpAny (model prog w) A (pyNext it) (fun r s1 => match r with
      | none => R (.ok .next) s1
      | some a => wpAny (model prog w) A (letOwnedTupleGo t1 it a) (fun _ s2 => wpAny (model prog w) A (assign t1 env a) (fun _ s3 => wpAny (model prog w) A (eval kx env) (fun kw s4 => wpAny (model prog w) A (eval vx env) (fun vw s5 =>
          wpAny (model prog w) A (dictSet D kw vw) (fun _ s6 => back0 J n s6) (errR prog w A env R) s5) (errR prog w A env R) s4) (errR prog w A env R) s3) (errR prog w A env R) s2) (errR prog w A env R) s1) (errR prog w A env R) s)
    (n : Nat) (h : J n s) : codeAny (model prog w) A (.compLoop (dcE kx vx t0 i0 t1 i1 scope pos) 1 it (.ref D) env) R s := by
  refine codeAny_loop rfl J (fun n s hJ => ?_) n h
  show wpAny _ A ((compTurn (dcE kx vx t0 i0 t1 i1 scope pos) 1 it (.ref D) env).onRaise (fun z => do noteFrame z env; theTreesLotGoes z)) _ _ s
  refine wpAny_noted ?_
  rw [dcT1]
  refine wpAny_bind (wpAny_standAt (wpAny_bind (wpAny_mono (go n s hJ) (fun r s1 q1 => ?_) fun _ _ z => z)))
  cases r with
  | none => exact wpAny_pure q1
  | some a =>
    refine wpAny_bind (wpAny_mono q1 (fun _ s2 q2 => wpAny_bind (wpAny_mono q2 (fun _ s3 q3 => ?_) fun _ _ z => z)) fun _ _ z => z)
    exact wpAny_bind (wpAny_bind (wpAny_mono q3 (fun kw s4 q4 => wpAny_bind (wpAny_holding (wpAny_mono q4 (fun vw s5 q5 => wpAny_bind (wpAny_standAt (wpAny_holding (wpAny_mono q5 (fun _ s6 q6 => wpAny_pure ⟨rfl, q6⟩) fun _ _ z => z)))) fun _ _ z => z))) fun _ _ z => z))
theorem dcS1 (h0 : codeAny (model prog w) A (.compLoop (dcE kx vx t0 i0 t1 i1 scope pos) 1 it acc env) R s)
    (h : wpAny (model prog w) A (pyIter it) (fun jt s' => codeAny (model prog w) A (.compLoop (dcE kx vx t0 i0 t1 i1 scope pos) 1 jt acc env) R s') (errR prog w A env R) s) :
    codeAny (model prog w) A (.compStart (dcE kx vx t0 i0 t1 i1 scope pos) 1 it acc env) R s := by
  refine codeAny_of_tree ?_
  show wpAny _ _ ((compStart (dcE kx vx t0 i0 t1 i1 scope pos) 1 it acc env).onRaise (fun z => do noteFrame z env; standAt theWindowsPlace)) _ _ s
  refine wpAny_notedAt ?_
  unfold compStart
  show wpAny _ _ (ask >>= _) _ _ s
  refine wpAny_bind (wpAny_askSetting (wpAny_ite ?_))
  split
  · first
      | exact wpAny_bind (wpAny_pure (wpAny_pure ⟨rfl, h0⟩))
      | exact wpAny_pure ⟨rfl, h0⟩
  · first
      | exact wpAny_bind (wpAny_rule (wpAny_bind (wpAny_standAt (wpAny_bind (wpAny_mono h (fun jt s' q => wpAny_pure ⟨rfl, q⟩) fun _ _ z => z)))))
      | (refine wpAny_bind (wpAny_rule ?_); show wpAny _ _ (standAt i1.pos >>= _) _ _ s; exact wpAny_bind (wpAny_standAt (wpAny_bind (wpAny_mono h (fun jt s' q => wpAny_pure ⟨rfl, q⟩) fun _ _ z => z))))
end
end DL

/-! DL20: dict comprehensions of two clauses as readings; dict comprehensions over data. -/
namespace DL
open PySem PySem.Spec PyProof.Rows L2
section
variable {X : Cx}
/-- a store into the new dict at D turns it into ho -/
def Put (X : Cx) (D : Addr) (y z : V) (H : Hp) (ho : HO) : Prop := ∀ (pins : List (Addr × Obj)) (σ : L2.St) (s : Shared) (E : Value → Shared → Prop) (u r : Value) (R : Unit → Shared → Prop), Inv X pins σ H s → RelV y u → RelV z r → (∀ s', Inv X pins σ (upd H D ho) s' → R () s') →
  wpAny (model X.prog X.w) X.A (dictSet D u r) R E s
/-- .. in every block around the same -/
def PutA (X : Cx) (D : Addr) (y z : V) (H : Hp) (ho : HO) : Prop := ∀ X' : Cx, X'.A = X.A → Put X' D y z H ho
theorem putA_k {D : Addr} {kvs : List (Key × V)} {k : Key} {z : V} {H : Hp} (hD : H D = some (.dK kvs)) (hz : kvs.length < sizeLine) : PutA X D (kV k) z H (.dK (putK kvs k z)) :=
  fun X' _ pins σ s E u r R I ry rz q => d_dictSet I hD hz ry rz q
theorem putA_t {D b : Addr} {kvs : List (List Key × V)} {k : List Key} {z : V} {H : Hp} (hu : X.A.units + 1 < cLine) (hD : H D = some (.dT kvs)) (hb : H b = some (.tup (k.map kV))) (hz : kvs.length < sizeLine) : PutA X D (.ref b) z H (.dT (putK kvs k z)) :=
  fun X' hA pins σ s E u r R I ry rz q => by
    cases ry
    exact put_tup (by rw [hA]; exact hu) I hD hb hz rz q
/-- what is asked of {k: v for tg in it for tg1 in it1}; ho0 the empty dict -/
def tDc2 (X : Cx) (ho0 : HO) (wi : TI) (g : TG) (wi1 : TI) (g1 : TG) (tk tv : TE) (vs vs1 : List Nat) : TE := fun σ H Q => wi σ H fun J H1 => ∀ D, H1 D = none → ∃ W : Nat → Nat → Hp → Prop, (∃ m, W 0 m (upd H1 D ho0)) ∧
  ∀ i m H, W i m H → (J.stop i H ∧ Q (.ref D) H) ∨ (J.go i H ∧ ∃ Z : Hp → Prop, (∀ H', Z H' → ∃ j, j < m ∧ W (i + 1) j H') ∧ ∀ x H', J.yld i H x H' → g x (L2.wipe σ vs) H' fun σ2 H2 => L2.wipe σ2 vs = L2.wipe σ vs ∧
    wi1 σ2 H2 fun J1 H4 => ∃ W1 : Nat → Nat → Hp → Prop, (∃ m, W1 0 m H4) ∧ ∀ j k H, W1 j k H →
      (J1.stop j H ∧ Z H) ∨ (J1.go j H ∧ ∃ Z1 : Hp → Prop, (∀ H', Z1 H' → ∃ l, l < k ∧ W1 (j + 1) l H') ∧ ∀ x H', J1.yld j H x H' → g1 x (L2.wipe σ2 vs1) H' fun σ3 H5 => L2.wipe σ3 vs1 = L2.wipe σ2 vs1 ∧
        tk σ3 H5 fun y H6 => tv σ3 H6 fun z H7 => ∃ ho, PutA X D y z H7 ho ∧ Z1 (upd H7 D ho)))
theorem dc2_core {ho0 : HO} {pins : List (Addr × Obj)} {s : Shared} {σ : L2.St} {H : Hp} {Q : VK} {kx vx t0 i0 t1 i1 : Expr} {scope : Scope} {own : List (Str × Nat)} {vs1 : List Nat} {pos pos' : Pos} {wi wi1 : TI} {g g1 : TG} {tk tv : TE} {use : Option (Value → Sem Unit)} {Qf : Value → Shared → Prop}
    (hempty : ∀ (H : Hp) (h : Heap), sysModules < h.objs.size → ObjOk X.prog X.w H (h.push { cls := .type "dict", data := .dict #[] }) h.objs.size ho0)
    (hc : X.calm = true) (hN : X.N.Nodup) (I : Inv X pins σ H s) (hi : PI X t0 i0 wi) (ok : BlkOk X.N X.env.scope scope own) (hv : ∀ i ∈ vs1, i ∈ own.map (·.2))
    (hg : ∀ (s : Shared) (H : Hp) (C : Addr) (cl : List (Str × Addr)) (fp : List Addr), PG (X.blk s H scope (compEnvC scope cl C X.env) fp) t0 g)
    (hi1 : ∀ (s : Shared) (H : Hp) (C : Addr) (cl : List (Str × Addr)) (fp : List Addr), PI (X.blk s H scope (compEnvC scope cl C X.env) fp) t1 i1 wi1)
    (hg1 : ∀ (s : Shared) (H : Hp) (C : Addr) (cl : List (Str × Addr)) (fp : List Addr), PG (X.blk s H scope (compEnvC scope cl C X.env) fp) t1 g1)
    (hk : ∀ (s : Shared) (H : Hp) (C : Addr) (cl : List (Str × Addr)) (fp : List Addr), PE (X.blk s H scope (compEnvC scope cl C X.env) fp) kx tk)
    (he : ∀ (s : Shared) (H : Hp) (C : Addr) (cl : List (Str × Addr)) (fp : List Addr), PE (X.blk s H scope (compEnvC scope cl C X.env) fp) vx tv)
    (hs : ∀ x, foldedSetIterable i0 X.env x = pure x) (hs1 : ∀ env x, foldedSetIterable i1 env x = pure x) (h : tDc2 X ho0 wi g wi1 g1 tk tv (own.map (·.2)) vs1 σ H Q)
    (fin : ∀ D C s' m H', Inv X pins σ H' s' → Q (.ref D) H' → s'.heap.Ns C m → FpOk X pins H' C → compPost (model X.prog X.w) X.A X.xe use Qf (.ref D) C (.ok .next) s') :
    wpAny (model X.prog X.w) X.A (comprehension (dcE kx vx t0 i0 t1 i1 scope pos) scope X.env pos' newDict false (eval i0 X.env) use) Qf X.xe s := by
  have free : ∀ y ∈ scope.names, y.2 = .free → ∃ c, X.env.cells.lookup y.1 = some c := fun y hy e => I.ok.has _ (ok.free y hy e)
  refine wpAny_comprehension_free (use := use) rfl hs (closure_ok free) ok.kind (fun y hy e => (ok.uniq y hy).trans (congrArg some e)) (thn (hi.run pins s σ H _ I h) fun xv s1 hx => thn hx fun itv s2 h2 => ?_)
  obtain ⟨itA, fp, tn, J, H2, rfl, I2, T, st2, f2, q⟩ := h2
  refine wpAny_newObj_type (newEnv_comp ?_)
  obtain ⟨D, hD⟩ : ∃ D, D = s2.heap.objs.size := ⟨_, rfl⟩
  rw [← hD]
  have hDn : H2 D = none := I2.hok.fresh (hD ▸ Nat.le_refl _)
  obtain ⟨W, ⟨m0, w0⟩, turn⟩ := q D hDn
  obtain ⟨s3, hs3⟩ : ∃ s3 : Shared, s3 = { s2 with heap := s2.heap.push { cls := .type "dict", data := .dict #[] } } := ⟨_, rfl⟩
  have grow : ∀ b o, s2.heap.get? b = some o → s3.heap.get? b = some o := fun b o e => by rw [hs3]; exact Heap.get?_push_of_some _ e
  have I3 : Inv X pins σ (upd H2 D ho0) s3 := by
    have new := hempty (upd H2 D ho0) s2.heap I2.big
    rw [← hD] at new
    rw [hs3]
    exact I2.laid (t' := s2.toks) (fun b o e => Heap.get?_push_of_some _ e) (hD ▸ Nat.le_refl _) new
  have hsz : s3.heap.objs.size = s2.heap.objs.size + 1 := by rw [hs3]; exact Heap.size_push ..
  have f3 : ∀ b ∈ fp, FpOk X pins (upd H2 D ho0) b ∧ b < s3.heap.objs.size := fun b hb => by
    obtain ⟨o, e, _⟩ := T.obj _ _ st2 b hb
    have hlt := Heap.lt_size e
    refine ⟨⟨?_, (f2 b hb).2⟩, by rw [hsz]; exact Nat.lt_succ_of_lt hlt⟩
    rw [upd_ne (by rw [hD]; exact Nat.ne_of_lt hlt)]
    exact (f2 b hb).1
  have st3 : tn 0 s3.heap := T.keep _ _ _ st2 fun b _ o e => grow b o e
  have I4 := block_start I3 ok hN f3
  obtain ⟨cl, hcl⟩ : ∃ cl, cl = cellsFrom (s3.heap.objs.size + 1) scope.names (cloFrom X.env.cells scope.names []) := ⟨_, rfl⟩
  rw [← hcl] at I4
  obtain ⟨s4, hs4⟩ : ∃ s4 : Shared, s4 = { s3 with heap := pushCells (s3.heap.push { cls := .type "dict", data := .dict #[] }) scope.names } := ⟨_, rfl⟩
  have goal : codeAny (model X.prog X.w) X.A (.compStart (dcE kx vx t0 i0 t1 i1 scope pos) 0 (.ref itA) (.ref D) (compEnvC scope cl s3.heap.objs.size X.env)) (compPost (model X.prog X.w) X.A X.xe use Qf (.ref D) s3.heap.objs.size) s4 := by
    rw [← hs4] at I4
    have st4 : tn 0 s4.heap := T.keep _ _ _ st3 fun b _ o e => by rw [hs4]; exact pushCells_keeps _ _ _ _ (Heap.get?_push_of_some _ e)
    have pg := hg s3 (upd H2 D ho0) s3.heap.objs.size cl fp
    have qi := hi1 s3 (upd H2 D ho0) s3.heap.objs.size cl fp
    have qg := hg1 s3 (upd H2 D ho0) s3.heap.objs.size cl fp
    have pk := hk s3 (upd H2 D ho0) s3.heap.objs.size cl fp
    have pv := he s3 (upd H2 D ho0) s3.heap.objs.size cl fp
    obtain ⟨ce, hce⟩ : ∃ ce, ce = compEnvC scope cl s3.heap.objs.size X.env := ⟨_, rfl⟩
    rw [← hce] at I4 pg qi qg pk pv ⊢
    have cL : ce.locals = s3.heap.objs.size := by rw [hce]; rfl
    have n3 : ∀ b ∈ fp, (upd H2 D ho0) b = none := fun b hb => (f3 b hb).1.1
    obtain ⟨H3, hH3⟩ : ∃ H3, H3 = upd H2 D ho0 := ⟨_, rfl⟩
    rw [← hH3] at I3 I4 pg qi qg pk pv w0 n3 f3
    have stat : ∀ {σ' : L2.St} {H' : Hp} {s' : Shared}, Inv (X.blk s3 H3 scope ce fp) [] σ' H' s' → (∀ b ∈ fp, H' b = none) → ∀ b ∈ fp, FpOk (X.blk s3 H3 scope ce fp) [] H' b := fun {σ' H' s'} J' hn b hb =>
      ⟨hn b hb, (J'.ok.exf b hb).1, J'.ok.exfs b hb, .inl hb, fun x c e => (J'.ok.exf b hb).2 x c e, fun p hp => by
        have hp : p ∈ ([] : List (Addr × Obj)) ++ [] := hp
        cases hp⟩
    let G : Nat → Shared → Prop := fun n s' => ∃ i H', Inv (X.blk s3 H3 scope ce fp) [] (L2.wipe σ (own.map (·.2))) H' s' ∧ tn i s'.heap ∧ (∀ b ∈ fp, H' b = none) ∧ W i n H'
    have loop : codeAny (model X.prog X.w) X.A (.compLoop (dcE kx vx t0 i0 t1 i1 scope pos) 0 (.ref itA) (.ref D) ce) (compPost (model X.prog X.w) X.A X.xe use Qf (.ref D) s3.heap.objs.size) s4 := by
      refine dcL0 (hs1 ce) G ?_ m0 ⟨0, H3, I4, st4, n3, w0⟩
      rintro n s5 ⟨i, H5, I5, st5, n5, w5⟩
      rcases turn i n H5 w5 with ⟨stop, qq⟩ | ⟨go, Z, hZ, step⟩
      · refine thnF (T.done (X.blk s3 H3 scope ce fp) rfl rfl rfl hc i [] s5 _ H5 (fun _ _ => False) I5 (stat I5 n5) st5 stop) fun r s6 ⟨hr, I6⟩ => ?_
        subst hr
        have fpk : ∀ b ∈ fp, _ := fun b hb => (f3 b hb).1.2
        have I7 : Inv X pins σ H5 s6 := I3.call' (ch := fp) I6.os I6.base I6.hok I6.bare fun b hb => ⟨(fpk b hb).2.2.1, (fpk b hb).1, (fpk b hb).2.2.2.1, (fpk b hb).2.2.2.2⟩
        have nC : H5 s3.heap.objs.size = none := by rw [← cL]; exact I6.free
        obtain ⟨m, hn, _⟩ := I6.loc
        have hn : s6.heap.Ns s3.heap.objs.size m := by rw [← cL]; exact hn
        exact fin D s3.heap.objs.size s6 m H5 I7 qq hn (I3.fpOk (Nat.le_refl _) nC)
      · refine thnF (T.item (X.blk s3 H3 scope ce fp) rfl rfl rfl hc i [] s5 _ H5 (fun _ _ => False) I5 (stat I5 n5) st5 go) fun r s6 ⟨u, hr, h6⟩ => ?_
        subst hr
        refine thnF h6 fun _ s7 ⟨x, H7, I7, r7, y7, st7, n7⟩ => ?_
        refine thnF (pg.run _ s7 _ H7 x u _ (I7.pinned (stat I7 n7) (T.obj _ _ st7)) r7 (step x H7 y7)) fun _ s8 ⟨σ8, H8, I8, hw8, q8⟩ => ?_
        -- back to the outer turn
        have ret : ∀ {σ9 : L2.St} {s' : Shared} {H' : Hp}, Inv (X.blk s3 H3 scope ce fp) ([] ++ pinsAt fp s7.heap) σ9 H' s' → (L2.wipe σ (own.map (·.2))).length = σ9.length → (∀ (j : Nat) v, (L2.wipe σ (own.map (·.2)))[j]? = some (some v) → σ9[j]? = some (some v)) → Z H' → back0 G n s' := fun {σ9 s' H'} J' hl hkp nx => by
          obtain ⟨j, hj, w'⟩ := hZ H' nx
          have still : ∀ b ∈ fp, ∀ o, s7.heap.get? b = some o → s'.heap.get? b = some o ∧ H' b = none := fun b hb o e => by
            have z := J'.pin (b, o) (List.mem_append_right _ (List.mem_append_right _ (mem_pinsAt hb e)))
            exact ⟨z.1, z.2.1⟩
          refine ⟨j, hj, i + 1, H', (J'.unpinned (pins := [])).weak hl hkp, T.keep _ _ _ st7 fun b hb o e => (still b hb o e).1, fun b hb => ?_, w'⟩
          obtain ⟨o, e, _⟩ := T.obj _ _ st7 b hb
          exact (still b hb o e).2
        have len8 : (L2.wipe σ (own.map (·.2))).length = σ8.length := by rw [← hw8, wipe_length]
        have kp8 : ∀ (j : Nat) v, (L2.wipe σ (own.map (·.2)))[j]? = some (some v) → (L2.wipe σ8 vs1)[j]? = some (some v) := fun j v e => by
          rw [← hw8] at e
          obtain ⟨a1, a2⟩ := wipe_some e
          rw [wipe_out fun z => a2 (hv j z)]
          exact a1
        refine thnF (qi.run _ s8 σ8 H8 _ I8 q8) fun xv s9 hx => thnF hx fun jtv s10 h10 => ?_
        obtain ⟨jtA, gp, un, J1, H10, rfl, I10, U, su10, f10, W1, ⟨m1, w1⟩, turn1⟩ := h10
        have stat1 : ∀ {H' : Hp}, (∀ b ∈ gp, H' b = none) → ∀ b ∈ gp, FpOk (X.blk s3 H3 scope ce fp) ([] ++ pinsAt fp s7.heap) H' b := fun hn b hb => ⟨hn b hb, (f10 b hb).2⟩
        let G1 : Nat → Shared → Prop := fun n s' => ∃ j H', Inv (X.blk s3 H3 scope ce fp) ([] ++ pinsAt fp s7.heap) (L2.wipe σ8 vs1) H' s' ∧ un j s'.heap ∧ (∀ b ∈ gp, H' b = none) ∧ W1 j n H'
        have inner : codeAny (model X.prog X.w) X.A (.compLoop (dcE kx vx t0 i0 t1 i1 scope pos) 1 (.ref jtA) (.ref D) ce) (fun r s' => match r with
            | .ok _ => back0 G n s'
            | .error _ => False) s10 := by
          refine dcL1 G1 ?_ m1 ⟨0, H10, I10.weak (wipe_length _ _) (fun j v e => (wipe_some e).1), su10, fun b hb => (f10 b hb).1, w1⟩
          rintro k s11 ⟨j, H11, I11, su11, n11, w11⟩
          rcases turn1 j k H11 w11 with ⟨stop1, nx⟩ | ⟨go1, Z1, hZ1, step1⟩
          · refine thnF (U.done (X.blk s3 H3 scope ce fp) rfl rfl rfl hc j _ s11 _ H11 (fun _ _ => False) I11 (stat1 n11) su11 stop1) fun r s12 ⟨hr, I12⟩ => ?_
            subst hr
            exact ret I12 (len8.trans (wipe_length σ8 vs1).symm) kp8 nx
          · refine thnF (U.item (X.blk s3 H3 scope ce fp) rfl rfl rfl hc j _ s11 _ H11 (fun _ _ => False) I11 (stat1 n11) su11 go1) fun r s12 ⟨u1, hr, h12⟩ => ?_
            subst hr
            refine thnF h12 fun _ s13 ⟨x1, H13, I13, r13, y13, su13, n13⟩ => ?_
            refine thnF (qg.run _ s13 _ H13 x1 u1 _ (I13.pinned (stat1 n13) (U.obj _ _ su13)) r13 (step1 x1 H13 y13)) fun _ s14 ⟨σ14, H14, I14, hw14, q14⟩ => ?_
            have ret1 : ∀ {s' : Shared} {H' : Hp}, Inv (X.blk s3 H3 scope ce fp) (([] ++ pinsAt fp s7.heap) ++ pinsAt gp s13.heap) σ14 H' s' → Z1 H' → back0 G1 k s' := fun {s' H'} J' nx => by
              obtain ⟨l, hl, w'⟩ := hZ1 H' nx
              have still : ∀ b ∈ gp, ∀ o, s13.heap.get? b = some o → s'.heap.get? b = some o ∧ H' b = none := fun b hb o e => by
                have z := J'.pin (b, o) (List.mem_append_right _ (List.mem_append_right _ (mem_pinsAt hb e)))
                exact ⟨z.1, z.2.1⟩
              refine ⟨l, hl, j + 1, H', J'.unpinned.weak (by rw [← hw14, wipe_length]) (fun i v e => by rw [← hw14] at e; exact (wipe_some e).1), U.keep _ _ _ su13 fun b hb o e => (still b hb o e).1, fun b hb => ?_, w'⟩
              obtain ⟨o, e, _⟩ := U.obj _ _ su13 b hb
              exact (still b hb o e).2
            refine thnF (pk.run _ s14 σ14 H14 _ I14 q14) fun yv s15 ⟨y, H15, I15, r15, q15⟩ => thnF (pv.run _ s15 σ14 H15 _ I15 q15) fun zv s16 ⟨z, H16, I16, r16, ho, hput, nx⟩ => ?_
            have r15' : RelV y yv := r15
            exact hput (X.blk s3 H3 scope ce fp) rfl _ _ _ _ _ _ _ I16 r15' r16 fun s17 I17 => ret1 I17 nx
        exact dcS1 inner (U.self X.A 0 _ _ _ su10 inner)
    exact codeAny_compStart_dict loop (T.self X.A 0 _ _ _ st4 loop)
  rw [hs4, hs3] at goal
  rw [hcl, hs3] at goal
  exact goal
theorem pe_dc2 {ho0 : HO} {kx vx t0 i0 t1 i1 : Expr} {scope : Scope} {own : List (Str × Nat)} {vs1 : List Nat} {pos : Pos} {wi wi1 : TI} {g g1 : TG} {tk tv : TE}
    (hempty : ∀ (H : Hp) (h : Heap), sysModules < h.objs.size → ObjOk X.prog X.w H (h.push { cls := .type "dict", data := .dict #[] }) h.objs.size ho0)
    (hc : X.calm = true) (hN : X.N.Nodup) (hi : PI X t0 i0 wi) (ok : BlkOk X.N X.env.scope scope own) (hv : ∀ i ∈ vs1, i ∈ own.map (·.2))
    (hg : ∀ (s : Shared) (H : Hp) (C : Addr) (cl : List (Str × Addr)) (fp : List Addr), PG (X.blk s H scope (compEnvC scope cl C X.env) fp) t0 g)
    (hi1 : ∀ (s : Shared) (H : Hp) (C : Addr) (cl : List (Str × Addr)) (fp : List Addr), PI (X.blk s H scope (compEnvC scope cl C X.env) fp) t1 i1 wi1)
    (hg1 : ∀ (s : Shared) (H : Hp) (C : Addr) (cl : List (Str × Addr)) (fp : List Addr), PG (X.blk s H scope (compEnvC scope cl C X.env) fp) t1 g1)
    (hk : ∀ (s : Shared) (H : Hp) (C : Addr) (cl : List (Str × Addr)) (fp : List Addr), PE (X.blk s H scope (compEnvC scope cl C X.env) fp) kx tk)
    (he : ∀ (s : Shared) (H : Hp) (C : Addr) (cl : List (Str × Addr)) (fp : List Addr), PE (X.blk s H scope (compEnvC scope cl C X.env) fp) vx tv)
    (hs : ∀ x, foldedSetIterable i0 X.env x = pure x) (hs1 : ∀ env x, foldedSetIterable i1 env x = pure x) : PE X (dcE kx vx t0 i0 t1 i1 scope pos) (tDc2 X ho0 wi g wi1 g1 tk tv (own.map (·.2)) vs1) := by
  refine ⟨fun pins s σ H Q I h => ?_⟩
  rw [arm_eval_DictComp]
  refine dc2_core hempty hc hN I hi ok hv hg hi1 hg1 hk he hs hs1 h fun D C s' m H' J' q hn ⟨f0, f1, f2, f3, f4, f5⟩ => ⟨m, hn, fun h'' sb => ?_⟩
  exact ⟨.ref D, H', J'.turned (t' := s'.toks) (fun b o hb e => (sb.2 b hb).trans e) f0 f1 f3 f4 f5, rfl, q⟩
end
end DL

/-! DL21: dict comprehensions over data, one clause and two. -/
namespace DL
open PySem PySem.Spec PyProof.Rows L2
/-- a kind of dict -/
structure DKind (κ : Type) [DecidableEq κ] where
  ob : List (κ × V) → HO
  key : κ → Da
  dat : List (κ × V) → Da
  empt : ∀ (P : Program) (w : World) (H : Hp) (h : Heap), sysModules < h.objs.size → ObjOk P w H (h.push { cls := .type "dict", data := .dict #[] }) h.objs.size (ob [])
  put : ∀ {X : Cx} {K : PySem.W.Frag} {Hs H : Hp} {D : Addr} {y z : V} {kvs : List (κ × V)} {q : κ}, X.A.units + 1 < cLine → Same Hs H → Rp K Hs (key q) y → H D = some (ob kvs) → kvs.length < sizeLine → PutA X D y z H (ob (putK kvs q z))
  rp : ∀ {K : PySem.W.Frag} {H : Hp} {p : Addr} {l : List (κ × V)}, H p = some (ob l) → Rp K H (dat l) (.ref p)
def kindK : DKind Key where
  ob := .dK
  key := fun q => .a (kV q)
  dat := .dk
  empt := fun P w H h hb => dk_empty h hb
  put := fun {X K Hs H D y z kvs q} _ _ r hD hz => by
    cases r.atom
    exact putA_k hD hz
  rp := fun h => .dk h
def kindT : DKind (List Key) where
  ob := .dT
  key := fun q => .tup ((q.map kV).map Da.a)
  dat := .dt
  empt := fun P w H h hb => dt_empty h hb
  put := fun {X K Hs H D y z kvs q} hu e r hD hz => by
    obtain ⟨b, ws, rfl, hb, ra⟩ := r.tup_inv
    rw [ra.atoms] at hb
    exact putA_t hu hD (e _ _ hb) hz
  rp := fun h => .dt (.inl h)
/-- entries laid in one by one -/
def putsE {κ : Type} [DecidableEq κ] (E : List (κ × V)) : List (κ × V) := E.foldl (fun acc p => putK acc p.1 p.2) []
theorem putsE_snoc {κ : Type} [DecidableEq κ] (E : List (κ × V)) (q : κ) (v : V) : putsE (E ++ [(q, v)]) = putK (putsE E) q v := by
  unfold putsE
  rw [List.foldl_append]
  rfl
theorem putsE_len {κ : Type} [DecidableEq κ] (E : List (κ × V)) : (putsE E).length ≤ E.length := by
  suffices H : ∀ E : List (κ × V), (putsE E.reverse).length ≤ E.length by have := H E.reverse; rwa [List.reverse_reverse, List.length_reverse] at this
  intro E
  induction E with
  | nil => exact Nat.le_refl _
  | cons p E ih =>
    rw [List.reverse_cons, putsE_snoc, List.length_cons]
    have := length_putK (putsE E.reverse) p.1 p.2
    omega
section
variable {M : Md} {X : Cx} {k : Nat} {N : List Str} {sc cs : Scope} {δ δ' : Sg} {m : Bool} {Φ Ψ : Da → Prop} {x y : Str} {pos p2 p3 apos : Pos} {a b o tg it tg1 it1 kx vx : Expr} {es : List Expr} {nx bk ct : Sg → Prop} {rt : Da → Prop} {scope : Scope} {os0 os os1 : List Str} {κ : Type} [DecidableEq κ]
def Dc2D (Kd : DKind κ) (M : Md) (k : Nat) (N : List Str) (sc : Scope) (scope : Scope) (tg tg1 it1 kx vx : Expr) (os0 os os1 : List Str) (δ : Sg) (ds : List Da) (Φ : Da → Prop) : Prop :=
  ∃ (δw : Sg) (P : Nat → List (κ × V) → Prop), Wp N os δ δw ∧ P 0 [] ∧
    (∀ X', Sc M X' k N (relS scope sc) scope → ∀ i d E, ds[i]? = some d → P i E → DG X' tg os0 d δw fun δ2 => noOwn δ2 = true ∧ ∃ δ2w, Wp N os1 δ2 δ2w ∧ ∀ X', Sc M X' k N (relS scope sc) scope → DI X' tg1 it1 δ2 fun ds1 =>
      ∃ P1 : Nat → List (κ × V) → Prop, P1 0 E ∧ (∀ X', Sc M X' k N (relS scope sc) scope → ∀ j d1 E1, ds1[j]? = some d1 → P1 j E1 → E1.length < 1000000 ∧ DG X' tg1 os1 d1 δ2w fun δ3 => ∀ X', Sc M X' k N (relS scope sc) scope → DE X' kx δ3 fun y => ∀ X', Sc M X' k N (relS scope sc) scope → DE X' vx δ3 fun z => ∃ q v, y = Kd.key q ∧ z = .a v ∧ P1 (j + 1) (E1 ++ [(q, v)])) ∧
        ∀ E1, P1 ds1.length E1 → P (i + 1) E1) ∧
    ∀ E, P ds.length E → Φ (Kd.dat (putsE E))
theorem dc2_run (Kd : DKind κ) (S : Sc M X k N sc cs) (kind : scope.kind = .function) (hn0 : ∀ x ∈ os0, x ∈ os) (h : DI X tg it δ fun ds => Dc2D Kd M k N sc scope tg tg1 it1 kx vx os0 os os1 δ ds Φ) {Bs B Hs H : Hp} {σ : L2.St} (o : Ok X.K Bs B Hs H σ δ) {Q : VK}
    (q : ∀ d v Hs' H', Go Hs H Hs' H' → Φ d → Rp X.K Hs' d v → Q v H') : tDc2 X (Kd.ob []) (WI X tg it) (WGb X scope tg) (WIb X scope tg1 it1) (WGb X scope tg1) (WEb X scope kx) (WEb X scope vx) ((ownOf N os).map (·.2)) ((ownOf N os1).map (·.2)) σ H Q := by
  have nd := S.nd
  have hu : X.A.units + 1 < cLine := by have := S.room.units; omega
  have sz : sizeLine = 16777216 := sizeLine_eq
  refine h Bs B Hs H σ o _ fun ds J G Y Hs1 H1 g1 ⟨δw, P, hw, p0, step, fin⟩ wk hG hY D hD => ?_
  have oD : ∀ (i : Nat) (s : SD) (q : Addr), δ[i]? = some (some s) → s.own = true → σ[i]? = some (some (.ref q)) → q ≠ D := fun i s q e w h z => (o.mono g1).ownAt e w h (by rw [z]; exact hD)
  have hD0 : H D = none := g1.hh.free hD
  have hB : B D = none := o.go.hh.free hD0
  refine ⟨fun i m H2 => m = ds.length - i ∧ i ≤ ds.length ∧ ∃ Hs2 E, Go Hs H Hs2 H2 ∧ Same Hs1 Hs2 ∧ Ok X.K Bs B Hs2 H2 σ δ ∧ Hs2 D = none ∧ H2 D = some (Kd.ob (putsE E)) ∧ P i E,
    ⟨_, rfl, Nat.zero_le _, Hs1, [], g1.trans (Go.own g1.sub hD), Same.refl _, (o.mono g1).mono (Go.own g1.sub hD), g1.sub.free hD, upd_same, p0⟩, ?_⟩
  rintro i m H2 ⟨rfl, hi, Hs2, E, g2, s2, o2, hDs, hDv, pi⟩
  by_cases hlt : i < ds.length
  · refine .inr ⟨wk.goes i H2 hlt (hG Hs2 H2 s2 o2.sub), fun H' => ∃ Hs2 E, Go Hs H Hs2 H' ∧ Same Hs1 Hs2 ∧ Ok X.K Bs B Hs2 H' σ δ ∧ Hs2 D = none ∧ H' D = some (Kd.ob (putsE E)) ∧ P (i + 1) E, fun H' p' => ⟨ds.length - (i + 1), by omega, rfl, hlt, p'⟩, fun x H3 hy => ?_⟩
    have hy := wk.yields i H2 x H3 hlt (hG Hs2 H2 s2 o2.sub) hy
    intro s H0 C cl fp pins s' u I r
    obtain ⟨d, hd⟩ : ∃ d, ds[i]? = some d := ⟨ds[i], by simp [hlt]⟩
    obtain ⟨Hs3, g3, rd⟩ := hY i d Hs2 H2 x H3 s2 o2.sub hd hy
    have hsl : σ.length = N.length := by
      have := I.len
      rw [wipe_length] at this
      rw [this]
      exact congrArg List.length S.n
    have nDs : ∀ {Hs' H' : Hp}, Go Hs2 H2 Hs' H' → Hs' D = none := fun g => g.no D (by rw [hDv]; exact fun z => nomatch z) hDs
    refine step (X.blk s H0 scope (compEnvC scope cl C X.env) fp) (S.blk kind) i d E hd pi Bs B Hs3 H3 _ x ((o2.mono g3).wipe nd hw) rd _ (fun δ2 σ2 Hs4 H4 o4 g4 kp ⟨no, δ2w, hw2, hi1⟩ => ?_) pins s' u I r
    have kp' : Keep N os0 (L2.wipe σ ((ownOf N os).map (·.2))) σ2 := by have z : Keep X.N os0 _ σ2 := kp; rwa [S.n] at z
    have hsl2 : σ2.length = N.length := by rw [kp'.1, wipe_length, hsl]
    refine ⟨wipe_keep nd hsl kp' hn0, fun s H0 C cl fp pins s' I => ?_⟩
    refine hi1 (X.blk s H0 scope (compEnvC scope cl C X.env) fp) (S.blk kind) Bs B Hs4 H4 σ2 o4 _ (fun ds1 J1 G1 Y1 Hs5 H5 g5 ⟨P1, q0, step1, fin1⟩ wk1 hG1 hY1 => ?_) pins s' I
    have g35 := (g3.trans g4).trans g5
    have o2D : ∀ (i : Nat) (s : SD) (q : Addr), δ2[i]? = some (some s) → s.own = true → σ2[i]? = some (some (.ref q)) → q ≠ D := fun i s q e w h => by rw [noOwn_no no e] at w; cases w
    refine ⟨fun j m H6 => m = ds1.length - j ∧ j ≤ ds1.length ∧ ∃ Hs6 E1, Go Hs H Hs6 H6 ∧ Same Hs5 Hs6 ∧ Ok X.K Bs B Hs6 H6 σ δ ∧ Ok X.K Bs B Hs6 H6 σ2 δ2 ∧ Hs6 D = none ∧ H6 D = some (Kd.ob (putsE E1)) ∧ P1 j E1,
      ⟨_, rfl, Nat.zero_le _, Hs5, E, g2.trans g35, Same.refl _, o2.mono g35, o4.mono g5, nDs g35, g35.hh _ _ hDv, q0⟩, ?_⟩
    rintro j m H6 ⟨rfl, hj, Hs6, E1, g6, s6, o6, o26, hDs6, hDv6, pj⟩
    by_cases hlt1 : j < ds1.length
    · refine .inr ⟨wk1.goes j H6 hlt1 (hG1 Hs6 H6 s6 o26.sub), fun H' => ∃ Hs6 E1, Go Hs H Hs6 H' ∧ Same Hs5 Hs6 ∧ Ok X.K Bs B Hs6 H' σ δ ∧ Ok X.K Bs B Hs6 H' σ2 δ2 ∧ Hs6 D = none ∧ H' D = some (Kd.ob (putsE E1)) ∧ P1 (j + 1) E1, fun H' p' => ⟨ds1.length - (j + 1), by omega, rfl, hlt1, p'⟩, fun x1 H7 hy1 => ?_⟩
      have hy1 := wk1.yields j H6 x1 H7 hlt1 (hG1 Hs6 H6 s6 o26.sub) hy1
      intro s H0 C cl fp pins s' u I r
      obtain ⟨d1, hd1⟩ : ∃ d1, ds1[j]? = some d1 := ⟨ds1[j], by simp [hlt1]⟩
      obtain ⟨Hs7, g7, rd1⟩ := hY1 j d1 Hs6 H6 x1 H7 s6 o26.sub hd1 hy1
      have nD6 : ∀ {Hs' H' : Hp}, Go Hs6 H6 Hs' H' → Hs' D = none := fun g => g.no D (by rw [hDv6]; exact fun z => nomatch z) hDs6
      obtain ⟨hb, stp⟩ := step1 (X.blk s H0 scope (compEnvC scope cl C X.env) fp) (S.blk kind) j d1 E1 hd1 pj
      refine stp Bs B Hs7 H7 _ x1 ((o26.mono g7).wipe nd hw2) rd1 _ (fun δ3 σ3 Hs8 H8 o8 g8 kp3 he => ?_) pins s' u I r
      have kp3' : Keep N os1 (L2.wipe σ2 ((ownOf N os1).map (·.2))) σ3 := by have z : Keep X.N os1 _ σ3 := kp3; rwa [S.n] at z
      refine ⟨wipe_keep nd hsl2 kp3' fun _ z => z, fun s H0 C cl fp pins s' I => ?_⟩
      refine he (X.blk s H0 scope (compEnvC scope cl C X.env) fp) (S.blk kind) Bs B Hs8 H8 σ3 o8 _ (fun y v Hs9 H9 g9 p9 r9 => ?_) pins s' I
      intro s H0 C cl fp pins s' I
      refine p9 (X.blk s H0 scope (compEnvC scope cl C X.env) fp) (S.blk kind) Bs B Hs9 H9 σ3 (o8.mono g9) _ (fun z w HsA HA gA ⟨qk, vw, ey, ez, pA⟩ rA => ?_) pins s' I
      subst ey
      have ew : w = vw := by subst ez; exact rA.atom
      subst ew
      have g7A := ((g7.trans g8).trans g9).trans gA
      have hl := putsE_len E1
      refine ⟨_, Kd.put hu gA.sub (Rp.mono gA.ss r9) (g7A.hh _ _ hDv6) (by omega), HsA, E1 ++ [(qk, w)], ?_⟩
      rw [putsE_snoc]
      exact ⟨(g6.trans g7A).mut hD0 (nD6 g7A), s6.trans g7A.ss, (o6.mono g7A).other (nD6 g7A) hB oD, (o26.mono g7A).other (nD6 g7A) hB o2D, nD6 g7A, upd_same, pA⟩
    · obtain rfl : j = ds1.length := by omega
      exact .inl ⟨wk1.stops H6 (hG1 Hs6 H6 s6 o26.sub), Hs6, E1, g6, s2.trans (g35.ss.trans s6), o6, hDs6, hDv6, fin1 E1 pj⟩
  · obtain rfl : i = ds.length := by omega
    exact .inl ⟨wk.stops H2 (hG Hs2 H2 s2 o2.sub), q _ _ _ _ (g2.freeze hD0 hDs hDv) (fin E pi) (Kd.rp upd_same)⟩
theorem de_dc2 (Kd : DKind κ) (S : Sc M X k N sc cs) (h : DI X tg it δ fun ds => Dc2D Kd M k N sc scope tg tg1 it1 kx vx os0 os os1 δ ds Φ) (hk : blkB N sc scope os = true) (hn0 : ∀ x ∈ os0, x ∈ os) (hn1 : ∀ x ∈ os1, x ∈ os)
    (hs : ∀ x, foldedSetIterable it X.env x = pure x := by intro _; rfl) (hs1 : ∀ env x, foldedSetIterable it1 env x = pure x := by intro _ _; rfl) : DM X m (.DictComp kx vx [⟨tg, it, [], 0⟩, ⟨tg1, it1, [], 0⟩] scope pos) δ Φ := DM.of <| .mk fun Bs B Hs H σ o Q q => by
  have ok : BlkOk X.N X.env.scope scope (ownOf N os) := by rw [S.n, S.hsc]; exact blkOk_by hk
  have hv : ∀ i ∈ (ownOf N os1).map (·.2), i ∈ (ownOf N os).map (·.2) := fun i hi => by
    unfold ownOf at hi ⊢
    rw [List.map_map] at hi ⊢
    obtain ⟨z, hz, rfl⟩ := List.mem_map.mp hi
    exact List.mem_map.mpr ⟨z, hn1 z hz, rfl⟩
  exact WE.of (pe_dc2 (fun H h hb => Kd.empt _ _ H h hb) S.calm (by rw [S.n]; exact S.nd) pi_W ok hv pgb_W pib_W pgb_W peb_W peb_W hs hs1) (dc2_run Kd S ok.kind hn0 h o q)
/-- {key: value for b in m(a) for a in l} -/
theorem dc2_map {Kd : DKind κ} {α β : Type} {l : List α} {g : α → Da} {mm : α → List β} {g1 : α → β → Da} {f : α → β → κ × V} {δw : Sg} (hw : Wp N os δ δw) (hz : (l.flatMap mm).length ≤ 1000000)
    (h : ∀ X', Sc M X' k N (relS scope sc) scope → ∀ a ∈ l, DG X' tg os0 (g a) δw fun δ2 => noOwn δ2 = true ∧ ∃ δ2w, Wp N os1 δ2 δ2w ∧ ∀ X', Sc M X' k N (relS scope sc) scope → DI X' tg1 it1 δ2 fun ds1 => ds1 = (mm a).map (g1 a) ∧
      ∀ X', Sc M X' k N (relS scope sc) scope → ∀ b ∈ mm a, DG X' tg1 os1 (g1 a b) δ2w fun δ3 => ∀ X', Sc M X' k N (relS scope sc) scope → DE X' kx δ3 fun y => ∀ X', Sc M X' k N (relS scope sc) scope → DE X' vx δ3 fun z => y = Kd.key (f a b).1 ∧ z = .a (f a b).2)
    (fin : Φ (Kd.dat (putsE (l.flatMap fun a => (mm a).map (f a))))) : Dc2D Kd M k N sc scope tg tg1 it1 kx vx os0 os os1 δ (l.map g) Φ := by
  have hlen : ∀ l : List α, (l.flatMap fun a => (mm a).map (f a)).length = (l.flatMap mm).length := fun l => by
    rw [List.length_flatMap, List.length_flatMap]
    simp
  refine ⟨δw, fun i acc => acc = (l.take i).flatMap fun a => (mm a).map (f a), hw, rfl, fun X' S' i d acc hi hp => ?_, fun acc hp => ?_⟩
  · rw [List.getElem?_map] at hi
    obtain ⟨a, ha, rfl⟩ := Option.map_eq_some_iff.mp hi
    have hil := (List.getElem?_eq_some_iff.mp ha).1
    have hd := h X' S' a (List.mem_of_getElem? ha)
    have et : l.take (i + 1) = l.take i ++ [a] := by rw [List.take_add_one, ha]; rfl
    have hsplit : l = l.take i ++ (a :: l.drop (i + 1)) := by
      rw [← (List.getElem?_eq_some_iff.mp ha).2, ← List.drop_eq_getElem_cons hil, List.take_append_drop]
    have hb0 : ((l.take i).flatMap mm).length + (mm a).length ≤ 1000000 := by
      have e2 := congrArg (fun z => (z.flatMap mm).length) hsplit
      simp only [List.flatMap_append, List.flatMap_cons, List.length_append] at e2
      omega
    refine .mk fun Bs B Hs H σ v o r Q q => hd Bs B Hs H σ v o r Q fun δ' σ' Hs' H' o' g' kp ⟨h1, δ2w, h2, h3⟩ => q δ' σ' Hs' H' o' g' kp ⟨h1, δ2w, h2, fun X2 S2 => ?_⟩
    refine .mk fun Bs B Hs H σ o R q => (h3 X2 S2) Bs B Hs H σ o R fun ds1 J G Y Hs' H' g' ⟨e1, stp⟩ wk hG hY => q ds1 J G Y Hs' H' g' ?_ wk hG hY
    subst e1
    refine ⟨fun j acc1 => acc1 = acc ++ ((mm a).take j).map (f a), by simp, fun X3 S3 j d1 acc1 hj hp1 => ?_, fun acc1 hp1 => ?_⟩
    · rw [List.getElem?_map] at hj
      obtain ⟨b, hb, rfl⟩ := Option.map_eq_some_iff.mp hj
      have hjl := (List.getElem?_eq_some_iff.mp hb).1
      refine ⟨?_, ?_⟩
      · rw [hp1, hp, List.length_append, hlen, List.length_map, List.length_take]
        omega
      · have hd2 := stp X3 S3 b (List.mem_of_getElem? hb)
        refine .mk fun Bs B Hs H σ v o r Q q => hd2 Bs B Hs H σ v o r Q fun δ' σ' Hs' H' o' g' kp h5 => q δ' σ' Hs' H' o' g' kp fun X4 S4 => (h5 X4 S4).imp fun y ey X5 S5 => (ey X5 S5).imp fun z ez => ⟨(f a b).1, (f a b).2, ez.1, ez.2, ?_⟩
        dsimp only
        rw [hp1, List.take_add_one, hb, Option.toList_some, List.map_append, List.append_assoc]
        rfl
    · have e3 : ((mm a).map (g1 a)).length = (mm a).length := by simp
      rw [e3, List.take_length] at hp1
      dsimp only
      rw [hp1, hp, et, List.flatMap_append]
      simp
  · rw [List.length_map, List.take_length] at hp
    rw [hp]
    exact fin
end
end DL

/-! DL22: a dict with tuple keys walked (and locked meanwhile); dict comprehensions by whole numbers, one clause. -/
namespace DL
open PySem PySem.Spec PyProof.Rows L2
/-- the thing at p locked, in any heap that has it -/
def lk (p : Addr) (od : Obj) (u : HO) (G : Hp) : Hp := fun q => if q = p then (match G p with | none => none | some _ => some (.frz od u)) else G q
def ulk (p : Addr) (u : HO) (G : Hp) : Hp := fun q => if q = p then (match G p with | none => none | some _ => some u) else G q
theorem lk_ne {p q : Addr} {od : Obj} {u : HO} {G : Hp} (h : q ≠ p) : lk p od u G q = G q := by unfold lk; rw [if_neg h]
theorem ulk_ne {p q : Addr} {u : HO} {G : Hp} (h : q ≠ p) : ulk p u G q = G q := by unfold ulk; rw [if_neg h]
theorem lk_none {p : Addr} {od : Obj} {u : HO} {G : Hp} (h : G p = none) : lk p od u G p = none := by unfold lk; rw [if_pos rfl, h]
theorem ulk_none {p : Addr} {u : HO} {G : Hp} (h : G p = none) : ulk p u G p = none := by unfold ulk; rw [if_pos rfl, h]
theorem lk_some {p : Addr} {od : Obj} {u o : HO} {G : Hp} (h : G p = some o) : lk p od u G p = some (.frz od u) := by unfold lk; rw [if_pos rfl, h]
theorem ulk_some {p : Addr} {u o : HO} {G : Hp} (h : G p = some o) : ulk p u G p = some u := by unfold ulk; rw [if_pos rfl, h]
theorem lk_upd {p : Addr} {od : Obj} {u o : HO} {G : Hp} (h : G p = some o) : lk p od u G = upd G p (.frz od u) := by
  funext q
  by_cases e : q = p
  · rw [e, lk_some h, upd_same]
  · rw [lk_ne e, upd_ne e]
theorem ulk_upd {p : Addr} {u o : HO} {G : Hp} (h : G p = some o) : ulk p u G = upd G p u := by
  funext q
  by_cases e : q = p
  · rw [e, ulk_some h, upd_same]
  · rw [ulk_ne e, upd_ne e]
/-- a heap in which just p stands otherwise, a dict all the same -/
structure Swap (p : Addr) (kvs : List (List Key × V)) (G G' : Hp) : Prop where
  other : ∀ q o, q ≠ p → G q = some o → G' q = some o
  here : ∀ o, G p = some o → (o = .dT kvs ∨ ∃ od, o = .frz od (.dT kvs)) ∧ Rd G' p (.dT kvs)
section
variable {K : PySem.W.Frag} {p : Addr} {kvs : List (List Key × V)} {G G' : Hp}
theorem Swap.plain (w : Swap p kvs G G') {q : Addr} {o : HO} (h : G q = some o) (h1 : o ≠ .dT kvs) (h2 : ∀ od, o ≠ .frz od (.dT kvs)) : G' q = some o := by
  refine w.other q o (fun e => ?_) h
  rw [e] at h
  rcases (w.here o h).1 with e | ⟨od, e⟩
  · exact h1 e
  · exact h2 od e
mutual
theorem Rp.swap (w : Swap p kvs G G') : ∀ {d : Da} {v : V}, Rp K G d v → Rp K G' d v
  | _, _, .a v => .a v
  | _, _, .lst h r => .lst (w.plain h (fun z => nomatch z) (fun _ z => nomatch z)) (RpAll.swap w r)
  | _, _, .tup h r => .tup (w.plain h (fun z => nomatch z) (fun _ z => nomatch z)) (RpAll.swap w r)
  | _, _, .dk h => .dk (w.plain h (fun z => nomatch z) (fun _ z => nomatch z))
  | _, _, .dt (p := q) h => .dt (by
      by_cases e : q = p
      · subst e
        rcases h with h | ⟨o, h⟩
        · obtain ⟨a, b⟩ := w.here _ h
          rcases a with a | ⟨od, a⟩
          · cases a; exact b
          · cases a
        · obtain ⟨a, b⟩ := w.here _ h
          rcases a with a | ⟨od, a⟩
          · cases a
          · cases a; exact b
      · rcases h with h | ⟨o, h⟩
        · exact .inl (w.other q _ e h)
        · exact .inr ⟨o, w.other q _ e h⟩)
  | _, _, .drw h => .drw (w.plain h (fun z => nomatch z) (fun _ z => nomatch z))
  | _, _, .scr h => .scr (by
      rcases h with h | h
      · refine .inl ?_
        rcases h with h | ⟨o, h⟩
        · exact .inl (w.plain h (fun z => nomatch z) (fun _ z => nomatch z))
        · exact .inr ⟨o, w.plain h (fun z => nomatch z) (fun _ z => nomatch z)⟩
      · exact .inr h)
theorem RpAll.swap (w : Swap p kvs G G') : ∀ {ds : List Da} {vs : List V}, RpAll K G ds vs → RpAll K G' ds vs
  | _, _, .nil => .nil
  | _, _, .cons r t => .cons (Rp.swap w r) (RpAll.swap w t)
end
theorem swap_lk {od : Obj} (h : ∀ o, G p = some o → o = .dT kvs) : Swap p kvs G (lk p od (.dT kvs) G) :=
  ⟨fun q o e x => by rw [lk_ne e]; exact x, fun o x => ⟨.inl (h o x), .inr ⟨od, lk_some x⟩⟩⟩
theorem swap_ulk {od : Obj} (h : ∀ o, G p = some o → o = .frz od (.dT kvs)) : Swap p kvs G (ulk p (.dT kvs) G) :=
  ⟨fun q o e x => by rw [ulk_ne e]; exact x, fun o x => ⟨.inr ⟨od, h o x⟩, .inl (ulk_some x)⟩⟩
theorem same_lk {od : Obj} {u : HO} {A B : Hp} (e : Same A B) : Same (lk p od u A) (lk p od u B) := fun q o h => by
  by_cases hq : q = p
  · subst hq
    cases hA : A q with
    | none => rw [lk_none hA] at h; cases h
    | some x => rw [lk_some hA] at h; cases h; exact lk_some (e _ _ hA)
  · rw [lk_ne hq] at h ⊢
    exact e _ _ h
theorem same_ulk {u : HO} {A B : Hp} (e : Same A B) : Same (ulk p u A) (ulk p u B) := fun q o h => by
  by_cases hq : q = p
  · subst hq
    cases hA : A q with
    | none => rw [ulk_none hA] at h; cases h
    | some x => rw [ulk_some hA] at h; cases h; exact ulk_some (e _ _ hA)
  · rw [ulk_ne hq] at h ⊢
    exact e _ _ h
theorem lk_dom {od : Obj} {u : HO} {A : Hp} {q : Addr} : lk p od u A q = none ↔ A q = none := by
  by_cases hq : q = p
  · subst hq
    cases hA : A q with
    | none => simp [lk_none hA]
    | some x => simp [lk_some hA]
  · rw [lk_ne hq]
theorem ulk_dom {u : HO} {A : Hp} {q : Addr} : ulk p u A q = none ↔ A q = none := by
  by_cases hq : q = p
  · subst hq
    cases hA : A q with
    | none => simp [ulk_none hA]
    | some x => simp [ulk_some hA]
  · rw [ulk_ne hq]
theorem go_lk {od : Obj} {u : HO} {A B A' B' : Hp} (g : Go A B A' B') : Go (lk p od u A) (lk p od u B) (lk p od u A') (lk p od u B') :=
  ⟨same_lk g.ss, same_lk g.hh, same_lk g.sub, fun q h1 h2 => lk_dom.mpr (g.no q (fun z => h1 (lk_dom.mpr z)) (lk_dom.mp h2))⟩
theorem ulk_lk {od : Obj} {u : HO} {A : Hp} (h : ∀ o, A p = some o → o = u) : ulk p u (lk p od u A) = A := by
  funext q
  by_cases hq : q = p
  · subst hq
    cases hA : A q with
    | none => exact ulk_none (lk_none hA)
    | some x => rw [ulk_some (lk_some hA), h x hA]
  · rw [ulk_ne hq, lk_ne hq]
/-- back from a locked run -/
theorem go_back {od : Obj} {u : HO} {A B A' B' : Hp} (hA : ∀ o, A p = some o → o = u) (hB : ∀ o, B p = some o → o = u) (g : Go (lk p od u A) (lk p od u B) A' B') : Go A B (ulk p u A') (ulk p u B') := by
  refine ⟨?_, ?_, same_ulk g.sub, fun q h1 h2 => ulk_dom.mpr (g.no q (fun z => h1 (lk_dom.mp z)) (lk_dom.mpr h2))⟩
  · have := same_ulk (p := p) (u := u) g.ss
    rwa [ulk_lk hA] at this
  · have := same_ulk (p := p) (u := u) g.hh
    rwa [ulk_lk hB] at this
theorem Ok.swap {Bs B Hs H Bs' B' Hs' H' : Hp} {σ : L2.St} {δ : Sg} (o : Ok K Bs B Hs H σ δ) (g : Go Bs' B' Hs' H') (hp : Hs p ≠ none) (wB : Swap p kvs B B') (wS : Swap p kvs Hs Hs') (wH : ∀ q x, q ≠ p → H q = some x → H' q = some x) (dS : ∀ q, q ≠ p → Hs q = none → Hs' q = none) (dB : ∀ q, B q = none → B' q = none) : Ok K Bs' B' Hs' H' σ δ := by
  refine ⟨g, fun i s e => ?_, o.len, fun i s q e w e2 => dB q (o.fr i s q e w e2), o.ap⟩
  obtain ⟨v, h1, h2⟩ := o.slot i s e
  refine ⟨v, h1, ?_⟩
  cases s with
  | d d => exact Rp.swap wS h2
  | b d => exact Rp.swap wB h2
  | ol l =>
    obtain ⟨q, vs, e1, e2, e3, e4⟩ := h2
    have ne : q ≠ p := fun z => hp (z ▸ e2)
    exact ⟨q, vs, e1, dS q ne e2, wH q _ ne e3, RpAll.swap wS e4⟩
  | ok l =>
    obtain ⟨q, e1, e2, e3⟩ := h2
    have ne : q ≠ p := fun z => hp (z ▸ e2)
    exact ⟨q, e1, dS q ne e2, wH q _ ne e3⟩
  | ot l =>
    obtain ⟨q, e1, e2, e3⟩ := h2
    have ne : q ≠ p := fun z => hp (z ▸ e2)
    exact ⟨q, e1, dS q ne e2, wH q _ ne e3⟩
end
section
variable {M : Md} {X : Cx} {k : Nat} {N : List Str} {sc cs : Scope} {δ δ' : Sg} {m : Bool} {Φ Ψ : Da → Prop} {x y : Str} {pos p2 p3 apos : Pos} {a b o tg it tg1 it1 kx vx : Expr} {es : List Expr} {nx bk ct : Sg → Prop} {rt : Da → Prop}
/-- the loop, the dict locked -/
def ForT (X : Cx) (es : List Expr) (body : List Stmt) (kvs : List (List Key × V)) (δ : Sg) (nx : Sg → Prop) (rt : Da → Prop) : Prop :=
  ∃ I : Nat → Sg → Prop, I 0 δ ∧ (∀ i q v δ', kvs[i]? = some (q, v) → I i δ' → q.length = es.length ∧ ∃ nm, DGs X es nm ((q.map kV).map Da.a) δ' fun δ2 => DB X body δ2 (I (i + 1)) rt nx (I (i + 1))) ∧ ∀ δ', I kvs.length δ' → nx δ'
theorem forT_run (S : Sc M X k N sc cs) {j : Nat} {tp : Pos} {body : List Stmt} {kvs : List (List Key × V)} (hg : Gt N δ x (.d (.dt kvs))) (hv : visB sc x = true) (h : ForT X es body kvs δ nx rt)
    (hn : (assignEach es X.env).length = es.length) (hst : (assignEach es X.env).findIdx? (·.1) = none) (hs : ∀ z, foldedSetIterable (.Name x p2) X.env z = pure z)
    {Bs B Hs H : Hp} {σ : L2.St} (o : Ok X.K Bs B Hs H σ δ) {D : Ends} (f : Fits X.K Bs B Hs nx rt bk ct D) {p : Addr} {od : Obj} (hp : Hs p = some (.frz od (.dT kvs))) (hσ : ∃ i : Nat, N[i]? = some x ∧ σ[i]? = some (some (.ref p))) : 
    WS X (.For (.Tuple es j tp) (.Name x p2) body [] pos) D σ H := by
  obtain ⟨v1, v2, v3⟩ := visB_ok hv
  obtain ⟨i, hi, hsi⟩ := hσ
  obtain ⟨I, i0, step, fin⟩ := h
  refine WS.of (ps_for S.po S.calm (pi_keys (pe_var (i := i) (by rw [S.n]; exact hi) (by rw [S.hsc]; exact v1) v2 v3)) (pg_tup S.calm pgs_W rfl hst) pb_W hs) ?_
  refine ⟨_, hsi, p, od, rfl, .inr ⟨kvs, o.sub _ _ hp, ?_⟩⟩
  refine for_it (walk_keysT (d := p) (o := od) (kvs := kvs)) (fun i σ2 H2 => ∃ Hs2 δ2, Same Hs Hs2 ∧ Ok X.K Bs B Hs2 H2 σ2 δ2 ∧ i ≤ kvs.length ∧ I i δ2) ?_ ?_ ?_ ?_
  · exact ⟨Hs, δ, Same.refl _, o, Nat.zero_le _, i0⟩
  · rintro i σ2 H2 hi ⟨Hs2, δ2, s2, o2, _⟩
    exact o2.sub _ _ (s2 _ _ hp)
  · rintro i x σ2 H2 H3 hi ⟨Hs2, δ2, s2, o2, _, pi⟩ ⟨rfl, q, v, r, hq, rfl, hr⟩
    obtain ⟨hql, nm, stp⟩ := step i q v δ2 hq pi
    refine ⟨r, q.map kV, rfl, .of hr, by rw [hn, List.length_map, hql], ?_⟩
    refine stp Bs B Hs2 H3 σ2 (q.map kV) o2 (RpAll.ofAtoms _) _ fun δ4 σ4 Hs4 H4 o4 g4 _ p4 => ?_
    have s4 := s2.trans g4.ss
    refine p4 Bs B Hs4 H4 σ4 o4 _ ⟨fun δ5 σ5 Hs5 H5 o5 s5 p5 => ⟨Hs5, δ5, s4.trans s5, o5, by omega, p5⟩, fun d v Hs' H' g s h r => f.rt d v Hs' H' g (s4.trans s) h r, fun δ5 σ5 Hs5 H5 o5 s5 p5 => f.nx δ5 σ5 Hs5 H5 o5 (s4.trans s5) p5, fun δ5 σ5 Hs5 H5 o5 s5 p5 => ⟨Hs5, δ5, s4.trans s5, o5, by omega, p5⟩⟩
  · rintro σ2 H2 ⟨Hs2, δ2, s2, o2, _, pi⟩
    exact f.nx δ2 σ2 Hs2 H2 o2 s2 (fin δ2 pi)
/-- for a, b in x: x a dict with tuple keys -/
theorem ds_forT (S : Sc M X k N sc cs) {j : Nat} {tp : Pos} {body : List Stmt} {kvs : List (List Key × V)} (hg : Gt N δ x (.d (.dt kvs))) (hv : visB sc x = true) (h : ForT X es body kvs δ nx rt)
    (hn : (assignEach es X.env).length = es.length := by rfl) (hst : (assignEach es X.env).findIdx? (·.1) = none := by rfl) (hs : ∀ z, foldedSetIterable (.Name x p2) X.env z = pure z := by intro _; rfl) :
    DS X (.For (.Tuple es j tp) (.Name x p2) body [] pos) δ nx rt bk ct := .mk fun Bs B Hs H σ o D f => by
  obtain ⟨i, h1, h2⟩ := hg.at
  obtain ⟨v, h3, r⟩ := o.slot i _ h2
  obtain ⟨p, rfl, hp⟩ := r.dt_inv
  rcases hp with hp | ⟨od, hp⟩
  · -- not locked yet
    have hH := o.sub _ _ hp
    have only : ∀ {G : Hp}, Same G H → ∀ o, G p = some o → o = .dT kvs := fun e o z => by
      have := e _ _ z
      rw [hH] at this
      exact (Option.some.inj this).symm
    have aBs := only (o.go.ss.trans o.sub)
    have aB := only o.go.hh
    have aHs := only o.sub
    have aH := only (Same.refl H)
    refine WS.of (ps_lock ps_W) ⟨p, _, hH, trivial, fun od => ?_⟩
    rw [← lk_upd hH]
    have o1 : Ok X.K (lk p od (.dT kvs) Bs) (lk p od (.dT kvs) B) (lk p od (.dT kvs) Hs) (lk p od (.dT kvs) H) σ δ :=
      o.swap (p := p) (go_lk o.go) (by rw [hp]; exact fun z => nomatch z) (swap_lk aB) (swap_lk aHs) (fun q x e z => by rw [lk_ne e]; exact z) (fun q e z => by rw [lk_ne e]; exact z) fun q z => lk_dom.mpr z
    have un : ∀ {δ' : Sg} {σ' : L2.St} {Hs' H' : Hp}, Ok X.K (lk p od (.dT kvs) Bs) (lk p od (.dT kvs) B) Hs' H' σ' δ' → Same (lk p od (.dT kvs) Hs) Hs' → H' p = some (.frz od (.dT kvs)) ∧ Ok X.K Bs B (ulk p (.dT kvs) Hs') (ulk p (.dT kvs) H') σ' δ' ∧ Same Hs (ulk p (.dT kvs) Hs') := fun {δ' σ' Hs' H'} o' s' => by
      have q1 : Hs' p = some (.frz od (.dT kvs)) := s' _ _ (lk_some hp)
      have q2 := o'.sub _ _ q1
      have uS : ∀ o, Hs' p = some o → o = .frz od (.dT kvs) := fun o z => by rw [q1] at z; exact (Option.some.inj z).symm
      have uB : ∀ o, (lk p od (.dT kvs) B) p = some o → o = .frz od (.dT kvs) := fun o z => by
        cases hB : B p with
        | none => rw [lk_none hB] at z; cases z
        | some w => rw [lk_some hB] at z; exact (Option.some.inj z).symm
      refine ⟨q2, ?_, ?_⟩
      · have wB := swap_ulk uB
        rw [ulk_lk aB] at wB
        exact o'.swap (p := p) (go_back aBs aB o'.go) (by rw [q1]; exact fun z => nomatch z) wB (swap_ulk uS) (fun q x e z => by rw [ulk_ne e]; exact z) (fun q e z => by rw [ulk_ne e]; exact z) fun q z => lk_dom.mp z
      · have := same_ulk (p := p) (u := .dT kvs) s'
        rwa [ulk_lk aHs] at this
    refine forT_run S hg hv h hn hst hs o1 (bk := bk) (ct := ct) ⟨fun δ' σ' Hs' H' o' s' h' => ?_, fun d v Hs' H' g' s' h' r' => ?_, fun δ' σ' Hs' H' o' s' h' => ?_, fun δ' σ' Hs' H' o' s' h' => ?_⟩ (lk_some hp) ⟨i, h1, h3⟩
    · obtain ⟨a1, a2, a3⟩ := un o' s'
      refine ⟨a1, ?_⟩
      rw [← ulk_upd a1]
      exact f.nx δ' σ' _ _ a2 a3 h'
    · have q1 : Hs' p = some (.frz od (.dT kvs)) := s' _ _ (lk_some hp)
      have q2 := g'.sub _ _ q1
      refine ⟨q2, ?_⟩
      rw [← ulk_upd q2]
      have s2 := same_ulk (p := p) (u := .dT kvs) s'
      rw [ulk_lk aHs] at s2
      exact f.rt d v _ _ (go_back aBs aB g') s2 h' (Rp.swap (swap_ulk fun o z => by rw [q1] at z; exact (Option.some.inj z).symm) r')
    · obtain ⟨a1, a2, a3⟩ := un o' s'
      refine ⟨a1, ?_⟩
      rw [← ulk_upd a1]
      exact f.bk δ' σ' _ _ a2 a3 h'
    · obtain ⟨a1, a2, a3⟩ := un o' s'
      refine ⟨a1, ?_⟩
      rw [← ulk_upd a1]
      exact f.ct δ' σ' _ _ a2 a3 h'
  · exact forT_run S hg hv h hn hst hs o f hp ⟨i, h1, h3⟩
end
end DL

/-! DL23: two own lists made at once; dict comprehensions of one clause; what types data have. -/
namespace DL
open PySem PySem.Spec PyProof.Rows L2
section
variable {M : Md} {X : Cx} {k : Nat} {N : List Str} {sc cs : Scope} {δ δ' : Sg} {m : Bool} {Φ Ψ : Da → Prop} {x y : Str} {pos p2 p3 p4 apos : Pos} {a b e o tg it kx vx : Expr} {es : List Expr} {nx bk ct : Sg → Prop} {rt : Da → Prop} {scope : Scope} {os : List Str}
/-- x, y = [], [e] -/
theorem ds_parOO (S : Sc M X k N sc cs) {px py pt : Pos} {kt k2 pt2} (h : DAt X (e :: es) δ fun ds => ∃ δ1 δ2, Ss N δ x (some (.ol [])) δ1 ∧ Ss N δ1 y (some (.ol ds)) δ2 ∧ nx δ2) (hxy : x ≠ y)
    (hx : (sc.names.lookup x == some .local) = true) (hy : (sc.names.lookup y == some .local) = true)
    (hw : ∀ env : Env, env.scope = sc → swappedStores [.Tuple [.Name x px, .Name y py] kt pt] (.Tuple [.List [] p3, .List (e :: es) p4] k2 pt2) env = pure (some [x, y]))
    (hN : N.contains x = true) (hN2 : N.contains y = true) (hz : (e :: es).length ≤ sizeLine := by decide)
    (hs : swapsWithSole [.Tuple [.Name x px, .Name y py] kt pt] (.Tuple [.List [] p3, .List (e :: es) p4] k2 pt2) pos.line X.env = pure false := by rfl)
    (h1 : starEach [.List [] p3, .List (e :: es) p4] X.env = (false, eval (.List [] p3) X.env) :: starEach [.List (e :: es) p4] X.env := by rfl) (h2 : starEach [.List (e :: es) p4] X.env = (false, eval (.List (e :: es) p4) X.env) :: starEach [] X.env := by rfl) :
    DS X (.Assign [.Tuple [.Name x px, .Name y py] kt pt] (.Tuple [.List [] p3, .List (e :: es) p4] k2 pt2) pos) δ nx rt bk ct := .mk fun Bs B Hs H σ o D f => by
  obtain ⟨i, hi⟩ : ∃ i : Nat, N[i]? = some x := List.mem_iff_getElem?.mp (by simpa using hN)
  obtain ⟨j, hj⟩ : ∃ i : Nat, N[i]? = some y := List.mem_iff_getElem?.mp (by simpa using hN2)
  have hij : i ≠ j := fun e => by
    rw [e, hj] at hi
    exact hxy (Option.some.inj hi).symm
  refine WS.of (ps_par (i := i) (j := j) S.calm (by rw [S.n]; exact S.nd) (by rw [S.n]; exact hi) (by rw [S.n]; exact hj) hij (by rw [S.hsc]; simpa using hx) (by rw [S.hsc]; simpa using hy) (pa_cons (pe_lst pa_nil) (pa_cons (pe_lst pa_W) pa_nil h2) h1) (hw _ S.hsc) hs) ?_
  refine ⟨Nat.zero_le _, fun p hp => ?_⟩
  -- the first list stands apart until both are made
  have o1 := o.mono (Go.own o.sub (p := p) (o := .lst []) hp)
  refine h Bs B Hs _ σ o1 _ fun ds vs Hs1 H1 g1 ⟨δ1, δ2, q1, q2, p2⟩ r hd => ⟨by rw [← r.len, hd]; exact hz, fun p' hp' => ?_⟩
  obtain ⟨i', e1, rfl⟩ := q1.at
  obtain rfl : i = i' := nodup_ix S.nd hi e1
  obtain ⟨j', e2, rfl⟩ := q2.at
  obtain rfl : j = j' := nodup_ix S.nd hj e2
  have hpH1 : H1 p = some (.lst []) := g1.hh _ _ upd_same
  have hpS : Hs1 p = none := g1.no p (by rw [upd_same]; exact fun z => nomatch z) (o.sub.free hp)
  have hB : B p = none := o.go.hh.free hp
  have o2 := o1.mono g1
  have np : ∀ (j : Nat) (s : SD) (q : Addr), δ[j]? = some (some s) → s.own = true → σ[j]? = some (some (.ref q)) → q ≠ p := fun j s q e w h z => by
    have := o.ownAt e w h
    rw [z] at this
    exact this hp
  have o3 := o2.adopt i (s0 := .ol []) hB np ⟨p, [], rfl, hpS, hpH1, .nil⟩
  exact ⟨.ref p, .ref p', rfl, f.nx _ _ Hs1 _ (o3.setO j (s0 := .ol ds) hp' ⟨p', vs, rfl, g1.sub.free hp', upd_same, r⟩) g1.ss p2⟩
/-- {key: value for a in l} -/
def DcKD (M : Md) (k : Nat) (N : List Str) (sc : Scope) (scope : Scope) (tg kx vx : Expr) (os : List Str) (δ : Sg) (ds : List Da) (Φ : Da → Prop) : Prop :=
  ∃ (δw : Sg) (P : Nat → List (Key × V) → Prop), Wp N os δ δw ∧ P 0 [] ∧
    (∀ X', Sc M X' k N (relS scope sc) scope → ∀ i d E, ds[i]? = some d → P i E → E.length < 1000000 ∧ DG X' tg os d δw fun δ2 => ∀ X', Sc M X' k N (relS scope sc) scope → DE X' kx δ2 fun y => ∀ X', Sc M X' k N (relS scope sc) scope → DE X' vx δ2 fun z => ∃ q v, y = .a (kV q) ∧ z = .a v ∧ P (i + 1) (E ++ [(q, v)])) ∧
    ∀ E, P ds.length E → Φ (.dk (putsE E))
theorem dcK_run (S : Sc M X k N sc cs) (kind : scope.kind = .function) (h : DI X tg it δ fun ds => DcKD M k N sc scope tg kx vx os δ ds Φ) {Bs B Hs H : Hp} {σ : L2.St} (o : Ok X.K Bs B Hs H σ δ) {Q : VK}
    (q : ∀ d v Hs' H', Go Hs H Hs' H' → Φ d → Rp X.K Hs' d v → Q v H') : tDc (WI X tg it) (WGb X scope tg) (WTb X scope []) (WEb X scope kx) (WEb X scope vx) ((ownOf N os).map (·.2)) σ H Q := by
  have nd := S.nd
  have sz : sizeLine = 16777216 := sizeLine_eq
  refine h Bs B Hs H σ o _ fun ds J G Y Hs1 H1 g1 ⟨δw, P, hw, p0, step, fin⟩ wk hG hY D hD => ?_
  have oD : ∀ (i : Nat) (s : SD) (q : Addr), δ[i]? = some (some s) → s.own = true → σ[i]? = some (some (.ref q)) → q ≠ D := fun i s q e w h z => (o.mono g1).ownAt e w h (by rw [z]; exact hD)
  have hD0 : H D = none := g1.hh.free hD
  have hB : B D = none := o.go.hh.free hD0
  refine ⟨fun i m H2 => m = ds.length - i ∧ i ≤ ds.length ∧ ∃ Hs2 E, Go Hs H Hs2 H2 ∧ Same Hs1 Hs2 ∧ Ok X.K Bs B Hs2 H2 σ δ ∧ Hs2 D = none ∧ H2 D = some (.dK (putsE E)) ∧ P i E,
    ⟨_, rfl, Nat.zero_le _, Hs1, [], g1.trans (Go.own g1.sub hD), Same.refl _, (o.mono g1).mono (Go.own g1.sub hD), g1.sub.free hD, upd_same, p0⟩, ?_⟩
  rintro i m H2 ⟨rfl, hi, Hs2, E, g2, s2, o2, hDs, hDv, pi⟩
  by_cases hlt : i < ds.length
  · refine .inr ⟨wk.goes i H2 hlt (hG Hs2 H2 s2 o2.sub), fun H' => ∃ Hs2 E, Go Hs H Hs2 H' ∧ Same Hs1 Hs2 ∧ Ok X.K Bs B Hs2 H' σ δ ∧ Hs2 D = none ∧ H' D = some (.dK (putsE E)) ∧ P (i + 1) E, fun H' p' => ⟨ds.length - (i + 1), by omega, rfl, hlt, p'⟩, fun x H3 hy => ?_⟩
    have hy := wk.yields i H2 x H3 hlt (hG Hs2 H2 s2 o2.sub) hy
    intro s H0 C cl fp pins s' u I r
    obtain ⟨d, hd⟩ : ∃ d, ds[i]? = some d := ⟨ds[i], by simp [hlt]⟩
    obtain ⟨Hs3, g3, rd⟩ := hY i d Hs2 H2 x H3 s2 o2.sub hd hy
    have hsl : σ.length = N.length := by
      have := I.len
      rw [wipe_length] at this
      rw [this]
      exact congrArg List.length S.n
    have nDs : ∀ {Hs' H' : Hp}, Go Hs2 H2 Hs' H' → Hs' D = none := fun g => g.no D (by rw [hDv]; exact fun z => nomatch z) hDs
    obtain ⟨hb, stp⟩ := step (X.blk s H0 scope (compEnvC scope cl C X.env) fp) (S.blk kind) i d E hd pi
    refine stp Bs B Hs3 H3 _ x ((o2.mono g3).wipe nd hw) rd _ (fun δ2 σ2 Hs4 H4 o4 g4 kp he => ?_) pins s' u I r
    have kp' : Keep N os (L2.wipe σ ((ownOf N os).map (·.2))) σ2 := by have z : Keep X.N os _ σ2 := kp; rwa [S.n] at z
    refine ⟨wipe_keep nd hsl kp' fun _ z => z, fun s H0 C cl fp pins s' I => WTs.of pts_nil (yesT ?_) pins s' I⟩
    intro s H0 C cl fp pins s' I
    refine he (X.blk s H0 scope (compEnvC scope cl C X.env) fp) (S.blk kind) Bs B Hs4 H4 σ2 o4 _ (fun y v Hs5 H5 g5 p5 r5 => ?_) pins s' I
    intro s H0 C cl fp pins s' I
    refine p5 (X.blk s H0 scope (compEnvC scope cl C X.env) fp) (S.blk kind) Bs B Hs5 H5 σ2 (o4.mono g5) _ (fun z w Hs6 H6 g6 ⟨qk, vw, ey, ez, p6⟩ r6 => ?_) pins s' I
    subst ey
    have ew : w = vw := by subst ez; exact r6.atom
    subst ew
    cases r5.atom
    have g36 := ((g3.trans g4).trans g5).trans g6
    have hl := putsE_len E
    refine ⟨putsE E, qk, rfl, g36.hh _ _ hDv, by omega, Hs6, E ++ [(qk, w)], ?_⟩
    rw [putsE_snoc]
    exact ⟨(g2.trans g36).mut hD0 (nDs g36), s2.trans g36.ss, (o2.mono g36).other (nDs g36) hB oD, nDs g36, upd_same, p6⟩
  · obtain rfl : i = ds.length := by omega
    exact .inl ⟨wk.stops H2 (hG Hs2 H2 s2 o2.sub), q _ _ _ _ (g2.freeze hD0 hDs hDv) (fin E pi) (.dk upd_same)⟩
theorem de_dcK (S : Sc M X k N sc cs) (h : DI X tg it δ fun ds => DcKD M k N sc scope tg kx vx os δ ds Φ) (hk : blkB N sc scope os = true)
    (hs : ∀ x, foldedSetIterable it X.env x = pure x := by intro _; rfl) : DM X m (.DictComp kx vx [⟨tg, it, [], 0⟩] scope pos) δ Φ := DM.of <| .mk fun Bs B Hs H σ o Q q => by
  have ok : BlkOk X.N X.env.scope scope (ownOf N os) := by rw [S.n, S.hsc]; exact blkOk_by hk
  exact WE.of (pe_dc S.calm (by rw [S.n]; exact S.nd) pi_W ok pgb_W ptb_W peb_W peb_W hs) (dcK_run S ok.kind h o q)
theorem dcK_map {α : Type} {l : List α} {g : α → Da} {f : α → Key × V} {δw : Sg} (hw : Wp N os δ δw) (hz : l.length ≤ 1000000)
    (h : ∀ X', Sc M X' k N (relS scope sc) scope → ∀ a ∈ l, DG X' tg os (g a) δw fun δ2 => ∀ X', Sc M X' k N (relS scope sc) scope → DE X' kx δ2 fun y => ∀ X', Sc M X' k N (relS scope sc) scope → DE X' vx δ2 fun z => y = .a (kV (f a).1) ∧ z = .a (f a).2)
    (fin : Φ (.dk (putsE (l.map f)))) : DcKD M k N sc scope tg kx vx os δ (l.map g) Φ := by
  refine ⟨δw, fun i E => E = (l.take i).map f, hw, rfl, fun X' S' i d E hi hp => ?_, fun E hp => ?_⟩
  · rw [List.getElem?_map] at hi
    obtain ⟨a, ha, rfl⟩ := Option.map_eq_some_iff.mp hi
    have hil := (List.getElem?_eq_some_iff.mp ha).1
    have hd := h X' S' a (List.mem_of_getElem? ha)
    refine ⟨?_, ?_⟩
    · rw [hp, List.length_map, List.length_take]
      omega
    · refine .mk fun Bs B Hs H σ v o r Q q => hd Bs B Hs H σ v o r Q fun δ' σ' Hs' H' o' g' kp h5 => q δ' σ' Hs' H' o' g' kp fun X4 S4 => (h5 X4 S4).imp fun y ey X5 S5 => (ey X5 S5).imp fun z ez => ⟨(f a).1, (f a).2, ez.1, ez.2, ?_⟩
      dsimp only
      rw [hp, List.take_add_one, ha, Option.toList_some, List.map_append]
      rfl
  · rw [List.length_map, List.take_length] at hp
    rw [hp]
    exact fin
end
/-! ### types -/
def tyNames : List String := ["NoneType", "bool", "int", "str", "list", "tuple", "dict"]
def isT (T : String) (d : Da) : Bool := kitB (tyD d) T == some true
theorem kit_tab : ∀ a ∈ tyNames, ∀ T ∈ ["int", "bool", "str", "tuple", "list"], kitB a T = some (kitB a T == some true) := by decide +kernel
theorem tyD_mem {d : Da} (h : TyK d) : tyD d ∈ tyNames := by
  cases d with
  | a v =>
    cases v with
    | non => exact (by decide : "NoneType" ∈ tyNames)
    | bl b => exact (by decide : "bool" ∈ tyNames)
    | int i => exact (by decide : "int" ∈ tyNames)
    | str x => exact (by decide : "str" ∈ tyNames)
    | byt b => exact h.elim
    | flt b => exact h.elim
    | ref p => exact h.elim
    | ty n => exact h.elim
  | lst l => exact (by decide : "list" ∈ tyNames)
  | tup l => exact (by decide : "tuple" ∈ tyNames)
  | dk l => exact (by decide : "dict" ∈ tyNames)
  | dt l => exact h.elim
  | drw => exact h.elim
  | scr l => exact h.elim
theorem kit_is {d : Da} (h : TyK d) {T : String} (hT : T ∈ ["int", "bool", "str", "tuple", "list"]) : kitB (tyD d) T = some (isT T d) := kit_tab _ (tyD_mem h) T hT
section
variable {X : Cx} {Φ : Da → Prop}
theorem bw_is {d : Da} (h : TyK d) {T : String} (hT : T ∈ ["int", "bool", "str", "tuple", "list"]) (p : Φ (.bl (isT T d))) : BW X (.builtin "isinstance") [d, .a (.ty T)] Φ := bw_isi h (kit_is h hT) p
theorem bw_is2 {d : Da} (h : TyK d) {T U : String} (hT : T ∈ ["int", "bool", "str", "tuple", "list"]) (hU : U ∈ ["int", "bool", "str", "tuple", "list"]) (p : Φ (.bl (isT T d || isT U d))) : BW X (.builtin "isinstance") [d, .tup [.a (.ty T), .a (.ty U)]] Φ := bw_isi2 h (kit_is h hT) (kit_is h hU) p
end
theorem isT_int {i : Int} : isT "int" (.int i) = true := (by decide +kernel : (kitB "int" "int" == some true) = true)
theorem isT_tup {l : List Da} : isT "tuple" (.tup l) = true := (by decide +kernel : (kitB "tuple" "tuple" == some true) = true)
theorem isT_lst {l : List Da} : isT "list" (.lst l) = true := (by decide +kernel : (kitB "list" "list" == some true) = true)
theorem isT_str {x : Str} : isT "str" (.str x) = true := (by decide +kernel : (kitB "str" "str" == some true) = true)
theorem isB_int {i : Int} : isT "bool" (.int i) = false := (by decide +kernel : (kitB "int" "bool" == some true) = false)
theorem isB_bl {b : Bool} : isT "bool" (.bl b) = true := (by decide +kernel : (kitB "bool" "bool" == some true) = true)
theorem kit_no : ∀ a ∈ tyNames, ∀ T ∈ ["int", "bool", "str", "tuple", "list"], (kitB a T == some true) = true → a = T ∨ (a = "bool" ∧ T = "int") := by decide +kernel
theorem isT_eq {d : Da} {T : String} (hT : T ∈ ["int", "bool", "str", "tuple", "list"]) (k : TyK d) (h : isT T d = true) : tyD d = T ∨ (tyD d = "bool" ∧ T = "int") := kit_no _ (tyD_mem k) T hT h
/-- what has a type's name is of its shape -/
theorem sh_tup {d : Da} (k : TyK d) (h : tyD d = "tuple") : ∃ l, d = .tup l := by
  cases d with
  | tup l => exact ⟨l, rfl⟩
  | a v => cases v <;> first | exact k.elim | exact absurd h (by unfold tyD; simp)
  | lst l => exact absurd h (by unfold tyD; simp)
  | dk l => exact absurd h (by unfold tyD; simp)
  | dt l => exact k.elim
  | drw => exact k.elim
  | scr l => exact k.elim
theorem sh_lst {d : Da} (k : TyK d) (h : tyD d = "list") : ∃ l, d = .lst l := by
  cases d with
  | lst l => exact ⟨l, rfl⟩
  | a v => cases v <;> first | exact k.elim | exact absurd h (by unfold tyD; simp)
  | tup l => exact absurd h (by unfold tyD; simp)
  | dk l => exact absurd h (by unfold tyD; simp)
  | dt l => exact k.elim
  | drw => exact k.elim
  | scr l => exact k.elim
theorem sh_str {d : Da} (k : TyK d) (h : tyD d = "str") : ∃ x, d = .str x := by
  cases d with
  | a v => cases v with
    | str x => exact ⟨x, rfl⟩
    | _ => first | exact k.elim | exact absurd h (by unfold tyD; simp)
  | lst l => exact absurd h (by unfold tyD; simp)
  | tup l => exact absurd h (by unfold tyD; simp)
  | dk l => exact absurd h (by unfold tyD; simp)
  | dt l => exact k.elim
  | drw => exact k.elim
  | scr l => exact k.elim
theorem sh_int {d : Da} (k : TyK d) (h : tyD d = "int") : ∃ i, d = .int i := by
  cases d with
  | a v => cases v with
    | int i => exact ⟨i, rfl⟩
    | _ => first | exact k.elim | exact absurd h (by unfold tyD; simp)
  | lst l => exact absurd h (by unfold tyD; simp)
  | tup l => exact absurd h (by unfold tyD; simp)
  | dk l => exact absurd h (by unfold tyD; simp)
  | dt l => exact k.elim
  | drw => exact k.elim
  | scr l => exact k.elim
theorem sh_bl {d : Da} (k : TyK d) (h : tyD d = "bool") : ∃ b, d = .bl b := by
  cases d with
  | a v => cases v with
    | bl b => exact ⟨b, rfl⟩
    | _ => first | exact k.elim | exact absurd h (by unfold tyD; simp)
  | lst l => exact absurd h (by unfold tyD; simp)
  | tup l => exact absurd h (by unfold tyD; simp)
  | dk l => exact absurd h (by unfold tyD; simp)
  | dt l => exact k.elim
  | drw => exact k.elim
  | scr l => exact k.elim
theorem tup_of {d : Da} (h : isT "tuple" d = true) (k : TyK d) : ∃ l, d = .tup l := by
  rcases isT_eq (by decide) k h with e | ⟨_, e⟩
  · exact sh_tup k e
  · exact absurd e (by decide)
theorem lst_of {d : Da} (h : isT "list" d = true) (k : TyK d) : ∃ l, d = .lst l := by
  rcases isT_eq (by decide) k h with e | ⟨_, e⟩
  · exact sh_lst k e
  · exact absurd e (by decide)
theorem str_of {d : Da} (h : isT "str" d = true) (k : TyK d) : ∃ x, d = .str x := by
  rcases isT_eq (by decide) k h with e | ⟨_, e⟩
  · exact sh_str k e
  · exact absurd e (by decide)
theorem bl_of {d : Da} (h : isT "bool" d = true) (k : TyK d) : ∃ b, d = .bl b := by
  rcases isT_eq (by decide) k h with e | ⟨_, e⟩
  · exact sh_bl k e
  · exact absurd e (by decide)
theorem int_of {d : Da} (h : isT "int" d = true) (h2 : isT "bool" d = false) (k : TyK d) : ∃ i, d = .int i := by
  rcases isT_eq (by decide) k h with e | ⟨e, _⟩
  · exact sh_int k e
  · obtain ⟨b, rfl⟩ := sh_bl k e
    rw [isB_bl] at h2
    cases h2
theorem Shp.tyK {n : Nat} {d : Da} (h : Shp n d) : TyK d := by cases h <;> trivial
end DL

/-! DL24: comprehensions over data as they stand; two clauses kept by a name; how many keys. -/
namespace DL
open PySem PySem.Spec PyProof.Rows L2
section
variable {M : Md} {X : Cx} {k : Nat} {N : List Str} {sc cs : Scope} {δ δ' : Sg} {m : Bool} {Φ Ψ : Da → Prop} {x y : Str} {pos p2 p3 p4 apos : Pos} {a b e o c tg it tg1 it1 kx vx : Expr} {es : List Expr} {nx bk ct : Sg → Prop} {rt : Da → Prop} {scope : Scope} {os0 os os1 : List Str} {ifs : List Expr}
theorem map_self {α : Type} (l : List α) : l.map (fun d => d) = l := by simp
/-- [f(d) for d in l] -/
theorem lc_mapI {l : List Da} {f : Da → Da} {δw : Sg} (hw : Wp N os δ δw) (hz : l.length ≤ 1000000)
    (h : ∀ X', Sc M X' k N (relS scope sc) scope → ∀ d ∈ l, DG X' tg os d δw fun δ2 => ∀ X', Sc M X' k N (relS scope sc) scope → DE X' e δ2 fun y => y = f d) (fin : Φ (.lst (l.map f))) : LcD M X k N sc scope tg e [] os δ l Φ := by
  have := lc_map (M := M) (X := X) (k := k) (sc := sc) (scope := scope) (tg := tg) (e := e) (os := os) (δ := δ) (Φ := Φ) (l := l) (g := fun d => d) (f := f) hw hz h fin
  rwa [map_self] at this
theorem lc2_mapI {l : List Da} {mm : Da → List Da} {f : Da → Da → Da} {δw : Sg} (hw : Wp N os δ δw) (hz : (l.flatMap mm).length ≤ 1000000)
    (h : ∀ X', Sc M X' k N (relS scope sc) scope → ∀ a ∈ l, DG X' tg os0 a δw fun δ2 => noOwn δ2 = true ∧ ∃ δ2w, Wp N os1 δ2 δ2w ∧ ∀ X', Sc M X' k N (relS scope sc) scope → DI X' tg1 it1 δ2 fun ds1 => ds1 = (mm a).map (fun d => d) ∧
      ∀ X', Sc M X' k N (relS scope sc) scope → ∀ b ∈ mm a, DG X' tg1 os1 b δ2w fun δ3 => ∀ X', Sc M X' k N (relS scope sc) scope → DE X' e δ3 fun y => y = f a b)
    (fin : Φ (.lst (l.flatMap fun a => (mm a).map (f a)))) : Lc2D M k N sc scope tg tg1 it1 e os0 os os1 δ l Φ := by
  have := lc2_map (M := M) (k := k) (sc := sc) (scope := scope) (tg := tg) (tg1 := tg1) (it1 := it1) (e := e) (os0 := os0) (os := os) (os1 := os1) (δ := δ) (Φ := Φ) (l := l) (g := fun d => d) (mm := mm) (g1 := fun _ d => d) (f := f) hw hz h fin
  rwa [map_self] at this
/-- y = [e for .. for ..] -/
theorem ds_setLc2 (S : Sc M X k N sc cs) {py lp : Pos} (h : DI X tg it δ fun ds => Lc2D M k N sc scope tg tg1 it1 e os0 os os1 δ ds fun d => ∃ δ', Ss N δ y (some (.d d)) δ' ∧ nx δ') (hk : blkB N sc scope os = true) (hn0 : ∀ x ∈ os0, x ∈ os) (hn1 : ∀ x ∈ os1, x ∈ os)
    (hy : (sc.names.lookup y == some .local && (py.line == lp.line) && !(scope.names.any fun (n, k) => n == y && (k == .local || k == .cell))) = true) (hN : N.contains y = true)
    (hs : ∀ x, foldedSetIterable it X.env x = pure x := by intro _; rfl) (hs1 : ∀ env x, foldedSetIterable it1 env x = pure x := by intro _ _; rfl) :
    DS X (.Assign [.Name y py] (.ListComp e [⟨tg, it, [], 0⟩, ⟨tg1, it1, [], 0⟩] scope lp) pos) δ nx rt bk ct := .mk fun Bs B Hs H σ o D f => by
  have ok : BlkOk X.N X.env.scope scope (ownOf N os) := by rw [S.n, S.hsc]; exact blkOk_by hk
  have hv : ∀ i ∈ (ownOf N os1).map (·.2), i ∈ (ownOf N os).map (·.2) := fun i hi => by
    unfold ownOf at hi ⊢
    rw [List.map_map] at hi ⊢
    obtain ⟨z, hz, rfl⟩ := List.mem_map.mp hi
    exact List.mem_map.mpr ⟨z, hn1 z hz, rfl⟩
  simp only [Bool.and_eq_true, beq_iff_eq, Bool.not_eq_true'] at hy
  obtain ⟨⟨h1, h2⟩, h3⟩ := hy
  intro pins s I
  obtain ⟨i, hi⟩ : ∃ i : Nat, N[i]? = some y := List.mem_iff_getElem?.mp (by simpa using hN)
  have hkd : X.env.scope.kind = .function := by rw [S.hsc]; exact S.kind
  refine WS.of (ps_setLc2 (i := i) S.calm (by rw [S.n]; exact S.nd) (by rw [S.n]; exact hi) (by rw [S.hsc]; exact h1) (sw_true hkd (by rw [S.hsc]; exact h1) (by simpa using h2) h3) pi_W ok hv pgb_W ptb_W pib_W pgb_W ptb_W peb_W hs hs1) ?_ pins s I
  refine lc2_run S ok.kind hn0 h o fun d v Hs' H' g ⟨δ', hd, p⟩ r => ?_
  obtain ⟨j, h5, rfl⟩ := hd.at
  obtain rfl : i = j := nodup_ix S.nd hi h5
  exact f.nx _ _ Hs' H' ((o.mono g).setD i r) g.ss p
end
/-! ### how many keys -/
section
variable {κ : Type} [DecidableEq κ]
theorem putsE_has (E : List (κ × V)) (q : κ) : (valV (putsE E) q).isSome = decide (q ∈ E.map (·.1)) := by
  suffices H : ∀ E : List (κ × V), (valV (putsE E.reverse) q).isSome = decide (q ∈ E.map (·.1)) by
    have := H E.reverse
    rw [List.reverse_reverse] at this
    rw [this]
    simp
  intro E
  induction E with
  | nil => rfl
  | cons p E ih =>
    obtain ⟨q', v⟩ := p
    rw [List.reverse_cons, putsE_snoc, valV_put]
    by_cases e : q = q'
    · rw [if_pos e]
      simp [e]
    · rw [if_neg e, ih]
      simp [e]
theorem putK_old {kvs : List (κ × V)} {q : κ} (v : V) (h : (valV kvs q).isSome = true) : (putK kvs q v).length = kvs.length := by
  unfold putK
  rw [valV_any, if_pos h, List.length_map]
/-- as many as there are, where none is there twice -/
theorem putsE_count (E : List (κ × V)) : ((putsE E).length = E.length) ↔ (E.map (·.1)).Nodup := by
  suffices H : ∀ E : List (κ × V), ((putsE E.reverse).length = E.length) ↔ (E.map (·.1)).Nodup by
    have := H E.reverse
    rw [List.reverse_reverse, List.length_reverse] at this
    rw [this, List.map_reverse]
    exact (List.reverse_perm _).nodup_iff
  intro E
  induction E with
  | nil => simp [putsE]
  | cons p E ih =>
    obtain ⟨q, v⟩ := p
    rw [List.reverse_cons, putsE_snoc]
    have hl := putsE_len E.reverse
    rw [List.length_reverse] at hl
    have hh := putsE_has E.reverse q
    rw [List.map_cons, List.nodup_cons]
    by_cases e : q ∈ E.map (·.1)
    · have h1 : (valV (putsE E.reverse) q).isSome = true := by rw [hh]; simpa using e
      rw [putK_old v h1]
      constructor
      · intro z
        rw [List.length_cons] at z
        omega
      · intro z
        exact absurd e z.1
    · have h1 : valV (putsE E.reverse) q = none := by
        have : (valV (putsE E.reverse) q).isSome = false := by rw [hh]; simpa using e
        exact Option.isNone_iff_eq_none.mp (by simpa using this)
      rw [putK_new v h1, List.length_append, List.length_singleton, List.length_cons]
      constructor
      · intro z
        exact ⟨e, ih.mp (by omega)⟩
      · intro z
        have := ih.mpr z.2
        omega
end
end DL

/-! DL25: an own list made by list(..), its items changed: x[i] = v, x.insert(i, v), x.pop(i), x[a:b] = y; its slices. -/
namespace DL
open PySem PySem.Spec PyProof.Rows L2
section
variable {K : PySem.W.Frag} {H : Hp}
theorem RpAll.erase : ∀ {ds : List Da} {vs : List V}, RpAll K H ds vs → ∀ j, RpAll K H (ds.eraseIdx j) (vs.eraseIdx j)
  | _, _, .nil, _ => .nil
  | _, _, .cons _ t, 0 => t
  | _, _, .cons r t, j + 1 => .cons r (t.erase j)
theorem RpAll.takes : ∀ {ds : List Da} {vs : List V}, RpAll K H ds vs → ∀ j, RpAll K H (ds.take j) (vs.take j)
  | _, _, .nil, j => by rw [List.take_nil, List.take_nil]; exact .nil
  | _, _, .cons _ _, 0 => .nil
  | _, _, .cons r t, j + 1 => .cons r (t.takes j)
theorem RpAll.drops : ∀ {ds : List Da} {vs : List V}, RpAll K H ds vs → ∀ j, RpAll K H (ds.drop j) (vs.drop j)
  | _, _, .nil, j => by rw [List.drop_nil, List.drop_nil]; exact .nil
  | _, _, .cons r t, 0 => .cons r t
  | _, _, .cons _ t, j + 1 => t.drops j
end
section
variable {M : Md} {X : Cx} {k : Nat} {N : List Str} {sc cs : Scope} {δ δ' : Sg} {m : Bool} {Φ Ψ : Da → Prop} {x y : Str} {pos p2 p3 p4 apos : Pos} {a b e o c tg it lo hi : Expr} {es : List Expr} {nx bk ct : Sg → Prop} {rt : Da → Prop}
/-- x = list(e) -/
theorem ds_ownOf (S : Sc M X k N sc cs) {f : Str} (hm : M.mg f = none) (hv : bootBuiltins f = some (.type "list")) (hgl : glB sc f = true) (h : DAt X [e] δ fun ds => ∃ l, (ds = [.lst l] ∨ ds = [.tup l]) ∧ ∃ δ', Ss N δ x (some (.ol l)) δ' ∧ nx δ') (hl : locB cs x = true) (hN : N.contains x = true)
    (he : starEach [e] X.env = (false, eval e X.env) :: starEach [] X.env := by rfl) (hpl : (backTo p4 (starEach [] X.env)).any (·.1) = false := by rfl)
    (hs : swapsWith (.Call (.Name f p3) [e] [] p4) (some (.Name x p2)) pos.line X.env = pure false := by rfl) : DS X (.Assign [.Name x p2] (.Call (.Name f p3) [e] [] p4) pos) δ nx rt bk ct := .mk fun Bs B Hs H σ o D fi => by
  obtain ⟨i, hi⟩ : ∃ i : Nat, N[i]? = some x := List.mem_iff_getElem?.mp (by simpa using hN)
  obtain ⟨g1, g2, g3⟩ := glB_ok hgl
  refine WS.of (ps_set (i := i) (by rw [S.n]; exact S.nd) (by rw [S.n]; exact hi) (S.fn x hl).1 (pe_callTy rCW_ok (by show X.env.scope.names.lookup f = _; rw [S.hsc]; exact g1) (by rw [S.hmg]; exact hm) hv pa_W g3 g2 he hpl) hs (S.fn x hl).2) ?_
  refine h Bs B Hs H σ o _ fun ds vs Hs1 H1 g ⟨l, hd, δ', h1, h2⟩ r _ => ?_
  obtain ⟨j, h3, rfl⟩ := h1.at
  obtain rfl : i = j := nodup_ix S.nd hi h3
  have o1 := o.mono g
  rcases hd with rfl | rfl
  · cases r with
    | cons r t =>
      cases t
      obtain ⟨a, ws, rfl, ha, ra⟩ := r.lst_inv
      exact rCW_of call_list_of ⟨a, ws, rfl, .inl (.of (g.sub _ _ ha)), fun p hp => fi.nx _ _ Hs1 _ (o1.setO i (s0 := .ol l) hp ⟨p, ws, rfl, g.sub.free hp, upd_same, ra⟩) g.ss h2⟩
  · cases r with
    | cons r t =>
      cases t
      obtain ⟨a, ws, rfl, ha, ra⟩ := r.tup_inv
      exact rCW_of call_list_of ⟨a, ws, rfl, .inr (.of (g.sub _ _ ha)), fun p hp => fi.nx _ _ Hs1 _ (o1.setO i (s0 := .ol l) hp ⟨p, ws, rfl, g.sub.free hp, upd_same, ra⟩) g.ss h2⟩
/-- x[b] = e, x an own list -/
theorem ds_itemL (S : Sc M X k N sc cs) {l : List Da} (hg : Gt N δ x (.ol l)) (hv : visB sc x = true) (h : DE X e δ fun d => DE X b δ fun y => ∃ i j, y = .int i ∧ ixN l.length i = some j ∧ ∃ δ', Ss N δ x (some (.ol (l.set j d))) δ' ∧ nx δ')
    (hs : swapsWithSole [.Subscript (.Name x p2) b p3] e pos.line X.env = pure false := by rfl) (hw : swappedStores [.Subscript (.Name x p2) b p3] e X.env = pure none := by rfl)
    (h1 : (assignEach [.Subscript (.Name x p2) b p3] X.env).map (·.2) = [assign (.Subscript (.Name x p2) b p3) X.env] := by rfl)
    (ha : ∀ v, assign (.Subscript (.Name x p2) b p3) X.env v = (do
      let ov ← holding [v] (eval (.Name x p2) X.env)
      let iv ← holding [v, ov] (eval b X.env)
      standAt p3
      holding [v, ov, iv] (setItem ov iv v)
      release [v, ov, iv] []) := by intro _; rfl) : DS X (.Assign [.Subscript (.Name x p2) b p3] e pos) δ nx rt bk ct := .mk fun Bs B Hs H σ o D f => by
  obtain ⟨i, hi, h2⟩ := hg.at
  obtain ⟨v, h3, p, vs, rfl, e1, e2, r⟩ := o.slot i _ h2
  obtain ⟨v1, v2, v3⟩ := visB_ok hv
  refine WS.of (ps_asg pe_W (pg_sub (pe_var (i := i) (by rw [S.n]; exact hi) (by rw [S.hsc]; exact v1) v2 v3) pe_W set_list ha) hs hw h1)
    (h Bs B Hs H σ o _ fun d w Hs1 H1 g1 q1 r1 => ⟨_, h3, q1 Bs B Hs1 H1 σ (o.mono g1) _ fun y z Hs2 H2 g2 ⟨n, j, ey, hj, δ', hd, pd⟩ r2 => ?_⟩)
  subst ey
  cases r2.atom
  obtain ⟨j2, h5, rfl⟩ := hd.at
  obtain rfl : i = j2 := nodup_ix S.nd hi h5
  have g := g1.trans g2
  have o1 := o.mono g
  have e3 := g.no p (by rw [e2]; exact fun z => nomatch z) e1
  exact ⟨p, vs, n, j, rfl, rfl, g.hh _ _ e2, by rw [← r.len]; exact hj, f.nx _ _ Hs2 _ (o1.chg (s1 := .ol (l.set j d)) h2 rfl rfl h3 e3 ⟨p, vs.set j w, rfl, e3, upd_same, RpAll.set j (r.mono g.ss) (Rp.mono g2.ss r1)⟩) g.ss pd⟩
/-- x.insert(a, e) -/
theorem ds_insert (S : Sc M X k N sc cs) {l : List Da} (hg : Gt N δ x (.ol l)) (hv : visB sc x = true) (hz : l.length < 1000000) (h : DE X a δ fun y => DE X e δ fun d => ∃ i, y = .int i ∧ 0 ≤ i ∧ i < 1000000 ∧ ∃ δ', Ss N δ x (some (.ol (l.take i.toNat ++ [d] ++ l.drop i.toNat))) δ' ∧ nx δ')
    (hfew : ((backTo p3 (starEach [a, e] X.env)).all (fun x => !x.1) && (backToKw p3 (keywordEach [] X.env)).all (fun x => x.1.isSome)
      && decide ([a, e].length + ([] : List Keyword).length + (if ([] : List Keyword).isEmpty then 0 else 1) < 30)) = true := by rfl)
    (hline : (apos.endLine == p3.line) = true := by rfl) (hst : starEach [a, e] X.env = (false, eval a X.env) :: starEach [e] X.env := by rfl) (hst2 : starEach [e] X.env = (false, eval e X.env) :: starEach [] X.env := by rfl) (hpl : ((backTo p3 (starEach [e] X.env)).any fun x => x.1) = false := by rfl) :
    DS X (.Expr (.Call (.Attribute (.Name x p2) "insert" apos) [a, e] [] p3) pos) δ nx rt bk ct := .mk fun Bs B Hs H σ o D f => by
  obtain ⟨i, h1, h2⟩ := hg.at
  obtain ⟨v, h3, p, vs, rfl, e1, e2, r⟩ := o.slot i _ h2
  obtain ⟨v1, v2, v3⟩ := visB_ok hv
  refine WS.of (ps_expr (pe_bm PySem.F.plainAttrs_list PySem.F.slot_list_insert PySem.F.type_list_insert mt_insert (pe_var (i := i) (by rw [S.n]; exact h1) (by rw [S.hsc]; exact v1) v2 v3) (pa_cons pe_W (pa_cons pe_W pa_nil hst2) hst) rfl hfew hline hst hpl) rfl)
    ⟨_, h3, .inl ⟨rfl, _, .of e2⟩, h Bs B Hs H σ o _ fun y z Hs1 H1 g1 hy ry => hy Bs B Hs1 H1 σ (o.mono g1) _ fun d w Hs' H' g2 ⟨n, ey, hn0, hn1, δ', hd, pd⟩ rb => ?_⟩
  subst ey
  cases ry.atom
  obtain ⟨j, h5, rfl⟩ := hd.at
  obtain rfl : i = j := nodup_ix S.nd h1 h5
  have g := g1.trans g2
  have o1 := o.mono g
  have e3 := g.no p (by rw [e2]; exact fun z => nomatch z) e1
  have hr := r.mono g.ss
  refine ⟨p, vs, n, _, rfl, rfl, g.hh _ _ e2, ?_, hn0, by omega, f.nx _ _ Hs' _ (o1.chg (s1 := .ol (l.take n.toNat ++ [d] ++ l.drop n.toNat)) h2 rfl rfl h3 e3 ⟨p, _, rfl, e3, upd_same, ((hr.takes _).app (.cons rb .nil)).app (hr.drops _)⟩) g.ss pd⟩
  have := r.len
  have : sizeLine = 16777216 := sizeLine_eq
  omega
/-- x.pop(e) -/
theorem ds_popAt (S : Sc M X k N sc cs) {l : List Da} (hg : Gt N δ x (.ol l)) (hv : visB sc x = true) (h : DE X e δ fun y => ∃ i : Nat, y = .int (i : Int) ∧ i < l.length ∧ l.length < 1000000 ∧ ∃ δ', Ss N δ x (some (.ol (l.eraseIdx i))) δ' ∧ nx δ')
    (hfew : ((backTo p3 (starEach [e] X.env)).all (fun x => !x.1) && (backToKw p3 (keywordEach [] X.env)).all (fun x => x.1.isSome)
      && decide ([e].length + ([] : List Keyword).length + (if ([] : List Keyword).isEmpty then 0 else 1) < 30)) = true := by rfl)
    (hline : (apos.endLine == p3.line) = true := by rfl) (hst : starEach [e] X.env = (false, eval e X.env) :: starEach [] X.env := by rfl) :
    DS X (.Expr (.Call (.Attribute (.Name x p2) "pop" apos) [e] [] p3) pos) δ nx rt bk ct := .mk fun Bs B Hs H σ o D f => by
  obtain ⟨i, h1, h2⟩ := hg.at
  obtain ⟨v, h3, p, vs, rfl, e1, e2, r⟩ := o.slot i _ h2
  obtain ⟨v1, v2, v3⟩ := visB_ok hv
  refine WS.of (ps_expr (pe_bm PySem.F.plainAttrs_list PySem.F.slot_list_pop PySem.F.type_list_pop mt_popAt (pe_var (i := i) (by rw [S.n]; exact h1) (by rw [S.hsc]; exact v1) v2 v3) (pa_cons pe_W pa_nil hst) rfl hfew hline hst rfl) rfl)
    ⟨_, h3, .inl ⟨rfl, _, .of e2⟩, h Bs B Hs H σ o _ fun y z Hs' H' g ⟨n, ey, hn, hz, δ', hd, pd⟩ ry => ?_⟩
  subst ey
  cases ry.atom
  obtain ⟨j, h5, rfl⟩ := hd.at
  obtain rfl : i = j := nodup_ix S.nd h1 h5
  have o1 := o.mono g
  have e3 := g.no p (by rw [e2]; exact fun z => nomatch z) e1
  have hr := r.mono g.ss
  have hl := r.len
  refine ⟨p, vs, n, n, vs[n], rfl, rfl, g.hh _ _ e2, by omega, by omega, ?_, List.getElem?_eq_getElem (by omega), f.nx _ _ Hs' _ (o1.chg (s1 := .ol (l.eraseIdx n)) h2 rfl rfl h3 e3 ⟨p, _, rfl, e3, upd_same, hr.erase n⟩) g.ss pd⟩
  unfold seqIndex?
  simp
  omega
/-- a slice of an own list -/
theorem de_sliceO (S : Sc M X k N sc cs) {l : List Da} (hg : Gt N δ x (.ol l)) (hv : visB sc x = true) (h : DP X (some lo) δ fun u => DP X (some hi) δ fun w => Φ (.lst (cutL l u w))) : DM X m (.Subscript (.Name x p3) (.Slice (some lo) (some hi) none p2) pos) δ Φ := DM.of <| .mk fun Bs B Hs H σ o Q q => by
  obtain ⟨i, h1, h2⟩ := hg.at
  obtain ⟨v, h3, p, vs, rfl, e1, e2, r⟩ := o.slot i _ h2
  obtain ⟨v1, v2, v3⟩ := visB_ok hv
  refine WE.of (pe_slice rSW_ok (pe_var (i := i) (by rw [S.n]; exact h1) (by rw [S.hsc]; exact v1) v2 v3) po_W po_W) ⟨_, h3, h.run o fun u Hs2 H2 g2 h2 => h2.run (o.mono g2) fun w Hs3 H3 g3 p3 => ?_⟩
  have g := g2.trans g3
  exact rSW_of sl_list ⟨p, vs, rfl, .of (g.hh _ _ e2), fun b hb => q _ _ _ _ (g.trans (Go.new g.sub hb)) p3 (.lst upd_same ((cutL_rp (r.mono g.ss)).mono (same_upd (g.sub.free hb))))⟩
end
end DL

/-! DL26: x[a:b] = y for an own list x, b beyond its end too. -/
namespace DL
open PySem PySem.Spec PyProof.Rows L2
theorem bounds_cut {a c n : Nat} (hac : a ≤ c) (ha : a ≤ n) : sliceBounds (some (a : Int)) (some (c : Int)) none n = ((a : Int), ((min c n : Nat) : Int), 1) := by
  simp only [sliceBounds, Option.getD_none]
  have h1 : ¬ ((a : Int) < 0) := by omega
  have h2 : ¬ ((c : Int) < 0) := by omega
  simp only [h1, h2, if_false, show (1 : Int) > 0 by decide, if_true]
  congr 1
  · omega
  · congr 1; omega
section
variable {prog : Program} {w : World} {A : Around} {E : Value → Shared → Prop} {s : Shared}
/-- the same walk as for a slice that ends within the list, its end cut at the length -/
theorem setItem_cut {l b sl : Addr} {items new : Array Value} {n n2 : Nat} {vl vu : Value} {a c : Nat} {Q : Unit → Shared → Prop}
    (e : s.heap.get? l = some { cls := .type "list", data := .seq items n }) (e2 : s.heap.get? b = some { cls := .type "list", data := .seq new n2 }) (hne : l ≠ b)
    (hs : s.heap.IsSliceOf sl vl vu .none) (pl : IsPart vl (some (a : Int))) (pu : IsPart vu (some (c : Int))) (hac : a ≤ c) (ha : a ≤ items.size)
    (hsz : items.size + new.size ≤ sizeLine) (h : Q () { s with heap := s.heap.update l (Obj.mapSeq fun xs => xs.extract 0 a ++ new ++ xs.extract (min c items.size) xs.size) }) :
    wpAny (model prog w) A (setItem (.ref l) (.ref sl) (.ref b)) Q E s := by
  have hl : s.heap.IsList l items := PySem.IsL.isList e
  have hb : s.heap.IsList b new := PySem.IsL.isList e2
  obtain ⟨os, hos, hcs, hds⟩ := id hs
  have hTs : s.TypeIs (.ref sl) "slice" := ⟨os, hos, hcs⟩
  have hstep : ¬ ((rawPart none == rawInt 0) = true) := Bool.false_ne_true
  have hsame : Builtin.List.listSameRef (.ref l) (.ref b) = false := by
    unfold Builtin.List.listSameRef
    exact beq_eq_false_iff_ne.mpr hne
  have hmax : (max (a : Int) ((min c items.size : Nat) : Int)).toNat = min c items.size := by omega
  have hz' : ((fun xs : Array Value => xs.extract 0 a ++ new ++ xs.extract (min c items.size) xs.size) items).size ≤ sizeLine + 1 := by
    simp only [Array.size_append, Array.size_extract]
    omega
  unfold setItem
  try with_reducible refine wpAny_holding ?_
  first | refine wpAny_bind (wpAny_pure ?_) | skip
  refine wpAny_bind (wpAny_sequenceKey hl.typeIs (by decide) ?_)
  refine wpAny_bind (wpAny_callSpecial?_slot (name := Str.ofString "__setitem__") hl.typeIs slot_list_setitem
    (wpAny_call_entry slot_list_setitem hl.typeIs entry_list_setitem ?_ (args_list_setitem _ _ _)))
  show wpAny _ _ (Builtin.List.listSubscript? (.ref sl) >>= _) _ _ s
  refine wpAny_bind ?_
  unfold Builtin.List.listSubscript?
  refine wpAny_bind (wpAny_specialOf hTs slice_no_index ?_)
  simp only [Option.isNone_none, if_true]
  refine wpAny_pure ?_
  show wpAny _ _ (typeOf (.ref sl) >>= _) _ _ s
  refine wpAny_bind (wpAny_typeOf hTs ?_)
  first
    | rw [if_neg (by decide)]
    | refine PySem.W.KFB.if_not (by decide) ?_
  rw [listSliceParts_eq]
  refine wpAny_bind (wpAny_bind (wpAny_field hos hds (x := .none) rfl (wpAny_bind (wpAny_listPart .none ?_))))
  rw [if_neg hstep]
  refine wpAny_bind (wpAny_field hos hds (x := vl) rfl (wpAny_bind (wpAny_listPart pl ?_)))
  refine wpAny_bind (wpAny_field hos hds (x := vu) rfl (wpAny_bind (wpAny_listPart pu (wpAny_pure ?_))))
  first
    | simp only [hsame, Bool.false_eq_true, if_false]
    | refine PySem.W.KFB.if_not hsame ?_
    | (dsimp only
       rw [if_neg (by rw [hsame]; exact Bool.false_ne_true)])
  refine wpAny_bind (m := Builtin.List.listAllItems (.ref b) "must assign iterable to extended slice") ?_
  unfold Builtin.List.listAllItems
  refine wpAny_bind (wpAny_typeOf hb.typeIs ?_)
  first
    | refine PySem.W.KFB.if_so (by decide) ?_
    | rw [if_pos (by decide)]
    | simp only [beq_self_eq_true, Bool.true_or, if_true]
  unfold Builtin.List.listItems
  refine wpAny_bind (wpAny_seqItems e2 rfl (wpAny_pure ?_))
  refine wpAny_bind (wpAny_bind (wpAny_seqItems e rfl (wpAny_pure ?_)))
  refine wpAny_bind (wpAny_of_eq ((sliceIndices_raw (some (a : Int)) (some (c : Int)) none items.size (by simp)).trans (congrArg (pure : Int × Int × Int → Sem (Int × Int × Int)) (bounds_cut hac ha))) ?_)
  show wpAny _ _ (if ((1 : Int) == 1) = true then _ else _) _ _ s
  rw [if_pos (by decide)]
  refine wpAny_bind (wpAny_rule ?_)
  first
    | simp only [notLongL hsz, Bool.false_eq_true, if_false]
    | refine PySem.W.KFB.if_not (notLongL hsz) ?_
  first | refine wpAny_bind (wpAny_pure ?_) | skip
  show wpAny _ _ (updateSeq l (fun xs => xs.extract 0 ((a : Int)).toNat ++ new ++ xs.extract (max (a : Int) ((min c items.size : Nat) : Int)).toNat xs.size) >>= _) _ _ s
  rw [hmax, Int.toNat_natCast]
  refine wpAny_bind (wpAny_updateSeq (hz := Nat.le_trans (Nat.le_add_right _ _) hsz) (_hz' := hz') e rfl ?_)
  refine wpAny_bind (wpAny_letGo ?_)
  first
    | exact wpAny_bind (wpAny_pure (wpAny_pure ⟨.none, rfl, wpAny_pure h⟩))
    | exact wpAny_pure ⟨.none, rfl, wpAny_pure h⟩
end
section
variable {X : Cx} {o lo hi : Expr} {to : TE} {tl th : TO} {pos p2 : Pos}
theorem set_cut {pins : List (Addr × Obj)} {s : Shared} {σ : L2.St} {H : Hp} {l b sl : Addr} {xs ys : List V} {a c : Nat} {vl vu : Value} {Q : Unit → Shared → Prop} (I : Inv X pins σ H s)
    (hH : H l = some (.lst xs)) (hB : H b = some (.lst ys)) (hne : l ≠ b) (hs : s.heap.IsSliceOf sl vl vu .none) (pl : IsPart vl (some (a : Int))) (pu : IsPart vu (some (c : Int))) (hac : a ≤ c) (ha : a ≤ xs.length)
    (hz : xs.length + ys.length ≤ sizeLine) (h : ∀ s', Inv X pins σ (upd H l (.lst (xs.take a ++ ys ++ xs.drop c))) s' → Q () s') :
    wpAny (model X.prog X.w) X.A (setItem (.ref l) (.ref sl) (.ref b)) Q X.xe s := by
  obtain ⟨z, its, n, r, hl, e⟩ := I.lstM hH
  obtain ⟨z2, its2, n2, r2, hl2, e2⟩ := I.lstM hB
  refine setItem_cut (a := a) (c := c) e e2 hne hs pl pu hac (by rw [List.size_toArray]; omega) (by rw [List.size_toArray, List.size_toArray]; omega) (h _ ?_)
  refine I.lset (its' := its.take a ++ its2 ++ its.drop c) (t' := s.toks) hH e ?_ (Vals.append (Vals.append (r.take _) r2) (r.drop _)) ?_
  · have := splice_eq its its2 a (min c its.length)
    have e3 : its.drop (min c its.length) = its.drop c := by
      by_cases q : c ≤ its.length
      · rw [Nat.min_eq_left q]
      · rw [Nat.min_eq_right (by omega), List.drop_of_length_le (Nat.le_refl _), List.drop_of_length_le (by omega)]
    rw [e3] at this
    rw [List.size_toArray] at *
    exact this
  · rw [List.length_append, List.length_append, List.length_take, List.length_drop]
    omega
def gCut (to : TE) (tl th : TO) : TG := fun v σ H Q => to σ H fun o H1 => tl σ H1 fun l H2 => th σ H2 fun u H3 => ∃ (p b : Addr) (xs ys : List V) (a c : Nat), o = .ref p ∧ v = .ref b ∧ l = some (a : Int) ∧ u = some (c : Int) ∧ H3 p = some (.lst xs) ∧ H3 b = some (.lst ys) ∧ p ≠ b ∧ a ≤ c ∧ a ≤ xs.length ∧
  xs.length + ys.length ≤ sizeLine ∧ Q σ (upd H3 p (.lst (xs.take a ++ ys ++ xs.drop c)))
theorem pg_cut (ho : PE X o to) (hl : PO X (some lo) tl) (hu : PO X (some hi) th)
    (ha : ∀ v, assign (.Subscript o (.Slice (some lo) (some hi) none p2) pos) X.env v = (do
      let ov ← holding [v] (eval o X.env)
      let iv ← holding [v, ov] (eval (.Slice (some lo) (some hi) none p2) X.env)
      standAt pos
      holding [v, ov, iv] (setItem ov iv v)
      release [iv, v, ov] []) := by intro _; rfl) : PG X (.Subscript o (.Slice (some lo) (some hi) none p2) pos) (gCut to tl th) := by
  refine ⟨fun pins s σ H v u Q I r h => ?_⟩
  rw [ha]
  refine wpAny_bind (wpAny_holding (thn (ho.run pins s σ H _ I h) fun ov s1 ⟨x, H1, I1, r1, q1⟩ => ?_))
  refine wpAny_bind (wpAny_holding ?_)
  refine wpAny_Slice (thn (hl.run pins s1 σ H1 _ I1 q1) fun vl s2 ⟨l, H2, I2, pl, q2⟩ => thn (hu.run pins s2 σ H2 _ I2 q2) fun vu s3 ⟨w, H3, I3, pu, q3⟩ => ?_)
  rw [evalPart_none]
  refine wpAny_pure ?_
  have I4 : Inv X pins σ H3 { s3 with heap := s3.heap.push { cls := .type "slice", data := .fields #[vl, vu, .none] } } := I3.kept (t' := s3.toks) fun b ob q => Heap.get?_push_of_some _ q
  obtain ⟨p, b, xs, ys, a, c, rfl, rfl, rfl, rfl, hp, hb, hne, hac, hal, hz, hq⟩ := q3
  cases r
  cases r1
  refine wpAny_bind (wpAny_standAt (wpAny_bind (wpAny_holding ?_)))
  exact set_cut I4 hp hb hne (Heap.IsSliceOf.new ..) pl pu hac hal hz fun s5 I5 => wpAny_release ⟨σ, _, I5, hq⟩
end
section
variable {M : Md} {X : Cx} {k : Nat} {N : List Str} {sc cs : Scope} {δ δ' : Sg} {m : Bool} {Φ Ψ : Da → Prop} {x y : Str} {pos p2 p3 p4 apos : Pos} {a b e o c tg it lo hi : Expr} {es : List Expr} {nx bk ct : Sg → Prop} {rt : Da → Prop}
/-- x[lo:hi] = e, x an own list, e another -/
theorem ds_sliceL (S : Sc M X k N sc cs) {l : List Da} (hg : Gt N δ x (.ol l)) (hv : visB sc x = true) (hz : l.length < 1000000) (h : DE X e δ fun d => ∃ l2 : List Da, d = .lst l2 ∧ l2.length < 1000000 ∧ DP X (some lo) δ fun u => DP X (some hi) δ fun w => ∃ a c : Nat, u = some (a : Int) ∧ w = some (c : Int) ∧ a ≤ c ∧ a ≤ l.length ∧ ∃ δ', Ss N δ x (some (.ol (l.take a ++ l2 ++ l.drop c))) δ' ∧ nx δ')
    (hs : swapsWithSole [.Subscript (.Name x p2) (.Slice (some lo) (some hi) none p4) p3] e pos.line X.env = pure false := by rfl) (hw : swappedStores [.Subscript (.Name x p2) (.Slice (some lo) (some hi) none p4) p3] e X.env = pure none := by rfl)
    (h1 : (assignEach [.Subscript (.Name x p2) (.Slice (some lo) (some hi) none p4) p3] X.env).map (·.2) = [assign (.Subscript (.Name x p2) (.Slice (some lo) (some hi) none p4) p3) X.env] := by rfl)
    (ha : ∀ v, assign (.Subscript (.Name x p2) (.Slice (some lo) (some hi) none p4) p3) X.env v = (do
      let ov ← holding [v] (eval (.Name x p2) X.env)
      let iv ← holding [v, ov] (eval (.Slice (some lo) (some hi) none p4) X.env)
      standAt p3
      holding [v, ov, iv] (setItem ov iv v)
      release [iv, v, ov] []) := by intro _; rfl) : DS X (.Assign [.Subscript (.Name x p2) (.Slice (some lo) (some hi) none p4) p3] e pos) δ nx rt bk ct := .mk fun Bs B Hs H σ o D f => by
  obtain ⟨i, hi, h2⟩ := hg.at
  obtain ⟨v, h3, p, vs, rfl, e1, e2, r⟩ := o.slot i _ h2
  obtain ⟨v1, v2, v3⟩ := visB_ok hv
  refine WS.of (ps_asg pe_W (pg_cut (pe_var (i := i) (by rw [S.n]; exact hi) (by rw [S.hsc]; exact v1) v2 v3) po_W po_W ha) hs hw h1)
    (h Bs B Hs H σ o _ fun d w Hs1 H1 g1 ⟨l2, ed, hz2, h5⟩ r1 => ⟨_, h3, h5.run (o.mono g1) fun u Hs2 H2 g2 h6 => h6.run ((o.mono g1).mono g2) fun z Hs3 H3 g3 ⟨n1, n2, eu, ez, hle, hl1, δ', hd, pd⟩ => ?_⟩)
  subst ed eu ez
  obtain ⟨b2, ws, rfl, hb2, rb⟩ := r1.lst_inv
  obtain ⟨j2, h7, rfl⟩ := hd.at
  obtain rfl : i = j2 := nodup_ix S.nd hi h7
  have g := (g1.trans g2).trans g3
  have o1 := o.mono g
  have e3 := g.no p (by rw [e2]; exact fun z => nomatch z) e1
  have hb3 := (g2.trans g3).ss _ _ hb2
  have hl := r.len
  have hl2 := rb.len
  have hsz : sizeLine = 16777216 := sizeLine_eq
  have hr := r.mono g.ss
  refine ⟨p, b2, vs, ws, n1, n2, rfl, rfl, rfl, rfl, g.hh _ _ e2, g.sub _ _ hb3, fun z => ?_, hle, by omega, by omega, f.nx _ _ Hs3 _ (o1.chg (s1 := .ol (l.take n1 ++ l2 ++ l.drop n2)) h2 rfl rfl h3 e3 ⟨p, _, rfl, e3, upd_same, ((hr.takes _).app (rb.mono (g2.trans g3).ss)).app (hr.drops _)⟩) g.ss pd⟩
  rw [z, hb3] at e3
  cases e3
/-- len(x), x an own list -/
theorem de_lenO (S : Sc M X k N sc cs) {l : List Da} {f : Str} (hm : M.mg f = none) (hb : bootBuiltins f = some (.builtin "len")) (hgl : glB sc f = true) (hg : Gt N δ x (.ol l)) (hv : visB sc x = true) (h : Φ (.int l.length))
    (he : starEach [.Name x p3] X.env = (false, eval (.Name x p3) X.env) :: starEach [] X.env := by rfl) (hpl : (backTo pos (starEach [] X.env)).any (·.1) = false := by rfl) : DM X m (.Call (.Name f p2) [.Name x p3] [] pos) δ Φ := DM.of <| .mk fun Bs B Hs H σ o Q q => by
  obtain ⟨i, h1, h2⟩ := hg.at
  obtain ⟨v, h3, p, vs, rfl, e1, e2, r⟩ := o.slot i _ h2
  obtain ⟨v1, v2, v3⟩ := visB_ok hv
  obtain ⟨g1, g2, g3⟩ := glB_ok hgl
  refine WE.of (pe_callB rCW_ok (by show X.env.scope.names.lookup f = _; rw [S.hsc]; exact g1) (by rw [S.hmg]; exact hm) hb (pa_cons (pe_var (i := i) (by rw [S.n]; exact h1) (by rw [S.hsc]; exact v1) v2 v3) pa_nil he) g3 g2 he hpl) ⟨_, h3, ?_⟩
  exact rCW_of call_len_seq ⟨p, vs, rfl, .inl (.of e2), q _ _ Hs H (Go.refl o.sub) h (by rw [r.len]; exact .a _)⟩
end
end DL

/-! DL27: list(text); an own list made by + ; x not in (.., ..). -/
namespace DL
open PySem PySem.Spec PyProof.Rows L2
section
variable {X : Cx}
theorem signs_vals : ∀ {cs : List Nat} {us : List Value}, us.length = cs.length → (∀ (j : Nat) (v : Value), us[j]? = some v → ∃ (c : Nat) (u : Tok), cs[j]? = some c ∧ v = .str ⟨#[c]⟩ u) → Vals (cs.map fun c => V.str ⟨#[c]⟩) us
  | [], [], _, _ => .nil
  | c :: cs, u :: us, hl, h => by
    obtain ⟨d, t, e1, e2⟩ := h 0 u rfl
    have e1' : c = d := Option.some.inj e1
    subst e1' e2
    exact .cons ⟨t, rfl⟩ (signs_vals (by simpa using hl) fun j v e => h (j + 1) v e)
theorem call_listS (hcalm : X.calm = true) : CallR X (.type "list") (fun xs H Q => ∃ x : Str, xs = [.str x] ∧ x.length ≤ sizeLine ∧ ∀ p, H p = none → Q (.ref p) (upd H p (.lst (x.cps.toList.map fun c => V.str ⟨#[c]⟩)))) := by
  intro pins s σ H xs us Q I r q
  obtain ⟨x, ex, hx, q⟩ := q
  subst ex
  obtain ⟨u, eu, rx⟩ := vals1 r
  subst eu
  obtain ⟨t, rfl⟩ := rx
  refine call_list_str (I.ok.hd hcalm) x t (hn := hx) fun h' tk acc c' hk hS hacc => ?_
  have hv : Vals (x.cps.toList.map fun c => V.str ⟨#[c]⟩) acc.toList := signs_vals (by rw [Array.length_toList, Array.length_toList]; exact hacc.1) fun j v e => by
    obtain ⟨c, u, h1, h2⟩ := hacc.2 j v (by rw [← Array.getElem?_toList]; exact e)
    exact ⟨c, u, by rw [Array.getElem?_toList]; exact h1, h2⟩
  refine ⟨.ref s.heap.objs.size, upd H s.heap.objs.size (.lst (x.cps.toList.map fun c => V.str ⟨#[c]⟩)), I.laid (t' := tk) hk (Nat.le_refl _)
    (show ObjOk X.prog X.w _ _ _ (.lst (x.cps.toList.map fun c => V.str ⟨#[c]⟩)) from ⟨by rw [List.length_map, Array.length_toList]; exact hx, acc.toList, c', hv, by rw [Array.toArray_toList]; exact hS⟩), rfl, q _ (I.hok.fresh (Nat.le_refl _))⟩
theorem rp_signs {K : PySem.W.Frag} {H : Hp} : ∀ cs : List Nat, RpAll K H (cs.map fun c => Da.str ⟨#[c]⟩) (cs.map fun c => V.str ⟨#[c]⟩)
  | [] => .nil
  | c :: cs => .cons (.a _) (rp_signs cs)
end
section
variable {M : Md} {X : Cx} {k : Nat} {N : List Str} {sc cs : Scope} {δ δ' : Sg} {m : Bool} {Φ Ψ : Da → Prop} {x y : Str} {pos p2 p3 p4 apos : Pos} {a b e o c tg it lo hi : Expr} {es : List Expr} {nx bk ct : Sg → Prop} {rt : Da → Prop}
theorem bw_listS (S : Sc M X k N sc cs) {x : Str} (hx : x.length ≤ sizeLine) (h : Φ (.lst (x.cps.toList.map fun c => Da.str ⟨#[c]⟩))) : BW X (.type "list") [.str x] Φ := fun Hs H vs e rr Q q => by
  cases rr with
  | cons r t =>
    cases t
    cases r.atom
    exact rCW_of (call_listS S.calm) ⟨x, rfl, hx, fun b hb => q _ _ _ _ (Go.new e hb) h (.lst upd_same (rp_signs _))⟩
/-- x = a + b, lists: an own list -/
theorem ds_ownAdd (S : Sc M X k N sc cs) (h : DE X a δ fun x' => DE X b δ fun y' => ∃ l r : List Da, x' = .lst l ∧ y' = .lst r ∧ l.length + r.length ≤ sizeLine ∧ ∃ δ', Ss N δ x (some (.ol (l ++ r))) δ' ∧ nx δ') (hl : locB cs x = true) (hN : N.contains x = true)
    (hs : swapsWith (.BinOp a .Add b p3) (some (.Name x p2)) pos.line X.env = pure false := by rfl) : DS X (.Assign [.Name x p2] (.BinOp a .Add b p3) pos) δ nx rt bk ct := .mk fun Bs B Hs H σ o D fi => by
  obtain ⟨i, hi⟩ : ∃ i : Nat, N[i]? = some x := List.mem_iff_getElem?.mp (by simpa using hN)
  refine WS.of (ps_set (i := i) (by rw [S.n]; exact S.nd) (by rw [S.n]; exact hi) (S.fn x hl).1 (pe_op rW_ok pe_W pe_W) hs (S.fn x hl).2) ?_
  refine h Bs B Hs H σ o _ fun x' v Hs1 H1 g1 hb r1 => hb Bs B Hs1 H1 σ (o.mono g1) _ fun y' w Hs2 H2 g2 ⟨l, r, ex, ey, hz, δ', h1, h2⟩ r2 => ?_
  subst ex ey
  obtain ⟨j, h3, rfl⟩ := h1.at
  obtain rfl : i = j := nodup_ix S.nd hi h3
  have g := g1.trans g2
  have o1 := o.mono g
  obtain ⟨p1, vs, rfl, e1, a1⟩ := (Rp.mono g2.ss r1).lst_inv
  obtain ⟨p2, ws, rfl, e2, a2⟩ := r2.lst_inv
  refine rW_of op_cat ⟨p1, p2, vs, ws, rfl, rfl, g.sub _ _ e1, g2.sub _ _ e2, by rw [← a1.len, ← a2.len]; exact hz, fun p hp => ?_⟩
  exact fi.nx _ _ Hs2 _ (o1.setO i (s0 := .ol (l ++ r)) hp ⟨p, vs ++ ws, rfl, g.sub.free hp, upd_same, a1.app a2⟩) g.ss h2
/-- d not in (t1, t2, ..), of any depth up to 60 -/
theorem cmp_notIn {n k : Nat} {d : Da} {l : List Da} {Φ : Bool → Prop} (h1 : Shp n d) (h2 : Shp k (.tup l)) (h : Φ (!(l.map Da.py).any fun z => PyData.eqv z d.py)) (hn : n ≤ 60 := by decide) (hk : k ≤ 60 := by decide) (hd : PyData.depthAll (l.map Da.py) ≤ 60 := by decide) : CmpW Φ .NotIn d (.tup l) :=
  .notInDT h1.pl h2.pl (h1.shaped hn) (h2.shaped hk) hd h
end
end DL

/-! DL28: a < b < c < d as a test. -/
namespace DL
open PySem PySem.Spec PyProof.Rows L2
section
variable {X : Cx} {a b c d : Expr} {ta tb tc td : TE} {pos : Pos}
def tChain3 (r r' r'' : R2) (ta tb tc td : TE) : TT := fun σ H Q => ta σ H fun x H1 => tb σ H1 fun y H2 => r x y H2 fun z H3 => ∃ k, z = .bl k ∧
  (if k = true then tc σ H3 fun y' H4 => r' y y' H4 fun z' H5 => ∃ k', z' = .bl k' ∧ (if k' = true then td σ H5 fun y'' H6 => r'' y' y'' H6 fun z'' H7 => ∃ k'', z'' = .bl k'' ∧ Q k'' H7 else Q false H5) else Q false H3)
theorem pt_chain3 {op op' op'' : CmpOp} {r r' r'' : R2} (ho : OpR X (compareOp op) r) (ho' : OpR X (compareOp op') r') (ho'' : OpR X (compareOp op'') r'') (ha : PE X a ta) (hb : PE X b tb) (hc : PE X c tc) (hd : PE X d td)
    (hm : lastMarks [op, op', op''] [b, c, d] = false := by with_unfolding_all rfl) : PT X (.Compare a [op, op', op''] [b, c, d] pos) (tChain3 r r' r'' ta tb tc td) := by
  refine ⟨fun pins s σ H Q I h => ?_⟩
  refine isTrue_chain (thn (ha.run pins s σ H _ I h) fun v s1 ⟨x, H1, I1, r1, q1⟩ => test_link (thn (hb.run pins s1 σ H1 _ I1 q1) fun u s2 ⟨y, H2, I2, r2, q2⟩ =>
    thn (ho pins s2 σ H2 x y v u _ I2 r1 r2 q2) fun d s3 ⟨z, H3, I3, r3, k, e, q3⟩ => ?_)) hm
  subst e
  cases r3
  refine wpAny_truthy_bool ?_
  cases k with
  | false => exact ite_ff ⟨H3, I3, q3⟩
  | true =>
    refine ite_tt (test_link (thn (hc.run pins s3 σ H3 _ I3 q3) fun u' s4 ⟨y', H4, I4, r4, q4⟩ => thn (ho' pins s4 σ H4 y y' u u' _ I4 r2 r4 q4) fun d' s5 ⟨z', H5, I5, r5, k', e', q5⟩ => ?_))
    subst e'
    cases r5
    refine wpAny_truthy_bool ?_
    cases k' with
    | false => exact ite_ff ⟨H5, I5, q5⟩
    | true =>
      refine ite_tt (test_last (thn (hd.run pins s5 σ H5 _ I5 q5) fun u'' s6 ⟨y'', H6, I6, r6, q6⟩ => thn (ho'' pins s6 σ H6 y' y'' u' u'' _ I6 r4 r6 q6) fun d'' s7 ⟨z'', H7, I7, r7, k'', e'', q7⟩ => ?_))
      subst e''
      cases r7
      exact wpAny_truthy_bool ⟨H7, I7, q7⟩
end
section
variable {M : Md} {X : Cx} {k : Nat} {N : List Str} {sc cs : Scope} {δ : Sg} {pos : Pos} {a b c d : Expr}
theorem dt_chain3 (S : Sc M X k N sc cs) {Φ : Bool → Prop} {op op' op'' : CmpOp} (h : DV X a δ fun x => DV X b δ fun y => CmpW (fun z => (z = true → DV X c δ fun y' => CmpW (fun z' => (z' = true → DV X d δ fun y'' => CmpW Φ op'' y' y'') ∧ (z' = false → Φ false)) op' y y') ∧ (z = false → Φ false)) op x y)
    (hm : lastMarks [op, op', op''] [b, c, d] = false := by with_unfolding_all rfl) : DT X (.Compare a [op, op', op''] [b, c, d] pos) δ Φ := .mk fun Bs B Hs H σ o Q q =>
  WT.of (pt_chain3 rW_ok rW_ok rW_ok pe_W pe_W pe_W pe_W hm) (h Bs B Hs H σ o _ fun x v Hs1 H1 g1 hb r1 => hb Bs B Hs1 H1 σ (o.mono g1) _ fun y w Hs2 H2 g2 hc r2 =>
    cmp_run S hc (Rp.mono g2.hh r1) r2 fun z p => ⟨z, rfl, by
      cases z with
      | true => exact iteT (p.1 rfl Bs B Hs2 H2 σ ((o.mono g1).mono g2) _ fun y' w' Hs3 H3 g3 hd r3 => cmp_run S hd (Rp.mono g3.hh r2) r3 fun z' p' => ⟨z', rfl, by
          cases z' with
          | true => exact iteT (p'.1 rfl Bs B Hs3 H3 σ (((o.mono g1).mono g2).mono g3) _ fun y'' w'' Hs4 H4 g4 he r4 => cmp_run S he (Rp.mono g4.hh r3) r4 fun c p => ⟨c, rfl, q c Hs4 H4 (((g1.trans g2).trans g3).trans g4) p⟩)
          | false => exact iteF (q false Hs3 H3 ((g1.trans g2).trans g3) (p'.2 rfl))⟩)
      | false => exact iteF (q false Hs2 H2 (g1.trans g2) (p.2 rfl))⟩)
end
end DL

/-! DL29: sorted pairs that may stand twice, in a list or in a tuple: some order of them. -/
namespace DL
open PySem PySem.Spec PyProof.Rows L2
section
variable {prog : Program} {w : World} {A : Around} {E : Value → Shared → Prop} {s : Shared}
theorem coll_tup {t : Addr} {us : List Value} {R : List Value → Shared → Prop} (ht : IsTup s.heap t us.toArray) (hn : us.length ≤ sizeLine)
    (hR : R us { s with heap := (s.heap.push (seqObj "list" #[] 0)).update s.heap.objs.size (Obj.mapSeq (· ++ us.toArray)) }) : wpAny (model prog w) A (collect (.ref t)) R E s := by
  obtain ⟨ob, h1, h2, n, h3⟩ := id ht
  unfold collect
  refine wpAny_bind (wpAny_runValue (codeAny_builtin entry_proto_collect' (?_ : wpAny _ _ (do again (.builtin "list.__iadd__" ⟨[← newList [], .ref t], []⟩)) _ _ s)))
  refine wpAny_bind (wpAny_newList (wpAny_pure ⟨Code.quiet_builtin _ (by decide +kernel), codeAny_builtin entry_list_iadd' (?_ : wpAny _ _ (Builtin.List.listExtendWith (.ref s.heap.objs.size) (.ref t) (.ref s.heap.objs.size)) _ _ { s with heap := s.heap.push (seqObj "list" #[] 0) })⟩))
  unfold Builtin.List.listExtendWith
  have h4 : (s.heap.push (seqObj "list" #[] 0)).get? t = some ob := Heap.get?_push_of_some _ h1
  refine wpAny_bind (wpAny_typeOf (T := "tuple") ⟨ob, h4, h2⟩ ?_)
  have hy : (Value.type "tuple" == Value.type "tuple") = true := by rfl
  rw [if_pos (by rw [hy]; simp)]
  refine wpAny_bind (listItems_at h4 h3 (wpAny_bind (listItems_at (xs := #[]) (n := 0) (Heap.get?_push_size _ rfl) rfl ?_)))
  rw [if_neg (by simp)]
  refine wpAny_bind (listUpdate_at (xs := #[]) (n := 0) (Heap.get?_push_size _ rfl) rfl ?_ (Nat.zero_le _) (by show (#[] ++ us.toArray).size ≤ sizeLine + 1; simp only [Array.size_append, List.size_toArray, List.length_nil]; omega))
  refine wpAny_pure ?_
  show wpAny (model prog w) A (do
      let ob ← load s.heap.objs.size
      match ob.data with
      | .seq xs _ => pure xs.toList
      | _ => unsupported "internal:collect") R E { s with heap := (s.heap.push (seqObj "list" #[] 0)).update s.heap.objs.size (Obj.mapSeq (· ++ us.toArray)) }
  refine wpAny_bind (wpAny_load (get?_update_seq (Heap.get?_push_size _ rfl) _) ?_)
  show wpAny _ _ (pure ((#[] : Array Value) ++ us.toArray).toList) R E _
  rw [show ((#[] : Array Value) ++ us.toArray).toList = us by simp]
  exact wpAny_pure hR
theorem sortd_tup {t : Addr} {us : List Value} {lt : Value → Value → Bool} {R : Value → Shared → Prop} (O : SrtO.Swo lt) (ht : IsTup s.heap t us.toArray) (hn : us.length ≤ sizeLine)
    (hS : 2 ≤ us.length → ∀ (g : Heap) (a : Addr), g.get? a = some (seqObj "list" us.toArray 0) → (∀ b o, s.heap.get? b = some o → b ≠ a ∧ g.get? b = some o) → SrtO.SortableO prog w A.in1.in1 { s with heap := g } a us lt)
    (hR : ∀ out : List Value, SrtO.Srtd lt out → SrtO.Stb lt out us → R (.ref (s.heap.objs.size + 1)) { s with heap := sortedAll s.heap us out.toArray }) :
    wpAny (model prog w) A (call (.builtin "sorted") [.ref t]) R E s := by
  refine Calls.call_function_entry kind_sorted plain_sorted entry_sorted (args_sorted1 _) ?_
  unfold Builtin.«sorted»
  refine wpAny_bind (m := checkCount "sorted" 1 1 _) (wpAny_pure (wpAny_bind (coll_tup ht hn (wpAny_bind (wpAny_newList ?_ hn)))))
  have e1 : ((s.heap.push (seqObj "list" #[] 0)).update s.heap.objs.size (Obj.mapSeq (· ++ us.toArray))).objs.size = s.heap.objs.size + 1 := by rw [Heap.size_update, size_push']
  have e2 : (((s.heap.push (seqObj "list" #[] 0)).update s.heap.objs.size (Obj.mapSeq (· ++ us.toArray))).push (seqObj "list" us.toArray 0)).get? (s.heap.objs.size + 1) = some (seqObj "list" us.toArray 0) := e1 ▸ Heap.get?_push_size _ rfl
  have e3 : ∀ b o, s.heap.get? b = some o → b ≠ s.heap.objs.size + 1 ∧ (((s.heap.push (seqObj "list" #[] 0)).update s.heap.objs.size (Obj.mapSeq (· ++ us.toArray))).push (seqObj "list" us.toArray 0)).get? b = some o := fun b o z => by
    have e4 : b < s.heap.objs.size := Heap.lt_size z
    exact ⟨Nat.ne_of_lt (Nat.lt_succ_of_lt e4), Heap.get?_push_of_some _ (by rw [Heap.get?_update_ne _ _ _ _ (Nat.ne_of_lt e4)]; exact Heap.get?_push_of_some _ z)⟩
  show wpAny _ _ _ _ _ { s with heap := ((s.heap.push (seqObj "list" #[] 0)).update s.heap.objs.size (Obj.mapSeq (· ++ us.toArray))).push (seqObj "list" us.toArray 0) }
  rw [e1]
  exact wpAny_bind (wpAny_holding (wpAny_call_entry slot_list_sort ⟨_, e2, rfl⟩ entry_list_sort (SrtO.list_sort_ord O e2 hn (fun h2 => hS h2 _ _ e2 e3) fun out hs hb => ⟨_, rfl, wpAny_pure ⟨_, rfl, hR out hs hb⟩⟩) (args_list_sort _)))
end
section
variable {X : Cx}
theorem cr_sortedT : CallR X (.builtin "sorted") (fun vs H Q => ∃ (a : Addr) (xs : List V) (k : V → Int × Int), vs = [V.ref a] ∧ SqT X.K H a xs ∧ (∀ x ∈ xs, ∃ t, x = V.ref t ∧ H t = some (.tup [.int (k x).1, .int (k x).2])) ∧ ∀ ys p, ys.Perm xs → H p = none → Q (.ref p) (upd H p (.lst ys))) := by
  intro pins s σ H vs us Q I r h
  obtain ⟨a, xs, k, rfl, hs, hx, q⟩ := h
  obtain ⟨its, rv, hl, hz⟩ := I.tuple hs
  obtain ⟨u, rfl, ru⟩ := vals1 r
  obtain rfl : u = Value.ref a := ru
  obtain ⟨e1, e2⟩ := refs_back rv fun x m => (hx x m).imp fun t z => z.1
  have hp : ∀ v ∈ its, Srt.IsPair s.heap v (k (backV v)).1 (k (backV v)).2 := fun v hv => by
    obtain ⟨t, rfl⟩ := e2 v hv
    obtain ⟨t', e, ht⟩ := hx (V.ref t) (by rw [e1]; exact List.mem_map.mpr ⟨_, hv, rfl⟩)
    cases e
    obtain ⟨_, its2, r2, o, ho, hc, n, hd⟩ := I.hok _ _ ht
    obtain ⟨u1, u2, rfl, ri, rj⟩ := vals2 r2
    obtain ⟨t1, rfl⟩ := ri
    obtain ⟨t2, rfl⟩ := rj
    exact ⟨t, o, t1, t2, n, rfl, ho, hc, hd⟩
  refine sortd_tup (SrtO.swo_lex fun u => k (backV u)) hl (by rw [← rv.length]; exact hz) (fun h2 g b hb kk => ?_) fun out hs1 hs2 => ?_
  · refine SrtO.pairs_sortableO (s := { s with heap := g }) (by omega) (fun v hm => (hp v hm).keeps fun b o e _ => (kk b o e).2) fun o e c => ?_
    have e' : some o = some (seqObj "list" its.toArray 0) := e.symm.trans hb
    cases e'
    exact absurd (Value.type.inj c) (by decide)
  · obtain ⟨n, hn⟩ := sortedAll_at s.heap its out.toArray
    have h3 : ∀ u ∈ out, ∃ a, u = Value.ref a := fun u hu => e2 u (hs2.perm.mem_iff.mp hu)
    have hq : (out.map backV).Perm xs := by rw [e1]; exact hs2.perm.map backV
    have kp : ∀ b o, s.heap.get? b = some o → (sortedAll s.heap its out.toArray).get? b = some o := fun b o e => sortedAll_old e
    have hd : s.heap.objs.size ≤ s.heap.objs.size + 1 := Nat.le_succ _
    refine ⟨.ref (s.heap.objs.size + 1), upd H (s.heap.objs.size + 1) (.lst (out.map backV)), I.laid (t' := s.toks) kp hd ⟨?_, out, n, vals_back h3, hn⟩, rfl, q _ _ hq (I.hok.fresh hd)⟩
    rw [hq.length_eq]
    exact hz
end
section
variable {M : Md} {X : Cx} {Φ : Da → Prop}
theorem bw_sortAny {ps : List (Int × Int)} (h : ∀ qs : List (Int × Int), qs.Perm ps → Φ (.lst (qs.map encI))) : BW X (.builtin "sorted") [.lst (ps.map encI)] Φ := fun Hs H vs e rr Q q => by
  cases rr with
  | cons r t =>
    cases t
    obtain ⟨a, ws, rfl, ha, ra⟩ := r.lst_inv
    obtain ⟨h1, h2⟩ := prs_rp ra
    refine rCW_of cr_sortedPO ⟨a, ws, prOf Hs, rfl, .of (e _ _ ha), fun x hx => ?_, fun ys p _ st hH => ?_⟩
    · obtain ⟨t, e2, e3⟩ := (prOf_rp (h2 x hx)).2
      exact ⟨t, e2, e _ _ e3⟩
    · have hq : RpAll X.K Hs ((ys.map (prOf Hs)).map encI) ys := prs_all fun v hv => h2 v (st.perm.mem_iff.mp hv)
      exact q _ _ _ _ (Go.new e hH) (h _ (by rw [← h1]; exact st.perm.map _)) (.lst upd_same (hq.mono (same_upd (e.free hH))))
theorem bw_sortT {ps : List (Int × Int)} (h : ∀ qs : List (Int × Int), qs.Perm ps → Φ (.lst (qs.map encI))) : BW X (.builtin "sorted") [.tup (ps.map encI)] Φ := fun Hs H vs e rr Q q => by
  cases rr with
  | cons r t =>
    cases t
    obtain ⟨a, ws, rfl, ha, ra⟩ := r.tup_inv
    obtain ⟨h1, h2⟩ := prs_rp ra
    refine rCW_of cr_sortedT ⟨a, ws, prOf Hs, rfl, .of (e _ _ ha), fun x hx => ?_, fun ys p st hH => ?_⟩
    · obtain ⟨t, e2, e3⟩ := (prOf_rp (h2 x hx)).2
      exact ⟨t, e2, e _ _ e3⟩
    · have hq : RpAll X.K Hs ((ys.map (prOf Hs)).map encI) ys := prs_all fun v hv => h2 v (st.mem_iff.mp hv)
      exact q _ _ _ _ (Go.new e hH) (h _ (by rw [← h1]; exact st.map _)) (.lst upd_same (hq.mono (same_upd (e.free hH))))
end
/-! ### x or y, as a value -/
theorem all_empty {K : PySem.W.Frag} {H : Hp} {ds : List Da} {vs : List V} (h : RpAll K H ds vs) : vs.isEmpty = ds.isEmpty := by
  cases h <;> rfl
theorem tru_tup {K : PySem.W.Frag} {H : Hp} {l : List Da} {v : V} (r : Rp K H (.tup l) v) : TruV K v H (!l.isEmpty) := by
  obtain ⟨p, vs, rfl, h, ra⟩ := r.tup_inv
  exact .inr (.inl ⟨vs, .of h, by rw [all_empty ra]⟩)
theorem tru_lst {K : PySem.W.Frag} {H : Hp} {l : List Da} {v : V} (r : Rp K H (.lst l) v) : TruV K v H (!l.isEmpty) := by
  obtain ⟨p, vs, rfl, h, ra⟩ := r.lst_inv
  exact .inl ⟨vs, .of h, by rw [all_empty ra]⟩
inductive OrW (Φ : Da → Prop) (P : Prop) : Da → Prop
  | non : P → OrW Φ P .non
  | tup {l : List Da} : (l = [] → P) → (l ≠ [] → Φ (.tup l)) → OrW Φ P (.tup l)
  | lst {l : List Da} : (l = [] → P) → (l ≠ [] → Φ (.lst l)) → OrW Φ P (.lst l)
section
variable {M : Md} {X : Cx} {k : Nat} {m : Bool} {δ : Sg} {Φ : Da → Prop} {a b : Expr} {es : List Expr} {pos : Pos}
theorem de_orV (h : DM X m a δ (OrW Φ (DM X m (.BoolOp .Or (b :: es) pos) δ Φ))) : DM X m (.BoolOp .Or (a :: b :: es) pos) δ Φ := .mk fun Bs B Hs H σ o Q q =>
  WE.of (pe_orT pe_W pe_W) (h Bs B Hs H σ o _ fun d v Hs' H' g p r => by
    have rf := r.full g.sub
    have go : DM X m (.BoolOp .Or (b :: es) pos) δ Φ → WE X (.BoolOp .Or (b :: es) pos) σ H' Q := fun hp => hp Bs B Hs' H' σ (o.mono g) Q fun d v Hs2 H2 g2 p r => q d v Hs2 H2 (g.trans g2) p r
    cases p with
    | non hp =>
      cases rf.atom
      exact ⟨false, rfl, iteF (go hp)⟩
    | @tup l h1 h2 =>
      refine ⟨!l.isEmpty, tru_tup rf, ?_⟩
      cases l with
      | nil => exact iteF (go (h1 rfl))
      | cons x l => exact iteT (q _ _ Hs' H' g (h2 (by simp)) r)
    | @lst l h1 h2 =>
      refine ⟨!l.isEmpty, tru_lst rf, ?_⟩
      cases l with
      | nil => exact iteF (go (h1 rfl))
      | cons x l => exact iteT (q _ _ Hs' H' g (h2 (by simp)) r))
end
end DL

/-! DL30: sorted whole numbers. -/
namespace DL
open PySem PySem.Spec PyProof.Rows L2
theorem srtI_uniq : ∀ {a b : List Int}, a.Perm b → a.Pairwise (· ≤ ·) → b.Pairwise (· ≤ ·) → a = b
  | [], b, h, _, _ => (List.Perm.eq_nil h.symm).symm
  | x :: a, [], h, _, _ => absurd h.length_eq (by simp)
  | x :: a, y :: b, h, ha, hb => by
    obtain ⟨a1, a2⟩ := List.pairwise_cons.mp ha
    obtain ⟨b1, b2⟩ := List.pairwise_cons.mp hb
    have e : x = y := by
      have h1 : x ≤ y := by
        rcases List.mem_cons.mp (h.mem_iff.mpr (List.mem_cons_self (a := y) (l := b))) with e | hy
        · omega
        · exact a1 y hy
      have h2 : y ≤ x := by
        rcases List.mem_cons.mp (h.mem_iff.mp (List.mem_cons_self (a := x) (l := a))) with e | hx
        · omega
        · exact b1 x hx
      omega
    subst e
    rw [srtI_uniq h.cons_inv a2 b2]
section
variable {X : Cx} {Φ : Da → Prop}
theorem bw_sortI {ns ms : List Int} (hp : ms.Perm ns) (hs : ms.Pairwise (· ≤ ·)) (h : Φ (.lst (ms.map Da.int))) : BW X (.builtin "sorted") [.lst (ns.map Da.int)] Φ := fun Hs H vs e rr Q q => by
  cases rr with
  | cons r t =>
    cases t
    obtain ⟨a, ws, rfl, ha, ra⟩ := r.lst_inv
    have e1 : ns.map Da.int = (ns.map V.int).map Da.a := by rw [List.map_map]; rfl
    rw [e1] at ra
    rw [ra.atoms] at ha
    refine rCW_of cr_sortedI ⟨a, ns, rfl, .of (e _ _ ha), fun zs p pm pw hH => ?_⟩
    have ez : zs = ms := srtI_uniq (pm.trans hp.symm) pw hs
    subst ez
    have e2 : zs.map Da.int = (zs.map V.int).map Da.a := by rw [List.map_map]; rfl
    exact q _ _ _ _ (Go.new e hH) h (.lst upd_same (by rw [e2]; exact RpAll.ofAtoms _))
end
theorem count_one (l : List Nat) (c : Nat) : Txt.count ⟨l.toArray⟩ ⟨#[c]⟩ = (l.count c : Nat) := by
  rw [count_cnt]
  show PyProof.Rows.cnt c l = _
  induction l with
  | nil => rfl
  | cons x l ih =>
    rw [PyProof.Rows.cnt_cons, ih, List.count_cons]
    by_cases h : x = c
    · rw [if_pos h, if_pos (by simpa using h)]
      omega
    · rw [if_neg h, if_neg (by simpa using h)]
      omega
end DL

open PySem PySem.Spec PyProof.Rows L2 DL
local macro_rules | `(tactic| walk_at "gt") => `(tactic| (repeat (first | with_reducible exact Gt.z | with_reducible apply Gt.s)))
local macro_rules | `(tactic| walk_at "ss") => `(tactic| (repeat (first | with_reducible exact Ss.z | with_reducible apply Ss.s)))
local macro_rules | `(tactic| walk_at "wp") => `(tactic| first | exact Wp.nil | (apply Wp.cons; (· walk_at "wp"); (· walk_at "ss")))
local macro_rules | `(tactic| walk_at "dk") => `(tactic| decide +kernel)
local macro_rules | `(tactic| walk_at "mk") => `(tactic| first | exact nomark _ | with_unfolding_all rfl)
local macro_rules | `(tactic| walk_at "stE") => `(tactic| first
  | (show DM _ _ (.Name _ _) _ _; first
      | refine de_name ‹Sc _ _ _ _ _ _› (by walk_at "gt") (by walk_at "dk") ?_
      | refine dv_nameO ‹Sc _ _ _ _ _ _› (by walk_at "gt") rfl (by walk_at "dk") ?_
      | refine dv_nameB ‹Sc _ _ _ _ _ _› (by walk_at "gt") (by walk_at "dk") ?_
      | refine de_ty ‹Sc _ _ _ _ _ _› (x := "int") (T := "int") (by assumption) (by walk_at "dk") (by decide +kernel) ?_
      | refine de_ty ‹Sc _ _ _ _ _ _› (x := "bool") (T := "bool") (by assumption) (by walk_at "dk") (by decide +kernel) ?_
      | refine de_ty ‹Sc _ _ _ _ _ _› (x := "str") (T := "str") (by assumption) (by walk_at "dk") (by decide +kernel) ?_
      | refine de_ty ‹Sc _ _ _ _ _ _› (x := "tuple") (T := "tuple") (by assumption) (by walk_at "dk") (by decide +kernel) ?_
      | refine de_ty ‹Sc _ _ _ _ _ _› (x := "list") (T := "list") (by assumption) (by walk_at "dk") (by decide +kernel) ?_
      | refine de_globS ‹Sc _ _ _ _ _ _› (by assumption) (by walk_at "dk") ?_
      | refine de_globI ‹Sc _ _ _ _ _ _› (by assumption) (by walk_at "dk") ?_)
  | (show DM _ _ (.Constant _ _ _) _ _; first | refine de_int ?_ | refine de_str ?_ | refine de_bl ?_ | refine de_non ?_)
  | (show DM _ _ (.BinOp _ _ _ _) _ _; first | refine de_add ?_ | refine de_sub ?_ | refine de_mulA ?_ | refine de_mod ?_ | refine de_fdiv ?_ | refine de_pow ?_)
  | (show DM _ _ (.Subscript _ (.Tuple _ _ _) _) _ _; refine de_ixA ‹Sc _ _ _ _ _ _› ?_)
  | (show DM _ _ (.Subscript _ _ _) _ _; first | refine de_rev ?_ | refine de_slice ?_ | refine de_ixO ‹Sc _ _ _ _ _ _› (by walk_at "gt") (by walk_at "dk") ?_ | refine de_ix ‹Sc _ _ _ _ _ _› ?_)
  | (show DM _ _ (.Call (.Name _ _) _ _ _) _ _; first | refine de_call ‹Sc _ _ _ _ _ _› (by assumption) (by walk_at "dk") ?_ | walk_at "bi")
  | (show DM _ _ (.Compare _ _ _ _) _ _; first | refine de_cmp ‹Sc _ _ _ _ _ _› (by walk_at "mk") ?_ | refine de_chain ‹Sc _ _ _ _ _ _› ?_)
  | refine de_ifE ?_ | refine de_tup ?_ | refine de_lst ?_ | refine de_neg ?_)
local macro_rules | `(tactic| walk_at "bi") => `(tactic| first
  | refine de_lenO ‹Sc _ _ _ _ _ _› (f := "len") (by assumption) PySem.boot_len (by walk_at "dk") (by walk_at "gt") (by walk_at "dk") ?_
  | refine de_callB ‹Sc _ _ _ _ _ _› (x := "len") (by assumption) PySem.boot_len (by walk_at "dk") ?_
  | refine de_callB ‹Sc _ _ _ _ _ _› (x := "max") (by assumption) PyProof.Rows.boot_max (by walk_at "dk") ?_
  | refine de_callB ‹Sc _ _ _ _ _ _› (x := "min") (by assumption) PyProof.Rows.boot_min (by walk_at "dk") ?_
  | refine de_callB ‹Sc _ _ _ _ _ _› (x := "isinstance") (by assumption) (by decide +kernel : bootBuiltins "isinstance" = some (.builtin "isinstance")) (by walk_at "dk") ?_
  | refine de_callB ‹Sc _ _ _ _ _ _› (x := "sorted") (by assumption) (by decide +kernel : bootBuiltins "sorted" = some (.builtin "sorted")) (by walk_at "dk") ?_
  | refine de_callB ‹Sc _ _ _ _ _ _› (x := "abs") (by assumption) (by decide +kernel : bootBuiltins "abs" = some (.builtin "abs")) (by walk_at "dk") ?_
  | refine de_callB ‹Sc _ _ _ _ _ _› (x := "all") (by assumption) (by decide +kernel : bootBuiltins "all" = some (.builtin "all")) (by walk_at "dk") ?_
  | refine de_callB ‹Sc _ _ _ _ _ _› (x := "any") (by assumption) (by decide +kernel : bootBuiltins "any" = some (.builtin "any")) (by walk_at "dk") ?_
  | refine de_callTy ‹Sc _ _ _ _ _ _› (x := "tuple") (by assumption) (by decide +kernel : bootBuiltins "tuple" = some (.type "tuple")) (by walk_at "dk") ?_
  | refine de_callTy ‹Sc _ _ _ _ _ _› (x := "list") (by assumption) (by decide +kernel : bootBuiltins "list" = some (.type "list")) (by walk_at "dk") ?_
  | refine de_callTy ‹Sc _ _ _ _ _ _› (x := "int") (by assumption) (by decide +kernel : bootBuiltins "int" = some (.type "int")) (by walk_at "dk") ?_)
local macro_rules | `(tactic| walk_at "stS") => `(tactic| first
  | walk_at "par"
  | (refine ds_append ‹Sc _ _ _ _ _ _› (by walk_at "gt") (by walk_at "dk") ?_ ?_; rotate_left)
  | refine ds_ret ?_ | refine ds_if ?_ | refine ds_set ‹Sc _ _ _ _ _ _› ?_ (by walk_at "dk")
  | refine ds_retN ?_ | refine ds_break ?_ | refine ds_cont ?_)
local macro_rules | `(tactic| walk_at "st") => `(tactic| first
  | (show DM _ _ _ _ _; walk_at "stE")
  | (show DAt _ _ _ _; first | refine dat_nil ?_ | refine dat_cons ?_)
  | (show DA _ _ _ _ _; first | refine da_nil ?_ | refine da_cons ?_)
  | (show DB _ _ _ _ _ _ _; first | refine db_cons ?_ | refine db_nil ?_)
  | (show DS _ _ _ _ _ _ _; walk_at "stS")
  | (show DT _ _ _ _; first | refine dt_cmp ‹Sc _ _ _ _ _ _› (by walk_at "mk") ?_ | refine dt_not ?_ | refine dt_chain ‹Sc _ _ _ _ _ _› ?_ | refine dt_chain3 ‹Sc _ _ _ _ _ _› ?_ | refine dt_w (e := .BoolOp _ _ _) ?_)
  | (show DW _ _ _ _; first | refine dw_and ?_ | refine dw_or ?_ | refine dw_and1 ?_ | refine dw_or1 ?_)
  | (show SubW _ _ _; first | refine .int ?_ | refine .bi ?_ | refine .ib ?_)
  | (show AddW _ _ _; first | refine .int ?_ | refine .bi ?_ | (refine .str ?_ ?_; rotate_left) | (refine .lst ?_ ?_; rotate_left) | (refine .tup ?_ ?_; rotate_left))
  | (show IntW _ _ _ _ _; first | refine .mk True.intro ?_ | (refine .mk (.inl (.inr (by decide))) ?_) | (refine .mk (.inl (.inl (by decide))) ?_) | (refine .mk (by decide) ?_) | (refine .mk ⟨by decide, by decide, by decide⟩ ?_) | (refine .mk (.inr (by unfold CMulW; decide +kernel)) ?_) | (refine .mk (by decide +kernel) ?_) | (refine .mk (by omega) ?_) | (refine .mk ?_ ?_; rotate_left))
  | (show MulW _ _ _; first | refine .ib ?_ | (refine .int (.inl (.inr (by decide))) ?_) | (refine .int (.inl (.inl (by decide))) ?_) | (refine .int (.inl (.inl ⟨by decide, by decide⟩)) ?_) | (refine .int (.inr (by unfold CMulW; decide +kernel)) ?_) | (refine .int ?_ ?_; rotate_left))
  | refine dp_none ?_ | refine dp_some ?_ | refine spT ?_ | refine spF ?_)
local macro_rules | `(tactic| walk_at "go") => `(tactic| repeat walk_at "st")
local macro_rules | `(tactic| walk_at "par") => `(tactic| refine ds_par ‹Sc _ _ _ _ _ _› ?_ (by decide) (by walk_at "dk") (by walk_at "dk") (by intro env h; cases env; cases h; rfl) (by walk_at "dk") (by walk_at "dk"))

namespace My
def topS (i : Nat) : Stmt := PySem.Challenge.pw_liftcord_k21_whole_what_changes_no_cost.main.body.getD i (.Pass ⟨0, 0, 0, 0⟩)
abbrev s_costs_of : Stmt := topS 3
abbrev n_costs_of : List Str := ["floor", "found", "letter", "cost"]
theorem S_costs_of : FnScope n_costs_of ["floor"] (defScope s_costs_of) := ⟨rfl, rfl, rfl, by decide +kernel, rfl, by decide +kernel, by decide +kernel⟩
abbrev s_undoes : Stmt := topS 4
abbrev n_undoes : List Str := ["turn"]
theorem S_undoes : FnScope n_undoes ["turn"] (defScope s_undoes) := ⟨rfl, rfl, rfl, by decide +kernel, rfl, by decide +kernel, by decide +kernel⟩
abbrev s_tight : Stmt := topS 5
abbrev n_tight : List Str := ["row", "found", "turn"]
theorem S_tight : FnScope n_tight ["row"] (defScope s_tight) := ⟨rfl, rfl, rfl, by decide +kernel, rfl, by decide +kernel, by decide +kernel⟩
abbrev s_back : Stmt := topS 6
abbrev n_back : List Str := ["row", "turn"]
theorem S_back : FnScope n_back ["row"] (defScope s_back) := ⟨rfl, rfl, rfl, by decide +kernel, rfl, by decide +kernel, by decide +kernel⟩
abbrev s_plus : Stmt := topS 8
abbrev n_plus : List Str := ["one", "other"]
theorem S_plus : FnScope n_plus ["one", "other"] (defScope s_plus) := ⟨rfl, rfl, rfl, by decide +kernel, rfl, by decide +kernel, by decide +kernel⟩
abbrev s_ways : Stmt := topS 9
abbrev n_ways : List Str := ["row", "costs", "table", "begin", "long", "found", "other", "inner", "outer"]
theorem S_ways : FnScope n_ways ["row", "costs", "table", "begin", "long"] (defScope s_ways) := ⟨rfl, rfl, rfl, by decide +kernel, rfl, by decide +kernel, by decide +kernel⟩
abbrev s_best_table : Stmt := topS 10
abbrev n_best_table : List Str := ["floor", "row", "costs", "many", "found", "long", "begin", "some", "cost", "other"]
theorem S_best_table : FnScope n_best_table ["floor", "row"] (defScope s_best_table) := ⟨rfl, rfl, rfl, by decide +kernel, rfl, by decide +kernel, by decide +kernel⟩
abbrev s_least : Stmt := topS 11
abbrev n_least : List Str := ["floor", "row"]
theorem S_least : FnScope n_least ["floor", "row"] (defScope s_least) := ⟨rfl, rfl, rfl, by decide +kernel, rfl, by decide +kernel, by decide +kernel⟩
abbrev s_wound : Stmt := topS 13
abbrev n_wound : List Str := ["floor", "row", "letter", "cost"]
theorem S_wound : FnScope n_wound ["floor", "row"] (defScope s_wound) := ⟨rfl, rfl, rfl, by decide +kernel, rfl, by decide +kernel, by decide +kernel⟩
abbrev s_ldraw : Stmt := topS 15
abbrev n_ldraw : List Str := ["_law_draws_here", "_law_many", "_law_found", "_law_wide"]
theorem S_ldraw : FnScope n_ldraw ["_law_draws_here", "_law_many"] (defScope s_ldraw) := ⟨rfl, rfl, rfl, by decide +kernel, rfl, by decide +kernel, by decide +kernel⟩
abbrev s_lof : Stmt := topS 16
abbrev n_lof : List Str := ["_law_draws_here", "_law_some"]
theorem S_lof : FnScope n_lof ["_law_draws_here", "_law_some"] (defScope s_lof) := ⟨rfl, rfl, rfl, by decide +kernel, rfl, by decide +kernel, by decide +kernel⟩
abbrev s_lturns : Stmt := topS 17
abbrev n_lturns : List Str := ["_law_floor_here", "_law_found", "_law_letter", "_law_cost"]
theorem S_lturns : FnScope n_lturns ["_law_floor_here"] (defScope s_lturns) := ⟨rfl, rfl, rfl, by decide +kernel, rfl, by decide +kernel, by decide +kernel⟩
abbrev s_lundoes : Stmt := topS 18
abbrev n_lundoes : List Str := ["_law_turn"]
theorem S_lundoes : FnScope n_lundoes ["_law_turn"] (defScope s_lundoes) := ⟨rfl, rfl, rfl, by decide +kernel, rfl, by decide +kernel, by decide +kernel⟩
abbrev s_ldraws : Stmt := topS 19
abbrev n_ldraws : List Str := ["_law_script", "_law_k", "_law_cell"]
theorem S_ldraws : FnScope n_ldraws ["_law_script", "_law_k"] (defScope s_ldraws) := ⟨rfl, rfl, rfl, by decide +kernel, rfl, by decide +kernel, by decide +kernel⟩
abbrev s_lfloor : Stmt := topS 20
abbrev n_lfloor : List Str := ["_law_draws_here", "_law_many", "_law_letters", "_law_far", "_law_bar", "_law_floor_here", "_law_letter"]
theorem S_lfloor : FnScope n_lfloor ["_law_draws_here", "_law_many"] (defScope s_lfloor) := ⟨rfl, rfl, rfl, by decide +kernel, rfl, by decide +kernel, by decide +kernel⟩
abbrev s_lrow : Stmt := topS 21
abbrev n_lrow : List Str := ["_law_draws_here", "_law_floor_here", "_law_many", "_law_signs", "_law_found", "_law_way", "_law_k", "_law_turn", "_law_at", "_law_spot", "_law_inner"]
theorem S_lrow : FnScope n_lrow ["_law_draws_here", "_law_floor_here", "_law_many"] (defScope s_lrow) := ⟨rfl, rfl, rfl, by decide +kernel, rfl, by decide +kernel, by decide +kernel⟩
abbrev s_lbelow : Stmt := topS 22
abbrev n_lbelow : List Str := ["_law_one", "_law_other"]
theorem S_lbelow : FnScope n_lbelow ["_law_one", "_law_other"] (defScope s_lbelow) := ⟨rfl, rfl, rfl, by decide +kernel, rfl, by decide +kernel, by decide +kernel⟩
abbrev s_lplus : Stmt := topS 23
abbrev n_lplus : List Str := ["_law_one", "_law_other"]
theorem S_lplus : FnScope n_lplus ["_law_one", "_law_other"] (defScope s_lplus) := ⟨rfl, rfl, rfl, by decide +kernel, rfl, by decide +kernel, by decide +kernel⟩
abbrev s_lcalled : Stmt := topS 24
abbrev n_lcalled : List Str := ["_law_row_here", "_law_floor_here", "_law_letters", "_law_found", "_law_turn", "_law_one", "_law_letter", "_law_cost"]
theorem S_lcalled : FnScope n_lcalled ["_law_row_here", "_law_floor_here"] (defScope s_lcalled) := ⟨rfl, rfl, rfl, by decide +kernel, rfl, by decide +kernel, by decide +kernel⟩
abbrev s_lsame_costs : Stmt := topS 25
abbrev n_lsame_costs : List Str := ["_law_draws_here", "_law_floor_here", "_law_row_here", "_law_due", "_law_at", "_law_turn", "_law_others", "_law_fresh", "_law_times", "_law_some", "_law_great", "_law_one", "_law_other", "_law_k", "_law_post", "_law_letter", "_law_cost"]
theorem S_lsame_costs : FnScope n_lsame_costs ["_law_draws_here", "_law_floor_here", "_law_row_here", "_law_due"] (defScope s_lsame_costs) := ⟨rfl, rfl, rfl, by decide +kernel, rfl, by decide +kernel, by decide +kernel⟩
abbrev s_law : Stmt := topS 26
abbrev n_law : List Str := ["_law_script", "_law_k", "_law_draws_here", "_law_floor_here", "_law_row_here", "_law_more", "_law_due", "_law_sums", "_law_letter", "_law_cost", "_law_number", "_law_alike", "_law_told", "_law_many", "_law_two"]
theorem S_law : FnScope n_law ["_law_script"] (defScope s_law) := ⟨rfl, rfl, rfl, by decide +kernel, rfl, by decide +kernel, by decide +kernel⟩
/-! ### turns -/
def IsT (c : Nat) : Prop := (97 ≤ c ∧ c ≤ 122) ∨ (65 ≤ c ∧ c ≤ 90)
def und (c : Nat) : Nat := if 97 ≤ c then c - 32 else c + 32
abbrev lettersS : Str := "abcdefghijklmnopqrstuvwxyz"
abbrev greatS : Str := "ABCDEFGHIJKLMNOPQRSTUVWXYZ"
theorem letters_l : lettersS.cps.toList = (List.range 26).map (· + 97) := by decide +kernel
theorem great_l : greatS.cps.toList = (List.range 26).map (· + 65) := by decide +kernel
theorem mem_letters (c : Nat) : c ∈ lettersS.cps.toList ↔ 97 ≤ c ∧ c ≤ 122 := by
  rw [letters_l, List.mem_map]
  constructor
  · rintro ⟨a, h, rfl⟩
    have := List.mem_range.mp h
    omega
  · intro h
    exact ⟨c - 97, List.mem_range.mpr (by omega), by omega⟩
theorem occ_letters : ∀ i : Fin 26, Builtin.Str.occurrences lettersS ⟨#[97 + i.val]⟩ 0 lettersS.length 1 = [i.val] := by decide +kernel
theorem occ_great : ∀ i : Fin 26, Builtin.Str.occurrences greatS ⟨#[65 + i.val]⟩ 0 greatS.length 1 = [i.val] := by decide +kernel
theorem at_letters : ∀ i : Fin 26, atI lettersS.cps.toList (i.val : Int) = some (97 + i.val) := by decide +kernel
theorem at_great : ∀ i : Fin 26, atI greatS.cps.toList (i.val : Int) = some (65 + i.val) := by decide +kernel
abbrev UndoesC (M : Md) (k : Nat) : Prop := Cal M k "undoes" [true] (fun c : Nat => [.str (tx [c])]) IsT (fun c d => d = .str (tx [und c]))
section
variable {M : Md} {k : Nat}
theorem ok_undoes {f : Addr} {fd : FuncData} (F : Fun M.K "undoes" "undoes" s_undoes f fd) (hL : GlS M "LETTERS" lettersS) (hG : GlS M "GREAT" greatS) :
    FnOk M.P M.w M.K M.mg M.base CX0 (k + 1) f fd ["turn"] (SpD M.K [true] (fun c : Nat => [.str (tx [c])]) IsT (fun c d => d = .str (tx [und c]))) := by
  refine fn_ok F S_undoes rfl fun X S c hc => ?_
  show DB X _ [some (.d (.str (tx [c])))] _ _ _ _
  walk_at "go"
  refine .inS ⟨fun h => ?_, fun h => ?_⟩
  · have h1 := (mem_letters c).mp (of_decide_eq_true h)
    walk_at "go"
    refine de_meth PySem.F.plainAttrs_str PySem.F.slot_str_index PySem.F.type_str_index ?_
    walk_at "go"
    refine ⟨tyw_str, ?_⟩
    walk_at "go"
    have o := occ_letters ⟨c - 97, by omega⟩
    have a := at_great ⟨c - 97, by omega⟩
    dsimp only at o a
    rw [show 97 + (c - 97) = c by omega] at o
    refine mw_sindex o ?_
    refine .str (by decide) a ?_
    unfold und
    rw [if_pos h1.1, show c - 32 = 65 + (c - 97) by omega]
  · have h1 : ¬ (97 ≤ c ∧ c ≤ 122) := fun z => (of_decide_eq_false h) ((mem_letters c).mpr z)
    have h2 : 65 ≤ c ∧ c ≤ 90 := by rcases hc with z | z; exact absurd z h1; exact z
    walk_at "go"
    refine de_meth PySem.F.plainAttrs_str PySem.F.slot_str_index PySem.F.type_str_index ?_
    walk_at "go"
    refine ⟨tyw_str, ?_⟩
    walk_at "go"
    have o := occ_great ⟨c - 65, by omega⟩
    have a := at_letters ⟨c - 65, by omega⟩
    dsimp only at o a
    rw [show 65 + (c - 65) = c by omega] at o
    refine mw_sindex o ?_
    refine .str (by decide) a ?_
    unfold und
    rw [if_neg (by omega), show c + 32 = 97 + (c - 65) by omega]
end

/-! ### rows drawn tight -/
abbrev sg (c : Nat) : Da := .str (tx [c])
def Row (r : List Nat) : Prop := ∀ c ∈ r, IsT c
theorem IsT.lt {c : Nat} (h : IsT c) : c < 128 := by unfold IsT at h; omega
theorem strOk_sg {c : Nat} (h : c < 0x110000) : PyData.strOk (tx [c]) = true := by
  unfold PyData.strOk
  simpa using h
theorem und_T {c : Nat} (h : IsT c) : IsT (und c) := by
  unfold IsT at h ⊢
  unfold und
  split <;> omega
def stepT (st : List Nat) (c : Nat) : List Nat := match st with
  | [] => [c]
  | t :: r => if t = und c then r else c :: t :: r
def tightR (r : List Nat) : List Nat := r.foldl stepT []
def tight (r : List Nat) : List Nat := (tightR r).reverse
theorem stepT_row {st : List Nat} {c : Nat} (h : Row st) (hc : IsT c) : Row (stepT st c) := by
  unfold stepT
  split
  · intro d hd
    rw [List.mem_singleton.mp hd]
    exact hc
  · split
    · exact fun d hd => h d (List.mem_cons_of_mem _ hd)
    · intro d hd
      rcases List.mem_cons.mp hd with e | hd
      · rw [e]; exact hc
      · exact h d hd
theorem stepT_len (st : List Nat) (c : Nat) : (stepT st c).length ≤ st.length + 1 := by
  unfold stepT
  split
  · simp
  · split <;> simp
    omega
theorem foldT_row : ∀ {r st : List Nat}, Row r → Row st → Row (r.foldl stepT st)
  | [], _, _, h => h
  | c :: r, st, hr, h => foldT_row (r := r) (fun d hd => hr d (List.mem_cons_of_mem _ hd)) (stepT_row h (hr c List.mem_cons_self))
theorem foldT_len : ∀ (r st : List Nat), (r.foldl stepT st).length ≤ st.length + r.length
  | [], st => by simp
  | c :: r, st => by
    have h1 := foldT_len r (stepT st c)
    have h2 := stepT_len st c
    simp only [List.foldl_cons, List.length_cons]
    omega
theorem tight_row {r : List Nat} (h : Row r) : Row (tight r) := fun c hc => foldT_row h (fun _ z => by cases z) c (List.mem_reverse.mp hc)
theorem tight_len (r : List Nat) : (tight r).length ≤ r.length := by
  have := foldT_len r []
  unfold tight tightR
  rw [List.length_reverse]
  simpa using this
theorem chars_tx (r : List Nat) : chars (tx r) = r.map sg := by
  unfold chars
  rfl
theorem join_sg (r : List Nat) : Txt.join (Str.ofString "") (r.map fun c => tx [c]) = tx r := by
  have e0 : Str.ofString "" = ⟨#[]⟩ := by decide
  rw [e0]
  unfold Txt.join Builtin.Str.glued
  have key : ∀ (l : List Nat) (acc : Array Nat), (l.map fun c => tx [c]).foldl (fun acc p => acc ++ (⟨#[]⟩ : Str).cps ++ p.cps) acc = acc ++ l.toArray := by
    intro l
    induction l with
    | nil => intro acc; simp
    | cons c l ih =>
      intro acc
      rw [List.map_cons, List.foldl_cons, ih]
      simp
  cases r with
  | nil => rfl
  | cons c l =>
    rw [List.map_cons]
    show (⟨(l.map fun c => tx [c]).foldl _ (#[c])⟩ : Str) = _
    rw [key]
    simp
theorem joinR {X : Cx} {Φ : Da → Prop} (r : List Nat) (hl : r.length ≤ 1000000) (h : Φ (.str (tx r))) : MW X "str.join" (.str (Str.ofString "")) [.lst (r.map sg)] Φ := by
  have e : r.map sg = (r.map fun c => tx [c]).map Da.str := by rw [List.map_map]; rfl
  rw [e]
  refine mw_joinL ?_ ?_
  · have e1 : ((r.map fun c => tx [c]).map (·.length)) = r.map fun _ => 1 := by rw [List.map_map]; rfl
    rw [e1]
    have e2 : (r.map fun _ => 1).sum = r.length := by
      clear hl h e e1
      induction r with
      | nil => rfl
      | cons c r ih => simp [ih]; omega
    rw [e2]
    have e3 : (Str.ofString "").length = 0 := by decide
    rw [e3]
    omega
  · rw [join_sg]
    exact h
theorem shp_sgs {r : List Nat} (h : Row r) : Shp 1 (.lst (r.map sg)) := .lst fun d hd => by
  obtain ⟨c, hc, rfl⟩ := List.mem_map.mp hd
  exact .str (strOk_sg (by have := (h c hc).lt; omega))
abbrev TightC (M : Md) (k : Nat) : Prop := Cal M k "tight" [true] (fun r : List Nat => [.str (tx r)]) (fun r => Row r ∧ r.length ≤ 100000) (fun r d => d = .str (tx (tight r)))
section
variable {M : Md} {k : Nat}
theorem ok_tight {f : Addr} {fd : FuncData} (F : Fun M.K "tight" "tight" s_tight f fd) (cU : UndoesC M k) :
    FnOk M.P M.w M.K M.mg M.base CX0 (k + 1) f fd ["row"] (SpD M.K [true] (fun r : List Nat => [.str (tx r)]) (fun r => Row r ∧ r.length ≤ 100000) (fun r d => d = .str (tx (tight r)))) := by
  refine fn_ok F S_tight rfl fun X S r ⟨hr, hl⟩ => ?_
  show DB X _ [some (.d (.str (tx r))), none, none] _ _ _ _
  refine db_cons ?_
  refine ds_ownL S ⟨_, by walk_at "ss", ?_⟩ (by walk_at "dk")
  refine db_cons ?_
  refine ds_for S (di_str ?_)
  walk_at "go"
  refine ⟨_, rfl, fun i δ => ∃ x, δ = [some (.d (.str (tx r))), some (.ol (((r.take i).foldl stepT []).reverse.map sg)), x], ⟨_, rfl⟩, ?_, ?_⟩
  · rintro i d δ' hi ⟨x, rfl⟩
    rw [chars_tx, List.getElem?_map] at hi
    obtain ⟨c, hc, rfl⟩ := Option.map_eq_some_iff.mp hi
    have hcr : c ∈ r := List.mem_of_getElem? hc
    have hT := hr c hcr
    generalize hst : (r.take i).foldl stepT [] = st
    have hrow : Row st := by rw [← hst]; exact foldT_row (fun d hd => hr d (List.mem_of_mem_take hd)) (fun _ z => by cases z)
    have hlen : st.length ≤ r.length := by
      have := foldT_len (r.take i) []
      rw [hst] at this
      simp at this
      omega
    have hnext : (r.take (i + 1)).foldl stepT [] = stepT st c := by
      rw [List.take_add_one, hc, Option.toList_some, List.foldl_append, hst]
      rfl
    refine ⟨_, dg_name S (by walk_at "dk") ⟨_, by walk_at "ss", ?_⟩⟩
    have hrev : Row st.reverse := fun d hd => hrow d (List.mem_reverse.mp hd)
    walk_at "go"
    refine cmp_neNil (shp_sgs hrev) ⟨fun h => ?_, fun h => ?_⟩
    · obtain ⟨t, s2, rfl⟩ : ∃ t s2, st = t :: s2 := by
        cases st with
        | nil => simp at h
        | cons t s2 => exact ⟨t, s2, rfl⟩
      have hat : atI ((t :: s2).reverse.map sg) (-1) = some (sg t) := by
        rw [List.reverse_cons, List.map_append]
        exact atI_last _ _
      walk_at "go"
      refine ⟨1, rfl, -1, _, rfl, hat, ?_⟩
      walk_at "go"
      refine ⟨c, rfl, hT, ?_⟩
      rintro _ rfl
      refine .eqS rfl ⟨fun h => ?_, fun h => ?_⟩
      · have e : t = und c := by simpa using h
        walk_at "go"
        refine ds_pop S (by walk_at "gt") (by walk_at "dk") (by simp) ⟨_, by walk_at "ss", ?_⟩
        walk_at "go"
        have e2 : stepT (t :: s2) c = s2 := by simp [stepT, e]
        have e3 : ((t :: s2).reverse.map sg).dropLast = s2.reverse.map sg := by simp
        dsimp only
        rw [hnext, e2, e3]
        exact ⟨_, rfl⟩
      · have e : t ≠ und c := by simpa using h
        walk_at "go"
        rotate_left
        · simp at hlen ⊢; omega
        refine ⟨_, by walk_at "ss", ?_⟩
        walk_at "go"
        have e2 : stepT (t :: s2) c = c :: t :: s2 := by simp [stepT, e]
        have e3 : (t :: s2).reverse.map sg ++ [sg c] = (c :: t :: s2).reverse.map sg := by simp
        dsimp only
        rw [hnext, e2, ← e3]
        exact ⟨_, rfl⟩
    · obtain rfl : st = [] := by
        cases st with
        | nil => rfl
        | cons t s2 => simp at h
      walk_at "go"
      rotate_left
      · simp
      refine ⟨_, by walk_at "ss", ?_⟩
      walk_at "go"
      dsimp only
      rw [hnext]
      exact ⟨_, rfl⟩
  · rintro δ' ⟨x, rfl⟩
    have e : (r.map sg).length = r.length := by simp
    rw [chars_tx, e, List.take_length]
    refine db_freezeL (by walk_at "gt") ⟨_, by walk_at "ss", ?_⟩ S.nd
    walk_at "go"
    refine de_meth PySem.F.plainAttrs_str PySem.F.slot_str_join PySem.F.type_str_join ?_
    walk_at "go"
    refine ⟨tyw_str, ?_⟩
    walk_at "go"
    have hr2 := tight_len r
    refine joinR (tight r) (by omega) ?_
    rfl
end

/-! ### a row led back -/
def back (r : List Nat) : List Nat := (r.map und).reverse
abbrev BackC (M : Md) (k : Nat) : Prop := Cal M k "back" [true] (fun r : List Nat => [.str (tx r)]) (fun r => Row r ∧ r.length ≤ 100000) (fun r d => d = .str (tx (back r)))
theorem toList_tx (r : List Nat) : (tx r).cps.toList = r := rfl
theorem len_tx (r : List Nat) : (tx r).length = r.length := by
  show r.toArray.size = _
  simp
theorem sl1 {n : Nat} (h : n ≤ 1000000) : n ≤ sizeLine := by
  have : sizeLine = 16777216 := sizeLine_eq
  omega
section
variable {M : Md} {k : Nat}
theorem ok_back {f : Addr} {fd : FuncData} (F : Fun M.K "back" "back" s_back f fd) (cU : UndoesC M k) :
    FnOk M.P M.w M.K M.mg M.base CX0 (k + 1) f fd ["row"] (SpD M.K [true] (fun r : List Nat => [.str (tx r)]) (fun r => Row r ∧ r.length ≤ 100000) (fun r d => d = .str (tx (back r)))) := by
  refine fn_ok F S_back rfl fun X S r ⟨hr, hl⟩ => ?_
  show DB X _ [some (.d (.str (tx r))), none] _ _ _ _
  walk_at "go"
  refine de_meth PySem.F.plainAttrs_str PySem.F.slot_str_join PySem.F.type_str_join ?_
  walk_at "go"
  refine ⟨tyw_str, ?_⟩
  walk_at "go"
  refine de_lc1 S (di_str ?_) (by walk_at "dk")
  walk_at "go"
  refine .str (by rw [len_tx]; exact sl1 (by omega)) ⟨_, rfl, ?_⟩
  rw [toList_tx, chars_tx]
  refine lc_map (f := fun c => sg (und c)) (by walk_at "wp") (by simp; omega) (fun X1 S1 c hc => ?_) ?_
  · have hT := hr c (List.mem_reverse.mp hc)
    refine dg_name S1 (by walk_at "dk") ⟨_, by walk_at "ss", fun X2 S2 => ?_⟩
    walk_at "go"
    exact ⟨c, rfl, hT, fun d hd => hd⟩
  · walk_at "go"
    have e : (r.reverse.map fun c => sg (und c)) = (back r).map sg := by simp [back]
    rw [e]
    exact joinR (back r) (by simp [back]; omega) rfl
end

theorem upper_sg : ∀ c : Fin 128, (IsT c.val) → Txt.upper (tx [c.val]) = tx [if 97 ≤ c.val then c.val - 32 else c.val] := by
  unfold IsT
  decide +kernel
theorem lower_sg : ∀ c : Fin 128, (IsT c.val) → Txt.lower (tx [c.val]) = tx [if 97 ≤ c.val then c.val else c.val + 32] := by
  unfold IsT
  decide +kernel
abbrev LUndoesC (M : Md) (k : Nat) : Prop := Cal M k "_law_undoes" [true] (fun c : Nat => [.str (tx [c])]) IsT (fun c d => d = .str (tx [und c]))
section
variable {M : Md} {k : Nat}
theorem ok_lundoes {f : Addr} {fd : FuncData} (F : Fun M.K "_law_undoes" "_law_undoes" s_lundoes f fd) :
    FnOk M.P M.w M.K M.mg M.base CX0 (k + 1) f fd ["_law_turn"] (SpD M.K [true] (fun c : Nat => [.str (tx [c])]) IsT (fun c d => d = .str (tx [und c]))) := by
  refine fn_ok F S_lundoes rfl fun X S c hc => ?_
  show DB X _ [some (.d (.str (tx [c])))] _ _ _ _
  have hu := upper_sg ⟨c, hc.lt⟩ hc
  have hl := lower_sg ⟨c, hc.lt⟩ hc
  dsimp only at hu hl
  walk_at "go"
  refine de_meth0 PySem.F.plainAttrs_str PySem.F.slot_str_lower PySem.F.type_str_lower ?_
  walk_at "go"
  refine ⟨tyw_str, mw_lower (by show 1 ≤ 5592405; decide) ?_⟩
  rw [hl]
  refine .eqS rfl ⟨fun h => ?_, fun h => ?_⟩
  · have e : c = if 97 ≤ c then c else c + 32 := by simpa using h
    have h97 : 97 ≤ c := by
      by_cases hh : 97 ≤ c
      · exact hh
      · rw [if_neg hh] at e; omega
    refine de_meth0 PySem.F.plainAttrs_str PySem.F.slot_str_upper PySem.F.type_str_upper ?_
    walk_at "go"
    refine ⟨tyw_str, mw_upper (by show 1 ≤ 5592405; decide) ?_⟩
    rw [hu]
    unfold und
    rw [if_pos h97, if_pos h97]
  · have e : c ≠ if 97 ≤ c then c else c + 32 := by simpa using h
    have h97 : ¬ 97 ≤ c := fun hh => e (by rw [if_pos hh])
    refine de_meth0 PySem.F.plainAttrs_str PySem.F.slot_str_lower PySem.F.type_str_lower ?_
    walk_at "go"
    refine ⟨tyw_str, mw_lower (by show 1 ≤ 5592405; decide) ?_⟩
    rw [hl]
    unfold und
    rw [if_neg h97, if_neg h97]
end

/-! ### draws -/
abbrev DrawC (M : Md) (k : Nat) : Prop := Cal M k "_law_draw" [true, true] (fun n : Int => [.drw, .int n]) (fun n => 1 ≤ n ∧ n < 1073741824) (fun n d => ∃ r, d = .int r ∧ 0 ≤ r ∧ r < n)
section
variable {M : Md} {k : Nat}
theorem ok_ldraw {f : Addr} {fd : FuncData} (F : Fun M.K "_law_draw" "_law_draw" s_ldraw f fd) :
    FnOk M.P M.w M.K M.mg M.base CX0 (k + 1) f fd ["_law_draws_here", "_law_many"] (SpD M.K [true, true] (fun n : Int => [.drw, .int n]) (fun n => 1 ≤ n ∧ n < 1073741824) (fun n d => ∃ r, d = .int r ∧ 0 ≤ r ∧ r < n)) := by
  refine fn_ok F S_ldraw rfl fun X S n ⟨hn, hn2⟩ => ?_
  show DB X _ [some (.d .drw), some (.d (.int n)), none, none] _ _ _ _
  walk_at "go"
  refine .drw (.inl rfl) fun z _ => ?_
  walk_at "go"
  refine .gt ⟨fun h => ?_, fun h => ?_⟩
  · walk_at "go"
    refine .drw (.inl rfl) fun z _ => ?_
    walk_at "go"
    refine ⟨_, by walk_at "ss", ?_⟩
    refine db_cons (ds_drwSet S (by walk_at "gt") (by walk_at "dk") ?_)
    walk_at "go"
    refine .drw (.inl rfl) fun z2 _ => ?_
    walk_at "go"
    refine ⟨_, 0, rfl, rfl, .inl rfl, (fun z => nomatch z), ?_⟩
    walk_at "go"
    exact ⟨_, rfl, Int.emod_nonneg _ (by omega), Int.emod_lt_of_pos _ (by omega)⟩
  · walk_at "go"
    refine ⟨_, by walk_at "ss", ?_⟩
    walk_at "go"
    refine ⟨_, by walk_at "ss", ?_⟩
    refine db_cons (ds_while S (fun m δ => ∃ f w : Int, 1 ≤ w ∧ m = (n - w).toNat ∧ δ = [some (.d .drw), some (.d (.int n)), some (.d (.int f)), some (.d (.int w))]) ⟨_, 0, 1, by decide, rfl, rfl⟩ ?_)
    rintro m δ ⟨f, w, hw, rfl, rfl⟩
    walk_at "go"
    refine .lt ⟨fun h => ?_, fun h => ?_⟩
    · have hlt : w < n := of_decide_eq_true h
      refine db_cons (ds_drwSet S (by walk_at "gt") (by walk_at "dk") ?_)
      walk_at "go"
      refine .drw (.inr rfl) fun z hz => ?_
      walk_at "go"
      refine ⟨_, 1, rfl, rfl, .inr rfl, (fun _ => ⟨Int.emod_nonneg _ (by decide), Int.lt_trans (Int.emod_lt_of_pos _ (by decide)) (by decide)⟩), ?_⟩
      walk_at "go"
      refine .drw (.inr rfl) fun z1 hz1 => ?_
      walk_at "go"
      refine .drw (.inr rfl) fun z2 hz2 => ?_
      have b1 := hz1 rfl
      have b2 := hz2 rfl
      walk_at "go"
      rotate_left
      · exact .inl (.inl ⟨by omega, by omega⟩)
      walk_at "go"
      refine ⟨_, by walk_at "ss", ?_⟩
      walk_at "go"
      refine ⟨_, by walk_at "ss", ?_⟩
      walk_at "go"
      exact ⟨_, by omega, _, _, by omega, rfl, rfl⟩
    · walk_at "go"
      exact ⟨_, rfl, Int.emod_nonneg _ (by omega), Int.emod_lt_of_pos _ (by omega)⟩
end

/-! ### the law's own makers: one of some, draws, floors, turns, rows -/
theorem atI_nat' {α : Type} {l : List α} {i : Int} (h0 : 0 ≤ i) (h : i < l.length) : ∃ d, atI l i = some d ∧ d ∈ l := by
  obtain ⟨j, rfl⟩ := Int.eq_ofNat_of_zero_le h0
  have hj : j < l.length := by omega
  exact ⟨l[j], by rw [show ((j : Nat) : Int) = ((j : Nat) : Int) from rfl]; exact atI_nat (List.getElem?_eq_getElem hj), List.getElem_mem hj⟩
def OfPre (s : Da) : Prop := (∃ l : List Da, s = .lst l ∧ 1 ≤ l.length ∧ l.length < 1000000) ∨ (∃ r : List Nat, s = .str (tx r) ∧ 1 ≤ r.length ∧ r.length < 1000000)
def OfPost (s d : Da) : Prop := (∀ l, s = .lst l → d ∈ l) ∧ (∀ r : List Nat, s = .str (tx r) → ∃ c ∈ r, d = sg c)
abbrev OfC (M : Md) (k : Nat) : Prop := Cal M k "_law_of" [true, true] (fun s : Da => [.drw, s]) OfPre OfPost
abbrev DrawsC (M : Md) (k : Nat) : Prop := Cal M k "_law_draws" [true, true] (fun p : List Int × Int => [.scr p.1, .int p.2]) (fun p => p.1.length ≤ 63 ∧ 0 ≤ p.2 ∧ p.2 < 1000) (fun _ d => d = .drw)
/-- a floor -/
abbrev Floor := List (Nat × Option Int)
def encO : Option Int → Da
  | none => .non
  | some i => .int i
def encF (fl : Floor) : Da := .tup (fl.map fun p => .tup [sg p.1, encO p.2])
def CostOk (c : Option Int) : Prop := ∀ i, c = some i → 1 ≤ i ∧ i ≤ 100
structure FloorOk (fl : Floor) : Prop where
  asc : (fl.map (·.1)).Pairwise (· < ·)
  ok : ∀ p ∈ fl, 97 ≤ p.1 ∧ p.1 ≤ 122 ∧ CostOk p.2
  pos : 1 ≤ fl.length
  len : fl.length ≤ 8
abbrev FloorC (M : Md) (k : Nat) : Prop := Cal M k "_law_floor" [true, true] (fun n : Int => [.drw, .int n]) (fun n => 1 ≤ n ∧ n ≤ 8) (fun n d => ∃ fl : Floor, d = encF fl ∧ FloorOk fl ∧ (fl.length : Int) ≤ n)
def lets (fl : Floor) : List Nat := fl.map (·.1)
def turnsF (fl : Floor) : List Nat := lets fl ++ (lets fl).map (· - 32)
abbrev TurnsC (M : Md) (k : Nat) : Prop := Cal M k "_law_turns" [true] (fun fl : Floor => [encF fl]) FloorOk (fun fl d => d = .str (tx (turnsF fl)))
def RowOf (fl : Floor) (r : List Nat) : Prop := ∀ c ∈ r, c ∈ turnsF fl
abbrev RowC (M : Md) (k : Nat) : Prop := Cal M k "_law_row" [true, true, true] (fun p : Floor × Int => [.drw, encF p.1, .int p.2]) (fun p => FloorOk p.1 ∧ 0 ≤ p.2 ∧ p.2 ≤ 1000) (fun p d => ∃ r, d = .str (tx r) ∧ RowOf p.1 r ∧ (r.length : Int) ≤ p.2)
theorem turnsF_T {fl : Floor} (h : FloorOk fl) {c : Nat} (hc : c ∈ turnsF fl) : IsT c := by
  unfold turnsF lets at hc
  rcases List.mem_append.mp hc with hc | hc
  · obtain ⟨p, hp, rfl⟩ := List.mem_map.mp hc
    have := h.ok p hp
    exact .inl ⟨this.1, this.2.1⟩
  · rw [List.map_map] at hc
    obtain ⟨p, hp, rfl⟩ := List.mem_map.mp hc
    have := h.ok p hp
    unfold IsT
    dsimp only [Function.comp]
    omega
theorem turnsF_und {fl : Floor} (h : FloorOk fl) {c : Nat} (hc : c ∈ turnsF fl) : und c ∈ turnsF fl := by
  unfold turnsF lets at hc ⊢
  rw [List.map_map] at hc ⊢
  rcases List.mem_append.mp hc with hc | hc
  · obtain ⟨p, hp, rfl⟩ := List.mem_map.mp hc
    have := h.ok p hp
    refine List.mem_append_right _ (List.mem_map.mpr ⟨p, hp, ?_⟩)
    unfold und
    rw [if_pos this.1]
    rfl
  · obtain ⟨p, hp, rfl⟩ := List.mem_map.mp hc
    have := h.ok p hp
    refine List.mem_append_left _ (List.mem_map.mpr ⟨p, hp, ?_⟩)
    unfold und
    dsimp only [Function.comp]
    rw [if_neg (by omega)]
    omega
theorem turnsF_len (fl : Floor) : (turnsF fl).length = 2 * fl.length := by
  unfold turnsF lets
  simp
  omega
theorem RowOf.row {fl : Floor} (h : FloorOk fl) {r : List Nat} (hr : RowOf fl r) : Row r := fun c hc => turnsF_T h (hr c hc)
theorem RowOf.app {fl : Floor} {r s : List Nat} (hr : RowOf fl r) (hs : RowOf fl s) : RowOf fl (r ++ s) := fun c hc => (List.mem_append.mp hc).elim (hr c) (hs c)
theorem RowOf.sub {fl : Floor} {r s : List Nat} (hr : RowOf fl r) (h : ∀ c ∈ s, c ∈ r) : RowOf fl s := fun c hc => hr c (h c hc)
theorem cut_to (r : List Nat) {j : Int} (h : 0 ≤ j) : cutS (tx r) none (some j) = tx (r.take j.toNat) := by
  obtain ⟨n, rfl⟩ := Int.eq_ofNat_of_zero_le h
  unfold cutS
  have e : HT.sIx (tx r).length (tx r).length (some ((n : Nat) : Int)) = min n r.length := by rw [HT.sIx_nat, len_tx]
  have e0 : HT.sIx (tx r).length 0 none = 0 := rfl
  rw [e, e0]
  show (⟨((r.drop 0).take (min n r.length - 0)).toArray⟩ : Str) = ⟨(r.take n).toArray⟩
  rw [List.drop_zero, Nat.sub_zero]
  by_cases hn : n ≤ r.length
  · rw [Nat.min_eq_left hn]
  · rw [Nat.min_eq_right (by omega), List.take_of_length_le (Nat.le_refl _), List.take_of_length_le (by omega)]
theorem cut_from (r : List Nat) {j : Int} (h : 0 ≤ j) : cutS (tx r) (some j) none = tx (r.drop j.toNat) := by
  obtain ⟨n, rfl⟩ := Int.eq_ofNat_of_zero_le h
  unfold cutS
  have e : HT.sIx (tx r).length 0 (some ((n : Nat) : Int)) = min n r.length := by rw [HT.sIx_nat, len_tx]
  have e0 : HT.sIx (tx r).length (tx r).length none = r.length := by rw [HT.sIx_none, len_tx]
  rw [e, e0]
  show (⟨((r.drop (min n r.length)).take (r.length - min n r.length)).toArray⟩ : Str) = ⟨(r.drop n).toArray⟩
  rw [List.take_of_length_le (by rw [List.length_drop]; omega)]
  by_cases hn : n ≤ r.length
  · rw [Nat.min_eq_left hn]
  · rw [Nat.min_eq_right (by omega), List.drop_of_length_le (Nat.le_refl _), List.drop_of_length_le (by omega)]
theorem cut_mid (r : List Nat) {i j : Int} (h : 0 ≤ i) (h2 : 0 ≤ j) : cutS (tx r) (some i) (some j) = tx ((r.drop i.toNat).take (j.toNat - i.toNat)) := by
  obtain ⟨n, rfl⟩ := Int.eq_ofNat_of_zero_le h
  obtain ⟨m, rfl⟩ := Int.eq_ofNat_of_zero_le h2
  unfold cutS
  rw [HT.sIx_nat, HT.sIx_nat, len_tx]
  show (⟨((r.drop (min n r.length)).take (min m r.length - min n r.length)).toArray⟩ : Str) = ⟨((r.drop n).take (m - n)).toArray⟩
  by_cases hn : n ≤ r.length
  · rw [Nat.min_eq_left hn]
    by_cases hm : m ≤ r.length
    · rw [Nat.min_eq_left hm]
    · rw [Nat.min_eq_right (by omega), List.take_of_length_le (by rw [List.length_drop]; omega), List.take_of_length_le (by rw [List.length_drop]; omega)]
  · rw [List.drop_of_length_le (l := r) (i := n) (by omega), List.drop_of_length_le (l := r) (by omega)]
    simp
theorem app_tx (r s : List Nat) : (tx r ++ tx s : Str) = tx (r ++ s) := by
  show (⟨r.toArray ++ s.toArray⟩ : Str) = _
  simp
theorem up1_low : ∀ c : Fin 128, 97 ≤ c.val → c.val ≤ 122 → up1 c.val = c.val - 32 := by decide +kernel
theorem upper_tx (r : List Nat) (h : ∀ c ∈ r, 97 ≤ c ∧ c ≤ 122) : Txt.upper (tx r) = tx (r.map (· - 32)) := by
  rw [upper_ascii (x := tx r) (fun c hc => by have := h c hc; omega)]
  show (⟨(r.toArray).map up1⟩ : Str) = _
  rw [List.map_toArray]
  have e : r.map up1 = r.map (· - 32) := List.map_congr_left fun c hc => by
    have := h c hc
    exact up1_low ⟨c, by omega⟩ this.1 this.2
  rw [e]
section
variable {M : Md} {k : Nat}
theorem ok_lof {f : Addr} {fd : FuncData} (F : Fun M.K "_law_of" "_law_of" s_lof f fd) (cD : DrawC M k) (ml : M.mg "len" = none) :
    FnOk M.P M.w M.K M.mg M.base CX0 (k + 1) f fd ["_law_draws_here", "_law_some"] (SpD M.K [true, true] (fun s : Da => [.drw, s]) OfPre OfPost) := by
  refine fn_ok F S_lof rfl fun X S s hs => ?_
  show DB X _ [some (.d .drw), some (.d s)] _ _ _ _
  rcases hs with ⟨l, rfl, h1, h2⟩ | ⟨r, rfl, h1, h2⟩
  · walk_at "go"
    refine bw_lenL ?_
    walk_at "go"
    refine ⟨_, rfl, by omega, ?_⟩
    rintro _ ⟨i, rfl, h3, h4⟩
    obtain ⟨d, hd, hm⟩ := atI_nat' h3 h4
    refine .lst hd ⟨fun l' e => ?_, fun r e => ?_⟩
    · cases e; exact hm
    · cases e
  · walk_at "go"
    refine bw_lenS (by rw [len_tx]; exact sl1 (by omega)) ?_
    rw [len_tx]
    walk_at "go"
    refine ⟨_, rfl, by omega, ?_⟩
    rintro _ ⟨i, rfl, h3, h4⟩
    obtain ⟨d, hd, hm⟩ := atI_nat' h3 h4
    refine .str (by rw [len_tx]; exact sl1 (by omega)) hd ⟨fun l' e => ?_, fun r' e => ?_⟩
    · cases e
    · have e2 : r' = r := by
        have := congrArg (fun d => match d with | Da.a (.str z) => z.cps.toList | _ => []) e
        exact this.symm
      rw [e2]
      exact ⟨d, hm, rfl⟩
theorem ok_ldraws {f : Addr} {fd : FuncData} (F : Fun M.K "_law_draws" "_law_draws" s_ldraws f fd) (ml : M.mg "len" = none) (mi : M.mg "int" = none) :
    FnOk M.P M.w M.K M.mg M.base CX0 (k + 1) f fd ["_law_script", "_law_k"] (SpD M.K [true, true] (fun p : List Int × Int => [.scr p.1, .int p.2]) (fun p => p.1.length ≤ 63 ∧ 0 ≤ p.2 ∧ p.2 < 1000) (fun _ d => d = .drw)) := by
  refine fn_ok F S_ldraws rfl fun X S ⟨ns, kk⟩ ⟨h1, h2, h3⟩ => ?_
  dsimp only at h1 h2 h3
  show DB X _ [some (.d (.scr ns)), some (.d (.int kk)), none] _ _ _ _
  have fin : ∀ c : Int, DB X [(defBody s_ldraws).getD 2 (.Pass ⟨0, 0, 0, 0⟩)] [some (.d (.scr ns)), some (.d (.int kk)), some (.d (.int c))] (fun _ => Da.non = .drw) (fun d => d = .drw) (fun _ => False) (fun _ => False) := fun c => by
    refine db_cons (ds_ret (de_lstDrw ?_))
    walk_at "go"
    refine .ge ?_
    walk_at "go"
    refine bw_intB ?_
    walk_at "go"
    rotate_left
    · refine .inl (.inr ?_)
      split <;> exact ⟨by decide, by decide⟩
    walk_at "go"
    refine ⟨_, _, rfl, ?_, rfl⟩
    have b1 := Int.emod_nonneg (c * 69621 + 86028121 * (kk + 1)) (show (2147483646 : Int) ≠ 0 by decide)
    have b2 := Int.emod_lt_of_pos (c * 69621 + 86028121 * (kk + 1)) (show (0 : Int) < 2147483646 by decide)
    omega
  walk_at "go"
  refine ⟨_, by walk_at "ss", ?_⟩
  walk_at "go"
  refine bw_lenC ?_
  refine .lt ⟨fun h => ?_, fun h => ?_⟩
  · have hk := of_decide_eq_true h
    obtain ⟨z, hz, _⟩ := atI_nat' (l := ns) h2 hk
    walk_at "go"
    refine .scr hz ?_
    walk_at "go"
    refine ⟨_, by walk_at "ss", ?_⟩
    exact db_nil (fin _)
  · walk_at "go"
    refine bw_lenC ?_
    walk_at "go"
    refine .gt ⟨fun h => ?_, fun h => ?_⟩
    · have hk : (0 : Int) < ns.length := of_decide_eq_true h
      walk_at "go"
      refine bw_lenC ?_
      walk_at "go"
      obtain ⟨z, hz, _⟩ := atI_nat' (l := ns) (i := kk % (ns.length : Int)) (Int.emod_nonneg _ (by omega)) (Int.emod_lt_of_pos _ hk)
      refine .scr hz ?_
      walk_at "go"
      refine ⟨_, by walk_at "ss", ?_⟩
      exact db_nil (db_nil (fin _))
    · exact db_nil (db_nil (fin _))
theorem encF_len (fl : Floor) : (fl.map fun p => Da.tup [sg p.1, encO p.2]).length = fl.length := by simp
def floorTexts : List (List Nat) := [[97, 98, 99, 100, 101, 102, 103, 104], [97, 99, 101, 103, 108, 109, 120, 122], [109, 110, 111, 112, 113, 114, 115, 116]]
theorem ok_lfloor {f : Addr} {fd : FuncData} (F : Fun M.K "_law_floor" "_law_floor" s_lfloor f fd) (cD : DrawC M k) (cO : OfC M k) (mt : M.mg "tuple" = none) :
    FnOk M.P M.w M.K M.mg M.base CX0 (k + 1) f fd ["_law_draws_here", "_law_many"] (SpD M.K [true, true] (fun n : Int => [.drw, .int n]) (fun n => 1 ≤ n ∧ n ≤ 8) (fun n d => ∃ fl : Floor, d = encF fl ∧ FloorOk fl ∧ (fl.length : Int) ≤ n)) := by
  refine fn_ok F S_lfloor rfl fun X S n ⟨hn, hn2⟩ => ?_
  show DB X _ [some (.d .drw), some (.d (.int n)), none, none, none, none, none] _ _ _ _
  walk_at "go"
  refine ⟨_, rfl, .inl ⟨_, rfl, by decide, by decide⟩, ?_⟩
  rintro d ⟨hd, _⟩
  have hd2 := hd _ rfl
  obtain ⟨ls, hls, hlen, hasc, hlow⟩ : ∃ ls : List Nat, d = .str (tx ls) ∧ ls.length = 8 ∧ ls.Pairwise (· < ·) ∧ ∀ c ∈ ls, 97 ≤ c ∧ c ≤ 122 := by
    rcases List.mem_cons.mp hd2 with rfl | hd2
    · exact ⟨[97, 98, 99, 100, 101, 102, 103, 104], congrArg (fun z => Da.a (V.str z)) (by decide : Str.ofString "abcdefgh" = tx [97, 98, 99, 100, 101, 102, 103, 104]), by decide, by decide, by decide⟩
    rcases List.mem_cons.mp hd2 with rfl | hd2
    · exact ⟨[97, 99, 101, 103, 108, 109, 120, 122], congrArg (fun z => Da.a (V.str z)) (by decide : Str.ofString "aceglmxz" = tx [97, 99, 101, 103, 108, 109, 120, 122]), by decide, by decide, by decide⟩
    rcases List.mem_cons.mp hd2 with rfl | hd2
    · exact ⟨[109, 110, 111, 112, 113, 114, 115, 116], congrArg (fun z => Da.a (V.str z)) (by decide : Str.ofString "mnopqrst" = tx [109, 110, 111, 112, 113, 114, 115, 116]), by decide, by decide, by decide⟩
    cases hd2
  subst hls
  walk_at "go"
  refine ⟨n, rfl, ⟨hn, by omega⟩, ?_⟩
  rintro _ ⟨i, rfl, h3, h4⟩
  walk_at "go"
  refine ⟨_, rfl, .str (by rw [len_tx]; exact sl1 (by omega)) ?_⟩
  rw [cut_to ls (by omega)]
  generalize hlt : ls.take (1 + i).toNat = lt
  have ltl : lt.length = (1 + i).toNat := by rw [← hlt, List.length_take]; omega
  have lta : lt.Pairwise (· < ·) := by rw [← hlt]; exact hasc.sublist (List.take_sublist _ _)
  have ltw : ∀ c ∈ lt, 97 ≤ c ∧ c ≤ 122 := fun c hc => hlow c (by rw [← hlt] at hc; exact List.mem_of_mem_take hc)
  refine ⟨_, by walk_at "ss", ?_⟩
  walk_at "go"
  refine ⟨3, rfl, ⟨by decide, by decide⟩, ?_⟩
  rintro _ ⟨j, rfl, h5, h6⟩
  obtain ⟨fard, hfar, hfarm⟩ := atI_nat' (l := [Da.int 1, .int 3, .int 100]) h5 h6
  obtain ⟨far, rfl, hf1, hf2⟩ : ∃ far : Int, fard = .int far ∧ 1 ≤ far ∧ far ≤ 100 := by
    rcases List.mem_cons.mp hfarm with rfl | h
    · exact ⟨1, rfl, by decide, by decide⟩
    rcases List.mem_cons.mp h with rfl | h
    · exact ⟨3, rfl, by decide, by decide⟩
    rcases List.mem_cons.mp h with rfl | h
    · exact ⟨100, rfl, by decide, by decide⟩
    cases h
  refine .lst hfar ?_
  walk_at "go"
  refine ⟨3, rfl, ⟨by decide, by decide⟩, ?_⟩
  rintro _ ⟨b, rfl, _, _⟩
  walk_at "go"
  refine .eqS rfl ?_
  generalize decide (V.int b = V.int 0) = bar
  refine ⟨_, _, by walk_at "ss", by walk_at "ss", ?_⟩
  refine db_cons (ds_ownL S ⟨_, by walk_at "ss", ?_⟩ (by walk_at "dk"))
  refine db_cons (ds_for S (di_str ?_))
  walk_at "go"
  refine ⟨_, rfl, fun i δ => ∃ (x : Option SD) (fl : Floor), δ = [some (.d .drw), some (.d (.int n)), some (.d (.str (tx lt))), some (.d (.int far)), some (.d (.bl bar)), some (.ol (fl.map fun p => Da.tup [sg p.1, encO p.2])), x] ∧ fl.map (·.1) = lt.take i ∧ ∀ p ∈ fl, CostOk p.2, ⟨none, [], rfl, rfl, fun p hp => by cases hp⟩, ?_, ?_⟩
  · rintro i d δ' hi ⟨x, fl, rfl, hfl, hc⟩
    rw [chars_tx, List.getElem?_map] at hi
    obtain ⟨c, hci, rfl⟩ := Option.map_eq_some_iff.mp hi
    have hil : i < lt.length := (List.getElem?_eq_some_iff.mp hci).1
    refine ⟨_, dg_name S (by walk_at "dk") ⟨_, by walk_at "ss", ?_⟩⟩
    have hlenfl : fl.length ≤ 8 := by
      have := congrArg List.length hfl
      rw [List.length_map, List.length_take] at this
      omega
    have fin : ∀ o : Option Int, CostOk o → ∃ (x : Option SD) (fl' : Floor), [some (SD.d .drw), some (.d (.int n)), some (.d (.str (tx lt))), some (.d (.int far)), some (.d (.bl bar)), some (.ol ((fl.map fun p => Da.tup [sg p.1, encO p.2]) ++ [Da.tup [sg c, encO o]])), some (.d (sg c))] =
        [some (.d .drw), some (.d (.int n)), some (.d (.str (tx lt))), some (.d (.int far)), some (.d (.bl bar)), some (.ol (fl'.map fun p => Da.tup [sg p.1, encO p.2])), x] ∧ fl'.map (·.1) = lt.take (i + 1) ∧ ∀ p ∈ fl', CostOk p.2 := fun o ho =>
      ⟨_, fl ++ [(c, o)], by rw [List.map_append]; rfl, by rw [List.map_append, hfl, List.take_add_one, hci]; rfl, fun p hp => by
        rcases List.mem_append.mp hp with hp | hp
        · exact hc p hp
        · rw [List.mem_singleton.mp hp]; exact ho⟩
    walk_at "go"
    rotate_left
    · rw [encF_len]; omega
    refine dt_val ?_
    walk_at "go"
    refine ⟨bar, rfl, fun hb => ?_, fun hb => ?_⟩
    · walk_at "go"
      refine ⟨3, rfl, ⟨by decide, by decide⟩, ?_⟩
      rintro _ ⟨z, rfl, _, _⟩
      walk_at "go"
      refine .eqS rfl ?_
      refine ⟨fun hz => ?_, fun hz => ?_⟩
      · walk_at "go"
        refine ⟨_, by walk_at "ss", ?_⟩
        walk_at "go"
        exact fin none (fun i h => by cases h)
      · walk_at "go"
        refine ⟨far, rfl, ⟨hf1, by omega⟩, ?_⟩
        rintro _ ⟨w, rfl, hw, hw2⟩
        walk_at "go"
        refine ⟨_, by walk_at "ss", ?_⟩
        walk_at "go"
        exact fin (some (1 + w)) (fun i h => by cases h; omega)
    · walk_at "go"
      refine ⟨far, rfl, ⟨hf1, by omega⟩, ?_⟩
      rintro _ ⟨w, rfl, hw, hw2⟩
      walk_at "go"
      refine ⟨_, by walk_at "ss", ?_⟩
      walk_at "go"
      exact fin (some (1 + w)) (fun i h => by cases h; omega)
  · rintro δ' ⟨x, fl, rfl, hfl, hc⟩
    have e : (chars (tx lt)).length = lt.length := by rw [chars_tx]; simp
    rw [e, List.take_length] at hfl
    refine db_freezeL (by walk_at "gt") ⟨_, by walk_at "ss", ?_⟩ S.nd
    walk_at "go"
    refine bw_tupleL ⟨fl, rfl, ⟨by rw [hfl]; exact lta, fun p hp => ?_, ?_, ?_⟩, ?_⟩
    · have := ltw p.1 (by rw [← hfl]; exact List.mem_map.mpr ⟨p, hp, rfl⟩)
      exact ⟨this.1, this.2, hc p hp⟩
    · have := congrArg List.length hfl
      rw [List.length_map] at this
      omega
    · have := congrArg List.length hfl
      rw [List.length_map] at this
      omega
    · have := congrArg List.length hfl
      rw [List.length_map] at this
      omega
end

section
variable {M : Md} {k : Nat}
theorem ok_lturns {f : Addr} {fd : FuncData} (F : Fun M.K "_law_turns" "_law_turns" s_lturns f fd) :
    FnOk M.P M.w M.K M.mg M.base CX0 (k + 1) f fd ["_law_floor_here"] (SpD M.K [true] (fun fl : Floor => [encF fl]) FloorOk (fun fl d => d = .str (tx (turnsF fl)))) := by
  refine fn_ok F S_lturns rfl fun X S fl hf => ?_
  show DB X _ [some (.d (encF fl)), none, none, none] _ _ _ _
  have hl := hf.len
  walk_at "go"
  refine de_meth PySem.F.plainAttrs_str PySem.F.slot_str_join PySem.F.type_str_join ?_
  walk_at "go"
  refine ⟨tyw_str, ?_⟩
  walk_at "go"
  refine de_lc1 S (di_tup ?_) (by walk_at "dk")
  walk_at "go"
  refine ⟨_, rfl, ?_⟩
  refine lc_map (f := fun p : Nat × Option Int => sg p.1) (by walk_at "wp") (by omega) (fun X1 S1 p hp => ?_) ?_
  · refine dg_tup S1 (dgs_cons (dg_name S1 (by walk_at "dk") ⟨_, by walk_at "ss", dgs_cons (dg_name S1 (by walk_at "dk") ⟨_, by walk_at "ss", dgs_nil fun X2 S2 => ?_⟩)⟩))
    walk_at "go"
    rfl
  · walk_at "go"
    have e : (fl.map fun p => sg p.1) = (lets fl).map sg := by simp [lets]
    rw [e]
    refine joinR (lets fl) (by simp [lets]; omega) ?_
    refine ⟨_, by walk_at "ss", ?_⟩
    walk_at "go"
    refine de_meth0 PySem.F.plainAttrs_str PySem.F.slot_str_upper PySem.F.type_str_upper ?_
    walk_at "go"
    refine ⟨tyw_str, mw_upper (by rw [len_tx]; simp [lets]; omega) ?_⟩
    have e2 : Txt.upper (tx (lets fl)) = tx ((lets fl).map (· - 32)) := upper_tx _ fun c hc => by
      obtain ⟨p, hp, rfl⟩ := List.mem_map.mp hc
      have := hf.ok p hp
      exact ⟨this.1, this.2.1⟩
    rw [e2]
    walk_at "go"
    · rw [app_tx]
      rfl
    · rw [len_tx, len_tx]
      refine sl1 ?_
      simp [lets]
      omega
theorem ok_lrow {f : Addr} {fd : FuncData} (F : Fun M.K "_law_row" "_law_row" s_lrow f fd) (cD : DrawC M k) (cO : OfC M k) (cT : TurnsC M k) (cU : LUndoesC M k) (ml : M.mg "len" = none) (mr : M.mg "range" = none) :
    FnOk M.P M.w M.K M.mg M.base CX0 (k + 1) f fd ["_law_draws_here", "_law_floor_here", "_law_many"] (SpD M.K [true, true, true] (fun p : Floor × Int => [.drw, encF p.1, .int p.2]) (fun p => FloorOk p.1 ∧ 0 ≤ p.2 ∧ p.2 ≤ 1000) (fun p d => ∃ r, d = .str (tx r) ∧ RowOf p.1 r ∧ (r.length : Int) ≤ p.2)) := by
  refine fn_ok F S_lrow rfl fun X S ⟨fl, n⟩ ⟨hf, hn, hn2⟩ => ?_
  dsimp only at hf hn hn2 ⊢
  show DB X _ [some (.d .drw), some (.d (encF fl)), some (.d (.int n)), none, none, none, none, none, none, none, none] _ _ _ _
  have hfl := hf.len
  have hfp := hf.pos
  have htl := turnsF_len fl
  walk_at "go"
  refine ⟨fl, rfl, hf, ?_⟩
  rintro _ rfl
  walk_at "go"
  refine ⟨_, _, by walk_at "ss", by walk_at "ss", ?_⟩
  walk_at "go"
  refine ⟨3, rfl, ⟨by decide, by decide⟩, ?_⟩
  rintro _ ⟨way, rfl, _, _⟩
  refine ⟨_, by walk_at "ss", ?_⟩
  refine db_cons (ds_for S (di_range1 S mr (by walk_at "dk") ?_))
  walk_at "go"
  refine ⟨n + 1, rfl, ⟨by omega, by omega⟩, ?_⟩
  rintro _ ⟨many, rfl, hm0, hm1⟩
  refine ⟨many, rfl, by omega, by omega, ?_⟩
  refine ⟨fun i δ => ∃ (r : List Nat) (a b c d e : Option SD), δ = [some (.d .drw), some (.d (encF fl)), some (.d (.int n)), some (.d (.str (tx (turnsF fl)))), some (.d (.str (tx r))), some (.d (.int way)), a, b, c, d, e] ∧ RowOf fl r ∧ (r.length : Int) ≤ n,
    ⟨[], none, none, none, none, none, rfl, (fun c hc => by cases hc), by simpa using hn⟩, ?_, ?_⟩
  · rintro i d δ' hi ⟨r, a, b, c, d, e, rfl, hr, hrl⟩
    obtain ⟨_, rfl⟩ := rangeD_get hi
    refine ⟨_, dg_name S (by walk_at "dk") ⟨_, by walk_at "ss", ?_⟩⟩
    walk_at "go"
    refine ⟨_, rfl, .inr ⟨turnsF fl, rfl, by omega, by omega⟩, ?_⟩
    rintro d ⟨_, hd⟩
    obtain ⟨c, hc, rfl⟩ := hd _ rfl
    refine ⟨_, by walk_at "ss", ?_⟩
    walk_at "go"
    refine bw_lenS (by rw [len_tx]; exact sl1 (by omega)) ?_
    rw [len_tx]
    walk_at "go"
    refine ⟨_, rfl, by omega, ?_⟩
    rintro _ ⟨at_, rfl, ha0, ha1⟩
    refine ⟨_, by walk_at "ss", ?_⟩
    have hT := turnsF_T hf hc
    have hcr : RowOf fl [c] := fun z hz => by rw [List.mem_singleton.mp hz]; exact hc
    have hur : RowOf fl [und c] := fun z hz => by rw [List.mem_singleton.mp hz]; exact turnsF_und hf hc
    have htk : ∀ j, RowOf fl (r.take j) := fun j z hz => hr z (List.mem_of_mem_take hz)
    have hdr : ∀ j, RowOf fl (r.drop j) := fun j z hz => hr z (List.mem_of_mem_drop hz)
    have hS : ∀ l : List Nat, (l.length : Int) ≤ 2000 → (tx l).length ≤ sizeLine := fun l hl => by rw [len_tx]; exact sl1 (by omega)
    walk_at "go"
    refine .eqS rfl ⟨fun hw => ?_, fun hw => ?_⟩
    · walk_at "go"
      refine bw_lenS (hS r (by omega)) ?_
      rw [len_tx]
      walk_at "go"
      refine .le ⟨fun h2 => ?_, fun h2 => ?_⟩
      · have h3 := of_decide_eq_true h2
        walk_at "go"
        refine bw_lenS (hS r (by omega)) ?_
        rw [len_tx]
        walk_at "go"
        refine ⟨_, rfl, ⟨by omega, by omega⟩, ?_⟩
        rintro _ ⟨sp, rfl, hs0, hs1⟩
        walk_at "go"
        refine ⟨_, by walk_at "ss", ?_⟩
        walk_at "go"
        refine ⟨_, rfl, ?_⟩
        walk_at "go"
        refine ⟨_, rfl, .str (hS r (by omega)) ?_⟩
        rw [cut_mid r ha0 (by omega)]
        generalize hmid : (r.drop at_.toNat).take ((at_ + sp).toNat - at_.toNat) = mid
        have hml : mid.length = sp.toNat := by rw [← hmid, List.length_take, List.length_drop]; omega
        have hmr : RowOf fl mid := by rw [← hmid]; exact fun z hz => hdr _ z (List.mem_of_mem_take hz)
        walk_at "go"
        rotate_left
        · rw [len_tx, len_tx]; exact sl1 (by simp; omega)
        rw [app_tx]
        walk_at "go"
        refine ⟨c, rfl, hT, ?_⟩
        rintro _ rfl
        walk_at "go"
        rotate_left
        · rw [len_tx, len_tx]; exact sl1 (by simp; omega)
        rw [app_tx]
        refine ⟨_, by walk_at "ss", ?_⟩
        walk_at "go"
        refine ⟨_, rfl, .str (hS r (by omega)) ?_⟩
        rw [cut_to r ha0]
        walk_at "go"
        rotate_left
        · rw [len_tx, len_tx]; exact sl1 (by simp; omega)
        rw [app_tx]
        walk_at "go"
        refine ⟨_, rfl, .str (hS r (by omega)) ?_⟩
        rw [cut_from r (by omega)]
        walk_at "go"
        rotate_left
        · rw [len_tx, len_tx]; exact sl1 (by simp; omega)
        rw [app_tx]
        refine ⟨_, by walk_at "ss", ?_⟩
        walk_at "go"
        refine ⟨_, _, _, _, _, _, rfl, ((htk _).app ((hcr.app hmr).app hur)).app (hdr _), ?_⟩
        simp only [List.length_append, List.length_take, List.length_drop, List.length_singleton]
        omega
      · have h3 := of_decide_eq_false h2
        walk_at "go"
        refine bw_lenS (hS r (by omega)) ?_
        rw [len_tx]
        walk_at "go"
        refine .lt ⟨fun h4 => ?_, fun h4 => ?_⟩
        · have h5 := of_decide_eq_true h4
          walk_at "go"
          refine ⟨_, rfl, .str (hS r (by omega)) ?_⟩
          rw [cut_to r ha0]
          walk_at "go"
          rotate_left
          · rw [len_tx, len_tx]; exact sl1 (by simp; omega)
          rw [app_tx]
          walk_at "go"
          refine ⟨_, rfl, .str (hS r (by omega)) ?_⟩
          rw [cut_from r ha0]
          walk_at "go"
          rotate_left
          · rw [len_tx, len_tx]; exact sl1 (by simp; omega)
          rw [app_tx]
          refine ⟨_, by walk_at "ss", ?_⟩
          walk_at "go"
          refine ⟨_, _, _, _, _, _, rfl, ((htk _).app hcr).app (hdr _), ?_⟩
          simp only [List.length_append, List.length_take, List.length_drop, List.length_singleton]
          omega
        · walk_at "go"
          exact ⟨_, _, _, _, _, _, rfl, hr, hrl⟩
    · walk_at "go"
      refine bw_lenS (hS r (by omega)) ?_
      rw [len_tx]
      walk_at "go"
      refine .lt ⟨fun h4 => ?_, fun h4 => ?_⟩
      · have h5 := of_decide_eq_true h4
        walk_at "go"
        refine ⟨_, rfl, .str (hS r (by omega)) ?_⟩
        rw [cut_to r ha0]
        walk_at "go"
        rotate_left
        · rw [len_tx, len_tx]; exact sl1 (by simp; omega)
        rw [app_tx]
        walk_at "go"
        refine ⟨_, rfl, .str (hS r (by omega)) ?_⟩
        rw [cut_from r ha0]
        walk_at "go"
        rotate_left
        · rw [len_tx, len_tx]; exact sl1 (by simp; omega)
        rw [app_tx]
        refine ⟨_, by walk_at "ss", ?_⟩
        walk_at "go"
        refine ⟨_, _, _, _, _, _, rfl, ((htk _).app hcr).app (hdr _), ?_⟩
        simp only [List.length_append, List.length_take, List.length_drop, List.length_singleton]
        omega
      · walk_at "go"
        exact ⟨_, _, _, _, _, _, rfl, hr, hrl⟩
  · rintro δ' ⟨r, a, b, c, d, e, rfl, hr, hrl⟩
    walk_at "go"
    exact ⟨r, rfl, hr, hrl⟩
end

/-! ### mathematics: rows drawn tight -/
theorem und_und {c : Nat} (h : IsT c) : und (und c) = c := by
  unfold IsT at h
  unfold und
  split <;> split <;> omega
theorem und_eq {c d : Nat} (hc : IsT c) (h : c = und d) (hd : IsT d) : d = und c := by rw [h, und_und hd]
theorem und_ne {c : Nat} (h : IsT c) : und c ≠ c := by
  unfold IsT at h
  unfold und
  split <;> omega
def RedS : List Nat → Prop
  | x :: y :: r => y ≠ und x ∧ RedS (y :: r)
  | _ => True
theorem RedS.tail {x : Nat} {r : List Nat} (h : RedS (x :: r)) : RedS r := by
  cases r with
  | nil => trivial
  | cons y r => exact h.2
theorem RedS.right : ∀ {l m : List Nat}, RedS (l ++ m) → RedS m
  | [], _, h => h
  | x :: l, m, h => RedS.right (l := l) h.tail
theorem RedS.cons {c : Nat} {st : List Nat} (h : RedS st) (hc : ∀ t r, st = t :: r → t ≠ und c) : RedS (c :: st) := by
  cases st with
  | nil => trivial
  | cons t r => exact ⟨hc t r rfl, h⟩
theorem step_red {st : List Nat} {c : Nat} (h : RedS st) : RedS (stepT st c) := by
  unfold stepT
  split
  · trivial
  · split
    · exact h.tail
    · rename_i t r hne
      exact h.cons fun t' r' e => by cases e; exact hne
theorem step_cancel {st : List Nat} {c : Nat} (h : RedS st) (hr : Row st) (hc : IsT c) : stepT (stepT st c) (und c) = st := by
  have huu := und_und hc
  cases st with
  | nil => simp [stepT, huu]
  | cons t r =>
    by_cases e : t = und c
    · subst e
      cases r with
      | nil => simp [stepT]
      | cons t2 r2 =>
        have h2 : t2 ≠ und (und c) := h.1
        simp [stepT]
        intro hh
        exact absurd hh h2
    · simp [stepT, e, huu]
theorem step_cancel2 {st : List Nat} {c d : Nat} (h : RedS st) (hr : Row st) (hc : IsT c) (hd : IsT d) (e : c = und d) : stepT (stepT st c) d = st := by
  rw [und_eq hc e hd]
  exact step_cancel h hr hc
theorem fold_red : ∀ {r st : List Nat}, RedS st → RedS (r.foldl stepT st)
  | [], _, h => h
  | c :: r, st, h => fold_red (r := r) (step_red h)
theorem red_nil : RedS [] := trivial
theorem row_nil : Row [] := fun _ z => by cases z
theorem tightR_red (r : List Nat) : RedS (tightR r) := fold_red (r := r) red_nil
theorem tightR_row {r : List Nat} (h : Row r) : Row (tightR r) := foldT_row h (fun _ z => by cases z)
/-- two that undo one another may go -/
theorem tightR_cut {a b : List Nat} {c d : Nat} (ha : Row a) (hc : IsT c) (hd : IsT d) (e : c = und d) : tightR (a ++ c :: d :: b) = tightR (a ++ b) := by
  unfold tightR
  rw [List.foldl_append, List.foldl_append, List.foldl_cons, List.foldl_cons, step_cancel2 (fold_red (r := a) red_nil) (foldT_row ha (fun _ z => by cases z)) hc hd e]
theorem tight_cut {a b : List Nat} {c d : Nat} (ha : Row a) (hc : IsT c) (hd : IsT d) (e : c = und d) : tight (a ++ c :: d :: b) = tight (a ++ b) := by
  unfold tight
  rw [tightR_cut ha hc hd e]
theorem fold_of_red : ∀ {r st : List Nat}, RedS (r.reverse ++ st) → r.foldl stepT st = r.reverse ++ st
  | [], _, _ => rfl
  | c :: r, st, h => by
    have h : RedS (r.reverse ++ (c :: st)) := by rw [List.reverse_cons, List.append_assoc] at h; exact h
    have h1 : RedS (c :: st) := RedS.right h
    have e : stepT st c = c :: st := by
      cases st with
      | nil => rfl
      | cons t s => simp [stepT, h1.1]
    rw [List.foldl_cons, e, fold_of_red (r := r) h, List.reverse_cons, List.append_assoc]
    rfl
theorem tight_of_red {r : List Nat} (h : RedS r.reverse) : tight r = r := by
  unfold tight tightR
  rw [fold_of_red (by simpa using h)]
  simp
theorem tight_red (r : List Nat) : RedS (tight r).reverse := by
  unfold tight
  rw [List.reverse_reverse]
  exact tightR_red r
theorem tight_tight (r : List Nat) : tight (tight r) = tight r := tight_of_red (tight_red r)
/-- no two side by side that undo one another -/
def adj (r : List Nat) (i : Nat) : Bool := match r[i]?, r[i + 1]? with
  | some x, some y => x == und y
  | _, _ => false
theorem adj_lt {r : List Nat} {i : Nat} (h : adj r i = true) : i + 1 < r.length := by
  unfold adj at h
  cases e1 : r[i]? with
  | none => rw [e1] at h; cases h
  | some x =>
    cases e2 : r[i + 1]? with
    | none => rw [e1, e2] at h; cases h
    | some y => exact (List.getElem?_eq_some_iff.mp e2).1
theorem adj_split {r : List Nat} {i : Nat} (h : adj r i = true) : ∃ c d, r = r.take i ++ c :: d :: r.drop (i + 2) ∧ c = und d := by
  have hl := adj_lt h
  refine ⟨r[i], r[i + 1], ?_, ?_⟩
  · rw [← List.drop_eq_getElem_cons (by omega), ← List.drop_eq_getElem_cons (by omega), List.take_append_drop]
  · unfold adj at h
    rw [List.getElem?_eq_getElem (by omega), List.getElem?_eq_getElem hl] at h
    simpa using h
theorem red_of_adj : ∀ {r : List Nat}, Row r → (∀ i, adj r i = false) → RedS r
  | [], _, _ => trivial
  | [x], _, _ => trivial
  | x :: y :: r, hr, h => by
    refine ⟨fun e => ?_, red_of_adj (r := y :: r) (fun c hc => hr c (List.mem_cons_of_mem _ hc)) fun i => ?_⟩
    · have h0 := h 0
      have hx := hr x List.mem_cons_self
      simp [adj, e, und_und hx] at h0
    · have := h (i + 1)
      simpa [adj] using this
theorem RedS.app_one : ∀ {l : List Nat} {c : Nat}, RedS l → Row l → IsT c → (∀ t, l.getLast? = some t → t ≠ und c) → RedS (l ++ [c])
  | [], _, _, _, _, _ => trivial
  | [x], c, _, hr, hc, hl => ⟨fun e => hl x rfl (und_eq hc e (hr x List.mem_cons_self)), trivial⟩
  | x :: y :: r, c, h, hr, hc, hl => ⟨h.1, RedS.app_one (l := y :: r) h.2 (fun c hc => hr c (List.mem_cons_of_mem _ hc)) hc fun t ht => hl t (by simpa using ht)⟩
theorem red_rev : ∀ {r : List Nat}, Row r → RedS r → RedS r.reverse
  | [], _, _ => trivial
  | x :: r, hr, h => by
    rw [List.reverse_cons]
    have hr' : Row r := fun c hc => hr c (List.mem_cons_of_mem _ hc)
    refine (red_rev hr' h.tail).app_one (fun c hc => hr' c (List.mem_reverse.mp hc)) (hr x List.mem_cons_self) fun t ht => ?_
    rw [List.getLast?_reverse] at ht
    cases r with
    | nil => cases ht
    | cons y s =>
      cases ht
      exact h.1
theorem tight_of_adj {r : List Nat} (hr : Row r) (h : ∀ i, adj r i = false) : tight r = r := tight_of_red (red_rev hr (red_of_adj hr h))
theorem red_rev' {r : List Nat} (hr : Row r) (h : RedS r.reverse) : RedS r := by
  have := red_rev (r := r.reverse) (fun c hc => hr c (List.mem_reverse.mp hc)) h
  rwa [List.reverse_reverse] at this
theorem adj_of_red : ∀ {r : List Nat}, Row r → RedS r → ∀ i, adj r i = false
  | [], _, _, i => by simp [adj]
  | [x], _, _, i => by cases i <;> simp [adj]
  | x :: y :: r, hr, h, 0 => by
    have hy := hr y (List.mem_cons_of_mem _ List.mem_cons_self)
    have hx := hr x List.mem_cons_self
    simp only [adj, List.getElem?_cons_zero, List.getElem?_cons_succ]
    simp
    intro e
    exact h.1 (und_eq hx e hy)
  | x :: y :: r, hr, h, i + 1 => by
    have := adj_of_red (r := y :: r) (fun c hc => hr c (List.mem_cons_of_mem _ hc)) h.2 i
    simpa [adj] using this
theorem tight_adj {r : List Nat} (hr : Row r) : ∀ i, adj (tight r) i = false := adj_of_red (tight_row hr) (red_rev' (tight_row hr) (tight_red r))
/-- parts drawn tight first -/
theorem fold_tight {st : List Nat} (hs : RedS st) (hsr : Row st) : ∀ {r : List Nat}, Row r → (tight r).foldl stepT st = r.foldl stepT st := by
  suffices H : ∀ (r t : List Nat), Row r → Row t → RedS t → (r.foldl stepT t).reverse.foldl stepT st = r.foldl stepT (t.reverse.foldl stepT st) from fun {r} hr => H r [] hr (fun _ z => by cases z) trivial
  intro r
  induction r with
  | nil => intro t _ _ _; rfl
  | cons c r ih =>
    intro t hr ht hred
    have hc := hr c List.mem_cons_self
    have hr' : Row r := fun d hd => hr d (List.mem_cons_of_mem _ hd)
    rw [List.foldl_cons, ih (stepT t c) hr' (stepT_row ht hc) (step_red hred), List.foldl_cons]
    congr 1
    cases t with
    | nil => rfl
    | cons x s =>
      unfold stepT
      dsimp only
      split
      · rename_i e
        rw [List.reverse_cons, List.foldl_append]
        have hx := ht x List.mem_cons_self
        have hs2 : Row s := fun d hd => ht d (List.mem_cons_of_mem _ hd)
        have := step_cancel2 (st := s.reverse.foldl stepT st) (c := x) (d := c) (fold_red (r := s.reverse) hs) (foldT_row (fun d hd => hs2 d (List.mem_reverse.mp hd)) hsr) hx hc e
        exact this.symm
      · rw [List.reverse_cons, List.foldl_append]
        rfl
theorem tight_parts {a b : List Nat} (ha : Row a) (hb : Row b) : tight (tight a ++ tight b) = tight (a ++ b) := by
  unfold tight tightR
  congr 1
  rw [List.foldl_append, List.foldl_append]
  have e1 := fold_tight (st := []) trivial (fun _ z => by cases z) ha
  have e2 : (tight a).foldl stepT [] = a.foldl stepT [] := e1
  show ((b.foldl stepT []).reverse).foldl stepT ((tight a).foldl stepT []) = _
  rw [e2]
  exact fold_tight (fold_red (r := a) red_nil) (foldT_row ha (fun _ z => by cases z)) hb
theorem back_row {r : List Nat} (h : Row r) : Row (back r) := fun c hc => by
  unfold back at hc
  rw [List.mem_reverse] at hc
  obtain ⟨d, hd, rfl⟩ := List.mem_map.mp hc
  exact und_T (h d hd)
theorem back_len (r : List Nat) : (back r).length = r.length := by simp [back]
theorem back_back {r : List Nat} (h : Row r) : back (back r) = r := by
  unfold back
  rw [List.map_reverse, List.reverse_reverse, List.map_map]
  have : r.map (und ∘ und) = r.map id := List.map_congr_left fun c hc => und_und (h c hc)
  rw [this, List.map_id]
theorem back_app (a b : List Nat) : back (a ++ b) = back b ++ back a := by simp [back]
theorem tight_back_self : ∀ {r : List Nat}, Row r → ∀ s, Row s → tight (s ++ (r ++ back r)) = tight s
  | [], _, s, _ => by simp [back]
  | c :: r, hr, s, hs => by
    have hc := hr c List.mem_cons_self
    have hr' : Row r := fun d hd => hr d (List.mem_cons_of_mem _ hd)
    have e : s ++ (c :: r ++ back (c :: r)) = (s ++ [c]) ++ (r ++ back r) ++ [und c] := by simp [back]
    have ih := tight_back_self hr' (s ++ [c]) (fun d hd => (List.mem_append.mp hd).elim (hs d) fun z => by rw [List.mem_singleton.mp z]; exact hc)
    rw [e]
    have h1 : tightR ((s ++ [c]) ++ (r ++ back r)) = tightR (s ++ [c]) := by
      have := congrArg List.reverse ih
      unfold tight at this
      simpa using this
    have h2 : tightR ((s ++ [c]) ++ (r ++ back r) ++ [und c]) = tightR s := by
      show List.foldl stepT [] _ = _
      rw [List.foldl_append]
      show List.foldl stepT (tightR ((s ++ [c]) ++ (r ++ back r))) [und c] = _
      rw [h1]
      unfold tightR
      rw [List.foldl_append]
      exact step_cancel (fold_red (r := s) red_nil) (foldT_row hs (fun _ z => by cases z)) hc
    unfold tight
    rw [h2]
theorem tight_self_back {r : List Nat} (h : Row r) : tight (r ++ back r) = [] := by
  have := tight_back_self h [] row_nil
  exact this.trans rfl
theorem tight_back {r : List Nat} (h : Row r) : tight (back r) = back (tight r) := by
  -- tight (back r) and back (tight r) are both tight and equal after drawing tight
  have hr := tight_row h
  have hb : tight (back (tight r)) = back (tight r) := by
    refine tight_of_adj (back_row hr) fun i => ?_
    cases e : adj (back (tight r)) i with
    | false => rfl
    | true =>
      obtain ⟨c, d, hs, hcd⟩ := adj_split e
      exfalso
      have hrow := back_row hr
      have hc : IsT c := hrow c (by rw [hs]; simp)
      have hd : IsT d := hrow d (by rw [hs]; simp)
      have e2 := congrArg back hs
      rw [back_back hr] at e2
      generalize (back (tight r)).take i = A at e2
      generalize (back (tight r)).drop (i + 2) = B at e2
      have e3 : tight r = back B ++ und d :: und c :: back A := by
        rw [e2]
        simp [back]
      have hno := tight_adj h (back B).length
      rw [e3] at hno
      unfold adj at hno
      simp at hno
      exact hno (by rw [und_und hc, hcd])
  rw [← hb]
  -- draw r tight within back r, by pairs
  suffices H : ∀ (r : List Nat), Row r → ∀ t, Row t → RedS t → tight (back (t.reverse ++ r)) = tight (back ((r.foldl stepT t).reverse)) from H r h [] (fun _ z => by cases z) trivial
  intro r
  induction r with
  | nil => intro _ t _ _; simp
  | cons c r ih =>
    intro hr t ht hred
    have hc := hr c List.mem_cons_self
    have hr' : Row r := fun d hd => hr d (List.mem_cons_of_mem _ hd)
    rw [List.foldl_cons, ← ih hr' (stepT t c) (stepT_row ht hc) (step_red hred)]
    cases t with
    | nil => rfl
    | cons x s =>
      unfold stepT
      dsimp only
      split
      · rename_i e
        have hx := ht x List.mem_cons_self
        have e1 : back ((x :: s).reverse ++ c :: r) = back r ++ und c :: und x :: back s.reverse := by simp [back]
        have e2 : back (s.reverse ++ r) = back r ++ back s.reverse := by simp [back]
        rw [e1, e2]
        exact tight_cut (back_row hr') (und_T hc) (und_T hx) (by rw [und_und hx, e])
      · rw [List.reverse_cons (a := c), List.append_assoc]
        rfl

section
variable {M : Md} {k : Nat}
theorem at_tx {X : Cx} {Φ : Da → Prop} {r : List Nat} {i : Int} {j c : Nat} (hl : r.length ≤ 100000) (hi : i = j) (hc : r[j]? = some c) (h : Φ (sg c)) : IxW Φ (.str (tx r)) (.int i) := by
  subst hi
  exact .str (by rw [len_tx]; exact sl1 (by omega)) (atI_nat hc) h
end

abbrev LBackC (M : Md) (k : Nat) : Prop := Cal M k "_law_back" [true] (fun r : List Nat => [.str (tx r)]) (fun r => Row r ∧ r.length ≤ 100000) (fun r d => d = .str (tx (back r)))
section
variable {M : Md} {k : Nat}
end

/-! ### mathematics: what it costs to make a row bare -/
/-- costs as they may be: each at least 1, alike for turns that undo one another -/
structure WOk (w : Nat → Option Int) : Prop where
  pos : ∀ c x, w c = some x → 1 ≤ x
  sym : ∀ c, IsT c → w (und c) = w c
inductive Cst (w : Nat → Option Int) : List Nat → Int → Prop
  | nil : Cst w [] 0
  | del {c : Nat} {r : List Nat} {x n : Int} : IsT c → w c = some x → Cst w r n → Cst w (c :: r) (x + n)
  | pair {c : Nat} {a b : List Nat} {m n : Int} : IsT c → Cst w a m → Cst w b n → Cst w (c :: (a ++ und c :: b)) (m + n)
theorem row_app2 {a b : List Nat} (ha : Row a) (hb : Row b) : Row (a ++ b) := fun c hc => (List.mem_append.mp hc).elim (ha c) (hb c)
section
variable {w : Nat → Option Int}
theorem Cst.to {r s : List Nat} {n m : Int} (h : Cst w r n) (e : r = s) (e2 : n = m) : Cst w s m := e ▸ e2 ▸ h
theorem Cst.row {r : List Nat} {n : Int} (h : Cst w r n) : Row r := by
  induction h with
  | nil => exact row_nil
  | del hc _ _ ih => exact fun z hz => (List.mem_cons.mp hz).elim (fun e => e ▸ hc) (ih z)
  | pair hc _ _ ih1 ih2 =>
    intro z hz
    rcases List.mem_cons.mp hz with e | hz
    · exact e ▸ hc
    · rcases List.mem_append.mp hz with hz | hz
      · exact ih1 z hz
      · rcases List.mem_cons.mp hz with e | hz
        · exact e ▸ und_T hc
        · exact ih2 z hz
theorem Cst.nonneg (W : WOk w) {r : List Nat} {n : Int} (h : Cst w r n) : 0 ≤ n := by
  induction h with
  | nil => exact Int.le_refl _
  | del _ hx _ ih => have := W.pos _ _ hx; omega
  | pair _ _ _ ih1 ih2 => omega
theorem Cst.app {a b : List Nat} {m n : Int} (ha : Cst w a m) (hb : Cst w b n) : Cst w (a ++ b) (m + n) := by
  induction ha with
  | nil => exact hb.to rfl (by omega)
  | del hc hx _ ih => exact (Cst.del hc hx ih).to rfl (by omega)
  | pair hc h1 _ _ ih2 => exact (Cst.pair hc h1 ih2).to (by simp) (by omega)
theorem Cst.one {c : Nat} {x : Int} (hc : IsT c) (hx : w c = some x) : Cst w [c] x := (Cst.del hc hx .nil).to rfl (by omega)
theorem Cst.two {c : Nat} (hc : IsT c) : Cst w [c, und c] 0 := (Cst.pair hc .nil .nil).to rfl rfl
/-- something laid in at any place -/
theorem Cst.ins {t : List Nat} {k : Int} (ht : Cst w t k) : ∀ {s : List Nat} {n : Int}, Cst w s n → ∀ {p q : List Nat}, s = p ++ q → Cst w (p ++ (t ++ q)) (n + k) := by
  intro s n h
  induction h with
  | nil =>
    intro p q e
    obtain ⟨rfl, rfl⟩ := List.append_eq_nil_iff.mp e.symm
    exact ht.to (by simp) (by omega)
  | del hc hx h ih =>
    intro p q e
    cases p with
    | nil => exact (ht.app (Cst.del hc hx h)).to (by rw [e]; rfl) (by omega)
    | cons y p =>
      obtain ⟨ey, e0⟩ := List.cons.inj (show _ :: _ = _ :: (p ++ _) from e)
      clear e
      subst ey
      have e := e0
      exact (Cst.del hc hx (ih e)).to rfl (by omega)
  | @pair c a b m n hc h1 h2 ih1 ih2 =>
    intro p q e
    cases p with
    | nil => exact (ht.app (Cst.pair hc h1 h2)).to (by rw [e]; rfl) (by omega)
    | cons y p =>
      obtain ⟨ey, e0⟩ := List.cons.inj (show _ :: _ = _ :: (p ++ _) from e)
      clear e
      subst ey
      have e := e0
      rcases List.append_eq_append_iff.mp e with ⟨z, e1, e2⟩ | ⟨z, e1, e2⟩
      · cases z with
        | nil =>
          rw [List.append_nil] at e1
          subst e1
          have e2 : und c :: b = q := e2
          exact (Cst.pair hc (h1.app ht) h2).to (by rw [← e2]; simp) (by omega)
        | cons y z =>
          obtain ⟨ey, e3⟩ := List.cons.inj (show _ :: _ = _ :: (z ++ _) from e2)
          clear e2
          subst ey
          have e2 := e3
          subst e1
          exact (Cst.pair hc h1 (ih2 e2)).to (by simp) (by omega)
      · subst e2
        exact (Cst.pair hc (ih1 e1) h2).to (by simp) (by omega)
/-- one turn looked at: left out, or with one ahead, or with one behind -/
def Seen (w : Nat → Option Int) (p : List Nat) (x : Nat) (q : List Nat) (n : Int) : Prop :=
  (∃ v m, w x = some v ∧ Cst w (p ++ q) m ∧ n = v + m) ∨
  (∃ p1 p2 m1 m2, p = p1 ++ und x :: p2 ∧ Cst w p2 m1 ∧ Cst w (p1 ++ q) m2 ∧ n = m1 + m2) ∨
  (∃ q1 q2 m1 m2, q = q1 ++ und x :: q2 ∧ Cst w q1 m1 ∧ Cst w (p ++ q2) m2 ∧ n = m1 + m2)
theorem Cst.seen : ∀ {s : List Nat} {n : Int}, Cst w s n → ∀ {p q : List Nat} {x : Nat}, s = p ++ x :: q → Seen w p x q n := by
  intro s n h
  induction h with
  | nil => intro p q x e; simp at e
  | @del c r v n hc hx h ih =>
    intro p q x e
    cases p with
    | nil =>
      obtain ⟨rfl, rfl⟩ := List.cons.inj e
      exact .inl ⟨v, n, hx, h, rfl⟩
    | cons y p =>
      obtain ⟨ey, e0⟩ := List.cons.inj (show _ :: _ = _ :: (p ++ _) from e)
      clear e
      subst ey
      have e := e0
      rcases ih e with ⟨u, m, hu, h1, rfl⟩ | ⟨p1, p2, m1, m2, rfl, h1, h2, rfl⟩ | ⟨q1, q2, m1, m2, rfl, h1, h2, rfl⟩
      · exact .inl ⟨u, v + m, hu, Cst.del hc hx h1, by omega⟩
      · exact .inr (.inl ⟨c :: p1, p2, m1, v + m2, rfl, h1, Cst.del hc hx h2, by omega⟩)
      · exact .inr (.inr ⟨q1, q2, m1, v + m2, rfl, h1, Cst.del hc hx h2, by omega⟩)
  | @pair c a b m n hc h1 h2 ih1 ih2 =>
    intro p q x e
    cases p with
    | nil =>
      obtain ⟨rfl, rfl⟩ := List.cons.inj e
      exact .inr (.inr ⟨a, b, m, n, rfl, h1, h2, rfl⟩)
    | cons y p =>
      obtain ⟨ey, e0⟩ := List.cons.inj (show _ :: _ = _ :: (p ++ _) from e)
      clear e
      subst ey
      have e := e0
      have base : x = und c → q = b → p = a → Seen w (c :: p) x q (m + n) := fun e1 e2 e3 => by
        subst e1 e2 e3
        exact .inr (.inl ⟨[], p, m, n, by rw [und_und hc]; rfl, h1, h2, rfl⟩)
      rcases List.append_eq_append_iff.mp e with ⟨z, e1, e2⟩ | ⟨z, e1, e2⟩
      · cases z with
        | nil =>
          obtain ⟨e3, e4⟩ := List.cons.inj e2
          exact base e3.symm e4.symm (by simpa using e1)
        | cons y z =>
          obtain ⟨ey, e3⟩ := List.cons.inj (show _ :: _ = _ :: (z ++ _) from e2)
          clear e2
          subst ey
          have e2 := e3
          subst e1
          rcases ih2 e2 with ⟨u, k, hu, g1, rfl⟩ | ⟨p1, p2, m1, m2, rfl, g1, g2, rfl⟩ | ⟨q1, q2, m1, m2, rfl, g1, g2, rfl⟩
          · exact .inl ⟨u, m + k, hu, (Cst.pair hc h1 g1).to (by simp) rfl, by omega⟩
          · exact .inr (.inl ⟨c :: (a ++ und c :: p1), p2, m1, m + m2, by simp, g1, (Cst.pair hc h1 g2).to (by simp) rfl, by omega⟩)
          · exact .inr (.inr ⟨q1, q2, m1, m + m2, rfl, g1, (Cst.pair hc h1 g2).to (by simp) rfl, by omega⟩)
      · cases z with
        | nil =>
          obtain ⟨e3, e4⟩ := List.cons.inj e2
          exact base e3 e4 (by simpa using e1.symm)
        | cons y z =>
          obtain ⟨ey, e3⟩ := List.cons.inj (show _ :: _ = _ :: (z ++ _) from e2)
          clear e2
          subst ey
          have e2 := e3
          subst e2
          rcases ih1 e1 with ⟨u, k, hu, g1, rfl⟩ | ⟨p1, p2, m1, m2, rfl, g1, g2, rfl⟩ | ⟨q1, q2, m1, m2, rfl, g1, g2, rfl⟩
          · exact .inl ⟨u, k + n, hu, (Cst.pair hc g1 h2).to (by simp) rfl, by omega⟩
          · exact .inr (.inl ⟨c :: p1, p2, m1, m2 + n, rfl, g1, (Cst.pair hc g2 h2).to (by simp) rfl, by omega⟩)
          · exact .inr (.inr ⟨q1, q2 ++ und c :: b, m1, m2 + n, by simp, g1, (Cst.pair hc g2 h2).to (by simp) rfl, by omega⟩)
/-- one turn left out -/
theorem Cst.out (W : WOk w) {p q : List Nat} {x : Nat} {n v : Int} (h : Cst w (p ++ x :: q) n) (hv : w x = some v) : ∃ m, m ≤ n + v ∧ Cst w (p ++ q) m := by
  have hx : IsT x := h.row x (by simp)
  have hp := W.pos _ _ hv
  have hw : w (und x) = some v := (W.sym x hx).trans hv
  rcases h.seen rfl with ⟨u, m, hu, h1, rfl⟩ | ⟨p1, p2, m1, m2, rfl, h1, h2, rfl⟩ | ⟨q1, q2, m1, m2, rfl, h1, h2, rfl⟩
  · have := W.pos _ _ hu
    exact ⟨m, by omega, h1⟩
  · exact ⟨_, Int.le_of_eq (by omega), (Cst.ins (Cst.del (und_T hx) hw h1) h2 rfl).to (by simp) rfl⟩
  · exact ⟨_, Int.le_of_eq (by omega), (Cst.ins (h1.app (Cst.one (und_T hx) hw)) h2 rfl).to (by simp) rfl⟩
/-- one turn laid in -/
theorem Cst.put {p q : List Nat} {x : Nat} {n v : Int} (h : Cst w (p ++ q) n) (hx : IsT x) (hv : w x = some v) : Cst w (p ++ x :: q) (n + v) := (Cst.ins (Cst.one hx hv) h rfl).to (by simp) rfl
/-- the first turn goes to the end -/
theorem Cst.rot {q : List Nat} {x : Nat} {n : Int} (h : Cst w (x :: q) n) : Cst w (q ++ [x]) n := by
  have hx : IsT x := h.row x (by simp)
  rcases Cst.seen h (p := []) (q := q) (x := x) rfl with ⟨u, m, hu, h1, rfl⟩ | ⟨p1, p2, m1, m2, e, _⟩ | ⟨q1, q2, m1, m2, rfl, h1, h2, rfl⟩
  · exact (Cst.app (b := [x]) h1 (Cst.one hx hu)).to rfl (by omega)
  · simp at e
  · refine (h1.app (Cst.pair (b := []) (und_T hx) h2 .nil)).to ?_ (by omega)
    rw [und_und hx]
    simp
theorem Cst.rots : ∀ {a b : List Nat} {n : Int}, Cst w (a ++ b) n → Cst w (b ++ a) n
  | [], b, n, h => h.to (by simp) rfl
  | x :: a, b, n, h => by
    have h1 : Cst w (a ++ (b ++ [x])) n := (Cst.rot (q := a ++ b) h).to (by simp) rfl
    exact (Cst.rots h1).to (by simp) rfl
/-- two side by side that undo one another may go -/
theorem Cst.cut (W : WOk w) {a b : List Nat} {c d : Nat} {n : Int} (h : Cst w (a ++ c :: d :: b) n) (e : c = und d) : ∃ m, m ≤ n ∧ Cst w (a ++ b) m := by
  have hd : IsT d := h.row d (by simp)
  have hc : IsT c := h.row c (by simp)
  have ed : d = und c := und_eq hc e hd
  rcases h.seen rfl with ⟨u, m, hu, h1, rfl⟩ | ⟨p1, p2, m1, m2, rfl, h1, h2, rfl⟩ | ⟨q1, q2, m1, m2, e1, h1, h2, rfl⟩
  · have hp := W.pos _ _ hu
    have hv : w d = some u := by rw [ed, W.sym c hc, hu]
    obtain ⟨k, hk, h2⟩ := h1.out W hv
    exact ⟨k, by omega, h2⟩
  · have h3 := Cst.ins h1 (p := p1 ++ [d]) (q := b) h2 (by simp)
    exact ⟨_, Int.le_of_eq (by omega), h3.to (by rw [ed]; simp) rfl⟩
  · cases q1 with
    | nil =>
      obtain ⟨_, rfl⟩ := List.cons.inj e1
      have := h1.nonneg W
      exact ⟨m2, by omega, h2⟩
    | cons y q1 =>
      obtain ⟨rfl, rfl⟩ := List.cons.inj e1
      have h3 := Cst.ins h1.rot (p := a) (q := q2) h2 rfl
      exact ⟨_, Int.le_of_eq (by omega), h3.to (by rw [ed]; simp) rfl⟩
theorem Cst.uncut {a b : List Nat} {c d : Nat} {n : Int} (h : Cst w (a ++ b) n) (hc : IsT c) (hd : IsT d) (e : c = und d) : Cst w (a ++ c :: d :: b) n := by
  have := Cst.ins (Cst.two hc) h rfl
  rw [← und_eq hc e hd] at this
  exact this.to (by simp) (by omega)
theorem Cst.back (W : WOk w) {r : List Nat} {n : Int} (h : Cst w r n) : Cst w (back r) n := by
  induction h with
  | nil => exact .nil
  | del hc hx _ ih => exact (ih.app (Cst.one (und_T hc) ((W.sym _ hc).trans hx))).to (by simp [My.back]) (by omega)
  | @pair c a b m n hc _ _ ih1 ih2 =>
    refine (ih2.app (Cst.pair (b := []) hc ih1 .nil)).to ?_ (by omega)
    have e : My.back (c :: (a ++ und c :: b)) = My.back b ++ (und (und c) :: (My.back a ++ [und c])) := by simp [My.back]
    rw [e, und_und hc]
theorem Cst.cutMid (W : WOk w) : ∀ {t a b : List Nat} {n : Int}, Cst w (a ++ (t ++ (My.back t ++ b))) n → ∃ m, m ≤ n ∧ Cst w (a ++ b) m
  | [], a, b, n, h => ⟨n, Int.le_refl _, h.to (by simp [My.back]) rfl⟩
  | c :: t, a, b, n, h => by
    have hc : IsT c := h.row c (by simp)
    have h1 : Cst w ((a ++ [c]) ++ (t ++ (My.back t ++ (und c :: b)))) n := h.to (by simp [My.back]) rfl
    obtain ⟨m, hm, h2⟩ := Cst.cutMid W h1
    obtain ⟨k, hk, h3⟩ := Cst.cut W (a := a) (c := c) (d := und c) (b := b) (h2.to (by simp) rfl) (und_und hc).symm
    exact ⟨k, by omega, h3⟩
theorem Cst.selfBack : ∀ {t : List Nat}, Row t → Cst w (t ++ My.back t) 0
  | [], _ => .nil
  | c :: t, h => by
    have ih := Cst.selfBack (t := t) fun z hz => h z (List.mem_cons_of_mem _ hz)
    exact (Cst.pair (b := []) (h c List.mem_cons_self) ih .nil).to (by simp [My.back]) (by omega)
theorem Cst.uncutMid {t a b : List Nat} {n : Int} (ht : Row t) (h : Cst w (a ++ b) n) : Cst w (a ++ (t ++ (My.back t ++ b))) n :=
  (Cst.ins (Cst.selfBack ht) h rfl).to (by simp) (by omega)
/-- drawn tight -/
theorem Cst.fold (W : WOk w) : ∀ {r st : List Nat}, Row r → Row st → ∀ {n : Int}, (Cst w (st.reverse ++ r) n → ∃ m, m ≤ n ∧ Cst w (r.foldl stepT st).reverse m) ∧ (Cst w (r.foldl stepT st).reverse n → Cst w (st.reverse ++ r) n)
  | [], st, _, _, n => ⟨fun h => ⟨n, Int.le_refl _, h.to (by simp) rfl⟩, fun h => h.to (by simp) rfl⟩
  | c :: r, st, hr, hs, n => by
    have hc := hr c List.mem_cons_self
    have hr' : Row r := fun d hd => hr d (List.mem_cons_of_mem _ hd)
    have ih := fun n => Cst.fold W hr' (stepT_row hs hc) (n := n)
    rw [List.foldl_cons]
    have key : (Cst w (st.reverse ++ c :: r) n → ∃ m, m ≤ n ∧ Cst w ((stepT st c).reverse ++ r) m) ∧ (Cst w ((stepT st c).reverse ++ r) n → Cst w (st.reverse ++ c :: r) n) := by
      cases st with
      | nil => exact ⟨fun h => ⟨n, Int.le_refl _, h⟩, fun h => h⟩
      | cons x s =>
        have hx := hs x List.mem_cons_self
        unfold stepT
        dsimp only
        split
        · rename_i e
          exact ⟨fun h => Cst.cut W (a := s.reverse) (c := x) (d := c) (b := r) (h.to (by simp) rfl) e, fun h => (Cst.uncut h hx hc e).to (by simp) rfl⟩
        · exact ⟨fun h => ⟨n, Int.le_refl _, h.to (by simp) rfl⟩, fun h => h.to (by simp) rfl⟩
    refine ⟨fun h => ?_, fun h => key.2 ((ih n).2 h)⟩
    obtain ⟨m, hm, h1⟩ := key.1 h
    obtain ⟨k, hk, h2⟩ := (ih m).1 h1
    exact ⟨k, by omega, h2⟩
theorem Cst.tight (W : WOk w) {r : List Nat} {n : Int} (h : Cst w r n) : ∃ m, m ≤ n ∧ Cst w (My.tight r) m := (Cst.fold W (st := []) h.row row_nil).1 h
theorem Cst.untight (W : WOk w) {r : List Nat} (hr : Row r) {n : Int} (h : Cst w (My.tight r) n) : Cst w r n := (Cst.fold W (st := []) hr row_nil).2 h
theorem tight_mid {a b c : List Nat} (ha : Row a) (hb : Row b) (hc : Row c) (h : tight b = []) : tight (a ++ (b ++ c)) = tight (a ++ c) := by
  have h1 : tight (b ++ c) = tight c := by rw [← tight_parts hb hc, h, List.nil_append, tight_tight]
  rw [← tight_parts ha (row_app2 hb hc), h1, tight_parts ha hc]
theorem Cst.zero (W : WOk w) {r : List Nat} {n : Int} (h : Cst w r n) (hn : n ≤ 0) : My.tight r = [] := by
  induction h with
  | nil => rfl
  | del _ hx h _ => have := W.pos _ _ hx; have := h.nonneg W; omega
  | @pair c a b m n hc h1 h2 ih1 ih2 =>
    have n1 := h1.nonneg W
    have n2 := h2.nonneg W
    have hcr : Row [c] := fun z hz => by rw [List.mem_singleton.mp hz]; exact hc
    have hur : Row (und c :: b) := fun z hz => (List.mem_cons.mp hz).elim (fun e => e ▸ und_T hc) (h2.row z)
    have e1 := tight_mid (a := [c]) (c := und c :: b) hcr h1.row hur (ih1 (by omega))
    have e2 := tight_cut (a := []) (b := b) (c := c) (d := und c) row_nil hc (und_T hc) (und_und hc).symm
    show My.tight ([c] ++ (a ++ und c :: b)) = []
    rw [e1]
    exact e2.trans (ih2 (by omega))
theorem Cst.ofTight (W : WOk w) {r : List Nat} (hr : Row r) (h : My.tight r = []) : Cst w r 0 := Cst.untight W hr (by rw [h]; exact .nil)

/-! ### the least cost -/
def IsL (w : Nat → Option Int) (r : List Nat) : Option Int → Prop
  | none => ∀ n, ¬ Cst w r n
  | some n => Cst w r n ∧ ∀ m, Cst w r m → n ≤ m
theorem isL_ex (W : WOk w) (r : List Nat) : ∃ o, IsL w r o := by
  by_cases h : ∃ n, Cst w r n
  · obtain ⟨n, h⟩ := h
    have : ∀ k : Nat, ∀ n : Int, n.toNat ≤ k → Cst w r n → ∃ o, IsL w r o := by
      intro k
      induction k with
      | zero =>
        intro n hn h
        have := h.nonneg W
        exact ⟨some n, h, fun m hm => by have := hm.nonneg W; omega⟩
      | succ k ih =>
        intro n hn h
        by_cases h2 : ∃ m, Cst w r m ∧ m < n
        · obtain ⟨m, hm, hlt⟩ := h2
          have := hm.nonneg W
          exact ih m (by omega) hm
        · exact ⟨some n, h, fun m hm => by
            by_cases hlt : m < n
            · exact absurd ⟨m, hm, hlt⟩ h2
            · omega⟩
    exact this _ n (Nat.le_refl _) h
  · exact ⟨none, fun n hn => h ⟨n, hn⟩⟩
open Classical in
/-- the least cost of a row; none where it can't be made bare -/
@[irreducible] noncomputable def L (w : Nat → Option Int) (r : List Nat) : Option Int := if h : ∃ o, IsL w r o then choose h else none
theorem L_is (W : WOk w) (r : List Nat) : IsL w r (L w r) := by
  unfold L
  rw [dif_pos (isL_ex W r)]
  exact Classical.choose_spec (isL_ex W r)
theorem IsL.uniq {r : List Nat} {o o' : Option Int} (h : IsL w r o) (h' : IsL w r o') : o = o' := by
  cases o with
  | none =>
    cases o' with
    | none => rfl
    | some n => exact absurd h'.1 (h n)
  | some n =>
    cases o' with
    | none => exact absurd h.1 (h' n)
    | some m =>
      have := h.2 m h'.1
      have := h'.2 n h.1
      congr 1
      omega
/-- no more than: none stands for more than any -/
def Ole (a b : Option Int) : Prop := ∀ n, b = some n → ∃ m, a = some m ∧ m ≤ n
theorem Ole.refl (a : Option Int) : Ole a a := fun n h => ⟨n, h, Int.le_refl _⟩
theorem Ole.trans {a b c : Option Int} (h : Ole a b) (g : Ole b c) : Ole a c := fun n e => by
  obtain ⟨m, e1, l1⟩ := g n e
  obtain ⟨k, e2, l2⟩ := h m e1
  exact ⟨k, e2, by omega⟩
theorem Ole.anti {a b : Option Int} (h : Ole a b) (g : Ole b a) : a = b := by
  cases a with
  | none =>
    cases b with
    | none => rfl
    | some n => obtain ⟨m, e, _⟩ := h n rfl; cases e
  | some n =>
    obtain ⟨m, rfl, l1⟩ := g n rfl
    obtain ⟨k, e, l2⟩ := h m rfl
    cases e
    congr 1
    omega
def oplus : Option Int → Option Int → Option Int
  | some a, some b => some (a + b)
  | _, _ => none
theorem oplus_some {a b : Option Int} {n : Int} (h : oplus a b = some n) : ∃ x y, a = some x ∧ b = some y ∧ n = x + y := by
  cases a with
  | none => cases h
  | some x =>
    cases b with
    | none => cases h
    | some y => cases h; exact ⟨x, y, rfl, rfl, rfl⟩
theorem L_some (W : WOk w) {r : List Nat} {n : Int} (h : L w r = some n) : Cst w r n := by
  have := L_is W r
  rw [h] at this
  exact this.1
theorem L_le (W : WOk w) {r : List Nat} {n : Int} (h : Cst w r n) : ∃ m, L w r = some m ∧ m ≤ n := by
  have := L_is W r
  cases e : L w r with
  | none => rw [e] at this; exact absurd h (this n)
  | some m => rw [e] at this; exact ⟨m, rfl, this.2 n h⟩
theorem L_ole (W : WOk w) {r s : List Nat} (h : ∀ n, Cst w s n → ∃ m, m ≤ n ∧ Cst w r m) : Ole (L w r) (L w s) := fun n e => by
  obtain ⟨m, hm, hc⟩ := h n (L_some W e)
  obtain ⟨k, e2, l⟩ := L_le W hc
  exact ⟨k, e2, by omega⟩
theorem L_eq (W : WOk w) {r s : List Nat} (h : ∀ n, Cst w s n → ∃ m, m ≤ n ∧ Cst w r m) (g : ∀ n, Cst w r n → ∃ m, m ≤ n ∧ Cst w s m) : L w r = L w s := (L_ole W h).anti (L_ole W g)
theorem L_app (W : WOk w) (r s : List Nat) : Ole (L w (r ++ s)) (oplus (L w r) (L w s)) := fun n e => by
  obtain ⟨x, y, e1, e2, rfl⟩ := oplus_some e
  exact L_le W ((L_some W e1).app (L_some W e2))
theorem L_nil (W : WOk w) : L w [] = some 0 := by
  obtain ⟨m, e, l⟩ := L_le W (Cst.nil (w := w))
  have := (L_some W e).nonneg W
  rw [e]
  congr 1
  omega
theorem L_back (W : WOk w) {r : List Nat} (h : Row r) : L w (back r) = L w r := L_eq W (fun n hc => ⟨n, Int.le_refl _, hc.back W⟩) fun n hc => ⟨n, Int.le_refl _, by have := hc.back W; rwa [back_back h] at this⟩
theorem L_rots (W : WOk w) (a b : List Nat) : L w (a ++ b) = L w (b ++ a) := L_eq W (fun n hc => ⟨n, Int.le_refl _, hc.rots⟩) fun n hc => ⟨n, Int.le_refl _, hc.rots⟩
theorem L_tight (W : WOk w) {r : List Nat} (h : Row r) : L w (tight r) = L w r := L_eq W (fun n hc => hc.tight W) fun n hc => ⟨n, Int.le_refl _, hc.untight W h⟩
theorem L_mid (W : WOk w) {t a b : List Nat} (ht : Row t) : L w (a ++ (t ++ (back t ++ b))) = L w (a ++ b) := L_eq W (fun n hc => ⟨n, Int.le_refl _, hc.uncutMid ht⟩) fun n hc => hc.cutMid W
theorem L_mid2 (W : WOk w) {t a b : List Nat} (ht : Row t) : L w (a ++ (back t ++ (t ++ b))) = L w (a ++ b) := by
  have := L_mid W (a := a) (b := b) (back_row ht)
  rwa [back_back ht] at this
theorem L_zero (W : WOk w) {r : List Nat} (h : Row r) : L w r = some 0 ↔ tight r = [] := by
  refine ⟨fun e => (L_some W e).zero W (Int.le_refl _), fun e => ?_⟩
  rw [← L_tight W h, e]
  exact L_nil W
/-- the least of some -/
def IsMin (xs : List (Option Int)) : Option Int → Prop
  | none => ∀ x ∈ xs, x = none
  | some n => some n ∈ xs ∧ ∀ m, some m ∈ xs → n ≤ m
theorem IsMin.uniq {xs : List (Option Int)} {o o' : Option Int} (h : IsMin xs o) (h' : IsMin xs o') : o = o' := by
  cases o with
  | none =>
    cases o' with
    | none => rfl
    | some n => exact (h _ h'.1).symm
  | some n =>
    cases o' with
    | none => exact h' _ h.1
    | some m =>
      have := h.2 m h'.1
      have := h'.2 n h.1
      congr 1
      omega
/-- the least of ways with the first turn -/
theorem L_first (W : WOk w) {c : Nat} {r : List Nat} (hc : IsT c) {xs : List (Option Int)} (h1 : ∀ o ∈ xs, o = oplus (w c) (L w r) ∨ ∃ a b, r = a ++ und c :: b ∧ o = oplus (L w a) (L w b))
    (h2 : oplus (w c) (L w r) ∈ xs) (h3 : ∀ a b, r = a ++ und c :: b → oplus (L w a) (L w b) ∈ xs) : IsMin xs (L w (c :: r)) := by
  have low : ∀ n, some n ∈ xs → Cst w (c :: r) n := fun n hn => by
    rcases h1 _ hn with e | ⟨a, b, rfl, e⟩
    · obtain ⟨x, y, e1, e2, rfl⟩ := oplus_some e.symm
      exact Cst.del hc e1 (L_some W e2)
    · obtain ⟨x, y, e1, e2, rfl⟩ := oplus_some e.symm
      exact Cst.pair hc (L_some W e1) (L_some W e2)
  have high : ∀ n, Cst w (c :: r) n → ∃ m, some m ∈ xs ∧ m ≤ n := fun n hn => by
    rcases Cst.seen hn (p := []) (q := r) (x := c) rfl with ⟨u, m, hu, g1, rfl⟩ | ⟨p1, p2, m1, m2, e, _⟩ | ⟨q1, q2, m1, m2, rfl, g1, g2, rfl⟩
    · obtain ⟨k, e, l⟩ := L_le W g1
      have e : L w r = some k := e
      rw [hu, e] at h2
      exact ⟨_, h2, by omega⟩
    · simp at e
    · obtain ⟨k1, e1, l1⟩ := L_le W g1
      obtain ⟨k2, e2, l2⟩ := L_le W g2
      have e2 : L w q2 = some k2 := e2
      have := h3 q1 q2 rfl
      rw [e1, e2] at this
      exact ⟨_, this, by omega⟩
  cases e : L w (c :: r) with
  | none =>
    intro x hx
    cases x with
    | none => rfl
    | some n =>
      obtain ⟨m, e2, _⟩ := L_le W (low n hx)
      rw [e] at e2
      cases e2
  | some n =>
    obtain ⟨m, hm, l⟩ := high n (L_some W e)
    have hle : ∀ m, some m ∈ xs → n ≤ m := fun m hm => by
      obtain ⟨k, e2, l⟩ := L_le W (low m hm)
      rw [e] at e2
      cases e2
      exact l
    have := hle m hm
    have : m = n := by omega
    exact ⟨this ▸ hm, hle⟩
/-- .. with the last turn -/
theorem L_last (W : WOk w) {c : Nat} {r : List Nat} (hc : IsT c) {xs : List (Option Int)} (h1 : ∀ o ∈ xs, o = oplus (L w r) (w c) ∨ ∃ a b, r = a ++ und c :: b ∧ o = oplus (L w a) (L w b))
    (h2 : oplus (L w r) (w c) ∈ xs) (h3 : ∀ a b, r = a ++ und c :: b → oplus (L w a) (L w b) ∈ xs) : IsMin xs (L w (r ++ [c])) := by
  have low : ∀ n, some n ∈ xs → Cst w (r ++ [c]) n := fun n hn => by
    rcases h1 _ hn with e | ⟨a, b, rfl, e⟩
    · obtain ⟨x, y, e1, e2, rfl⟩ := oplus_some e.symm
      exact (L_some W e1).app (Cst.one hc e2)
    · obtain ⟨x, y, e1, e2, rfl⟩ := oplus_some e.symm
      refine ((L_some W e1).app (Cst.pair (b := []) (und_T hc) (L_some W e2) .nil)).to ?_ (by omega)
      rw [und_und hc]
      simp
  have high : ∀ n, Cst w (r ++ [c]) n → ∃ m, some m ∈ xs ∧ m ≤ n := fun n hn => by
    rcases Cst.seen hn (p := r) (q := []) (x := c) rfl with ⟨u, m, hu, g1, rfl⟩ | ⟨p1, p2, m1, m2, rfl, g1, g2, rfl⟩ | ⟨q1, q2, m1, m2, e, _⟩
    · rw [List.append_nil] at g1
      obtain ⟨k, e, l⟩ := L_le W g1
      rw [hu, e] at h2
      exact ⟨_, h2, by omega⟩
    · rw [List.append_nil] at g2
      obtain ⟨k1, e1, l1⟩ := L_le W g1
      obtain ⟨k2, e2, l2⟩ := L_le W g2
      have := h3 p1 p2 rfl
      rw [e1, e2] at this
      exact ⟨_, this, by omega⟩
    · simp at e
  cases e : L w (r ++ [c]) with
  | none =>
    intro x hx
    cases x with
    | none => rfl
    | some n =>
      obtain ⟨m, e2, _⟩ := L_le W (low n hx)
      rw [e] at e2
      cases e2
  | some n =>
    obtain ⟨m, hm, l⟩ := high n (L_some W e)
    have hle : ∀ m, some m ∈ xs → n ≤ m := fun m hm => by
      obtain ⟨k, e2, l⟩ := L_le W (low m hm)
      rw [e] at e2
      cases e2
      exact l
    have := hle m hm
    have : m = n := by omega
    exact ⟨this ▸ hm, hle⟩
end

/-! ### what each turn costs -/
theorem encO_od (o : Option Int) : Da.a (odV o) = encO o := by cases o <;> rfl
abbrev kC (c : Nat) : Key := .inr (tx [c])
/-- the cost of a turn -/
def wF (fl : Floor) (c : Nat) : Option Int := match fl.find? fun p => p.1 == c || p.1 - 32 == c with
  | some p => p.2
  | none => none
theorem asc_inj {fl : Floor} (h : FloorOk fl) {p q : Nat × Option Int} (hp : p ∈ fl) (hq : q ∈ fl) (e : p.1 = q.1) : p = q := by
  obtain ⟨i, hi⟩ := List.getElem?_of_mem hp
  obtain ⟨j, hj⟩ := List.getElem?_of_mem hq
  obtain ⟨hil, hi'⟩ := List.getElem?_eq_some_iff.mp hi
  obtain ⟨hjl, hj'⟩ := List.getElem?_eq_some_iff.mp hj
  have pw := List.pairwise_iff_getElem.mp h.asc
  have key : ∀ a b (ha : a < fl.length) (hb : b < fl.length), fl[a].1 = fl[b].1 → ¬ a < b := fun a b ha hb e2 hlt => by
    have := pw a b (by simpa using ha) (by simpa using hb) hlt
    simp at this
    omega
  have : i = j := by
    have h1 := key i j hil hjl (by rw [hi', hj']; exact e)
    have h2 := key j i hjl hil (by rw [hi', hj']; exact e.symm)
    omega
  subst this
  rw [hi] at hj
  exact Option.some.inj hj
theorem wF_mem {fl : Floor} (h : FloorOk fl) {p : Nat × Option Int} (hp : p ∈ fl) {c : Nat} (hc : c = p.1 ∨ c = p.1 - 32) : wF fl c = p.2 := by
  have hb := h.ok p hp
  unfold wF
  cases e : fl.find? fun p => p.1 == c || p.1 - 32 == c with
  | none =>
    have := List.find?_eq_none.mp e p hp
    simp at this
    omega
  | some q =>
    have hq := List.mem_of_find?_eq_some e
    have hbq := h.ok q hq
    have hx := List.find?_some e
    simp at hx
    have : q.1 = p.1 := by omega
    rw [asc_inj h hq hp this]
theorem turnsF_mem {fl : Floor} {c : Nat} (hc : c ∈ turnsF fl) : ∃ p ∈ fl, c = p.1 ∨ c = p.1 - 32 := by
  unfold turnsF lets at hc
  rcases List.mem_append.mp hc with hc | hc
  · obtain ⟨p, hp, rfl⟩ := List.mem_map.mp hc
    exact ⟨p, hp, .inl rfl⟩
  · rw [List.map_map] at hc
    obtain ⟨p, hp, rfl⟩ := List.mem_map.mp hc
    exact ⟨p, hp, .inr rfl⟩
theorem mem_turnsF {fl : Floor} {p : Nat × Option Int} (hp : p ∈ fl) : p.1 ∈ turnsF fl ∧ p.1 - 32 ∈ turnsF fl := by
  unfold turnsF lets
  rw [List.map_map]
  exact ⟨List.mem_append_left _ (List.mem_map_of_mem hp), List.mem_append_right _ (List.mem_map.mpr ⟨p, hp, rfl⟩)⟩
theorem wF_ok {fl : Floor} (h : FloorOk fl) : WOk (wF fl) := by
  have some_of : ∀ c x, wF fl c = some x → ∃ p ∈ fl, (p.1 = c ∨ p.1 - 32 = c) ∧ p.2 = some x := fun c x e => by
    unfold wF at e
    cases e2 : fl.find? fun p => p.1 == c || p.1 - 32 == c with
    | none => rw [e2] at e; cases e
    | some q =>
      rw [e2] at e
      have hx := List.find?_some e2
      simp at hx
      exact ⟨q, List.mem_of_find?_eq_some e2, hx, e⟩
  refine ⟨fun c x e => ?_, fun c hc => ?_⟩
  · obtain ⟨p, hp, _, e2⟩ := some_of c x e
    exact ((h.ok p hp).2.2 x e2).1
  · unfold wF
    have : ∀ p ∈ fl, (p.1 == und c || p.1 - 32 == und c) = (p.1 == c || p.1 - 32 == c) := fun p hp => by
      have hb := h.ok p hp
      unfold IsT at hc
      rw [Bool.eq_iff_iff]
      simp
      unfold und
      split <;> omega
    have e : fl.find? (fun p => p.1 == und c || p.1 - 32 == und c) = fl.find? (fun p => p.1 == c || p.1 - 32 == c) := by
      clear some_of
      have : ∀ l : Floor, (∀ p ∈ l, (p.1 == und c || p.1 - 32 == und c) = (p.1 == c || p.1 - 32 == c)) → l.find? (fun p => p.1 == und c || p.1 - 32 == und c) = l.find? (fun p => p.1 == c || p.1 - 32 == c) := by
        intro l
        induction l with
        | nil => intro _; rfl
        | cons p l ih =>
          intro hl
          rw [List.find?_cons, List.find?_cons, hl p List.mem_cons_self, ih fun q hq => hl q (List.mem_cons_of_mem _ hq)]
      exact this fl ‹_›
    rw [e]
/-- a dict of the costs of a floor's turns -/
structure IsCosts (fl : Floor) (kvs : List (Key × V)) : Prop where
  at_ : ∀ c ∈ turnsF fl, valV kvs (kC c) = some (odV (wF fl c))
  no : ∀ q : Key, (∀ c ∈ turnsF fl, q ≠ kC c) → valV kvs q = none
theorem kC_inj {c d : Nat} (h : kC c = kC d) : c = d := by
  have := Sum.inr.inj h
  have := congrArg (fun z : Str => z.cps.toList) this
  simpa [tx] using this
abbrev CostsC (M : Md) (k : Nat) : Prop := Cal M k "costs_of" [true] (fun fl : Floor => [encF fl]) FloorOk (fun fl d => ∃ kvs, d = .dk kvs ∧ IsCosts fl kvs)
abbrev PlusC (M : Md) (k : Nat) : Prop := Cal M k "plus" [true, true] (fun p : Option Int × Option Int => [encO p.1, encO p.2]) (fun _ => True) (fun p d => d = encO (oplus p.1 p.2))
/-- what a costs' dict holds behind some posts -/
structure CostsAt (fl : Floor) (i : Nat) (kvs : List (Key × V)) : Prop where
  len : kvs.length ≤ 2 * i
  at_ : ∀ p ∈ fl.take i, valV kvs (kC p.1) = some (odV p.2) ∧ valV kvs (kC (p.1 - 32)) = some (odV p.2)
  no : ∀ q : Key, (∀ p ∈ fl.take i, q ≠ kC p.1 ∧ q ≠ kC (p.1 - 32)) → valV kvs q = none
theorem CostsAt.nil (fl : Floor) : CostsAt fl 0 [] := ⟨Nat.zero_le _, fun p hp => by simp at hp, fun q _ => rfl⟩
theorem CostsAt.step {fl : Floor} {i : Nat} {kvs : List (Key × V)} {p : Nat × Option Int} (h : FloorOk fl) (c : CostsAt fl i kvs) (hp : fl[i]? = some p) : CostsAt fl (i + 1) (putK (putK kvs (kC p.1) (odV p.2)) (kC (p.1 - 32)) (odV p.2)) := by
  have l1 := length_putK kvs (kC p.1) (odV p.2)
  have l2 := length_putK (putK kvs (kC p.1) (odV p.2)) (kC (p.1 - 32)) (odV p.2)
  have l3 := c.len
  have hpm := List.mem_of_getElem? hp
  have hb := h.ok p hpm
  have et : fl.take (i + 1) = fl.take i ++ [p] := by rw [List.take_add_one, hp]; rfl
  refine ⟨by omega, fun q hq => ?_, fun q hq => ?_⟩
  · have hqm := List.mem_of_mem_take hq
    have hbq := h.ok q hqm
    rw [valV_put, valV_put, valV_put, valV_put]
    by_cases e : q.1 = p.1
    · have : q = p := asc_inj h hqm hpm e
      subst this
      refine ⟨?_, by rw [if_pos rfl]⟩
      rw [if_neg (fun z => by have := kC_inj z; omega), if_pos rfl]
    · have hq' : q ∈ fl.take i := by
        rw [et] at hq
        rcases List.mem_append.mp hq with hq | hq
        · exact hq
        · exact absurd (congrArg (·.1) (List.mem_singleton.mp hq)) e
      have := c.at_ q hq'
      rw [if_neg (fun z => by have := kC_inj z; omega), if_neg (fun z => e (kC_inj z)), if_neg (fun z => by have := kC_inj z; omega), if_neg (fun z => by have := kC_inj z; omega)]
      exact this
  · have hl := hq p (by rw [et]; simp)
    rw [valV_put, valV_put, if_neg hl.2, if_neg hl.1]
    exact c.no q fun r hr => hq r (by rw [et]; exact List.mem_append_left _ hr)
theorem CostsAt.full {fl : Floor} {kvs : List (Key × V)} (h : FloorOk fl) (c : CostsAt fl fl.length kvs) : IsCosts fl kvs := by
  have e : fl.take fl.length = fl := List.take_length
  refine ⟨fun d hd => ?_, fun q hq => c.no q fun p hp => ?_⟩
  · obtain ⟨p, hp, hc⟩ := turnsF_mem hd
    have := c.at_ p (by rw [e]; exact hp)
    rw [wF_mem h hp hc]
    rcases hc with rfl | rfl
    · exact this.1
    · exact this.2
  · rw [e] at hp
    have := mem_turnsF hp
    exact ⟨hq _ this.1, hq _ this.2⟩
section
variable {M : Md} {k : Nat}
theorem ok_costs {f : Addr} {fd : FuncData} (F : Fun M.K "costs_of" "costs_of" s_costs_of f fd) (cU : UndoesC M k) :
    FnOk M.P M.w M.K M.mg M.base CX0 (k + 1) f fd ["floor"] (SpD M.K [true] (fun fl : Floor => [encF fl]) FloorOk (fun fl d => ∃ kvs, d = .dk kvs ∧ IsCosts fl kvs)) := by
  refine fn_ok F S_costs_of rfl fun X S fl hf => ?_
  show DB X _ [some (.d (encF fl)), none, none, none] _ _ _ _
  have hl := hf.len
  refine db_cons (ds_ownK S ⟨_, by walk_at "ss", ?_⟩ (by walk_at "dk"))
  refine db_cons (ds_for S (di_tup ?_))
  walk_at "go"
  refine ⟨_, rfl, fun i δ => ∃ (kvs : List (Key × V)) (a b : Option SD), δ = [some (.d (encF fl)), some (.ok kvs), a, b] ∧ CostsAt fl i kvs, ⟨[], none, none, rfl, CostsAt.nil fl⟩, ?_, ?_⟩
  · rintro i d δ' hi ⟨kvs, a, b, rfl, hc⟩
    rw [List.getElem?_map] at hi
    obtain ⟨p, hp, rfl⟩ := Option.map_eq_some_iff.mp hi
    have hil := (List.getElem?_eq_some_iff.mp hp).1
    have hb := hf.ok p (List.mem_of_getElem? hp)
    have hlen := hc.len
    have l1 := length_putK kvs (kC p.1) (odV p.2)
    refine ⟨_, dg_tup S (dgs_cons (dg_name S (by walk_at "dk") ⟨_, by walk_at "ss", dgs_cons (dg_name S (by walk_at "dk") ⟨_, by walk_at "ss", dgs_nil ?_⟩)⟩))⟩
    refine db_cons (ds_dputK S (by walk_at "gt") (by walk_at "dk") (by omega) ?_)
    walk_at "go"
    refine ⟨odV p.2, kC p.1, (encO_od _).symm, rfl, _, by walk_at "ss", ?_⟩
    refine db_cons (ds_dputK S (by walk_at "gt") (by walk_at "dk") (by omega) ?_)
    walk_at "go"
    refine ⟨p.1, rfl, .inl ⟨hb.1, hb.2.1⟩, ?_⟩
    rintro _ rfl
    have eu : und p.1 = p.1 - 32 := by unfold und; rw [if_pos hb.1]
    rw [eu]
    refine ⟨odV p.2, kC (p.1 - 32), (encO_od _).symm, rfl, _, by walk_at "ss", ?_⟩
    walk_at "go"
    exact ⟨_, _, _, rfl, hc.step hf hp⟩
  · rintro δ' ⟨kvs, a, b, rfl, hc⟩
    rw [encF_len] at hc
    refine db_freezeK (x := "found") (by walk_at "gt") ⟨_, by walk_at "ss", ?_⟩ S.nd
    walk_at "go"
    exact ⟨_, rfl, hc.full hf⟩
theorem ok_plus {f : Addr} {fd : FuncData} (F : Fun M.K "plus" "plus" s_plus f fd) :
    FnOk M.P M.w M.K M.mg M.base CX0 (k + 1) f fd ["one", "other"] (SpD M.K [true, true] (fun p : Option Int × Option Int => [encO p.1, encO p.2]) (fun _ => True) (fun p d => d = encO (oplus p.1 p.2))) := by
  refine fn_ok F S_plus rfl fun X S ⟨a, b⟩ _ => ?_
  dsimp only
  show DB X _ [some (.d (encO a)), some (.d (encO b))] _ _ _ _
  cases a with
  | none =>
    walk_at "go"
    refine .isN ?_
    walk_at "go"
    rfl
  | some i =>
    cases b with
    | none =>
      walk_at "go"
      refine .isN ?_
      walk_at "go"
      refine .isN ?_
      walk_at "go"
      rfl
    | some j =>
      walk_at "go"
      refine .isN ?_
      walk_at "go"
      refine .isN ?_
      walk_at "go"
      rfl
end

/-! ### the table of least costs, by first turns -/
/-- a stretch of a row -/
def sub (r : List Nat) (b l : Nat) : List Nat := (r.drop b).take l
theorem sub_zero (r : List Nat) (b : Nat) : sub r b 0 = [] := by simp [sub]
theorem sub_all (r : List Nat) : sub r 0 r.length = r := by simp [sub]
theorem sub_len {r : List Nat} {b l : Nat} (h : b + l ≤ r.length) : (sub r b l).length = l := by simp [sub]; omega
theorem sub_get {r : List Nat} {b l i : Nat} (h : i < l) : (sub r b l)[i]? = r[b + i]? := by
  unfold sub
  rw [List.getElem?_take, if_pos h, List.getElem?_drop]
theorem sub_cons {r : List Nat} {b l : Nat} {c : Nat} (hc : r[b]? = some c) : sub r b (l + 1) = c :: sub r (b + 1) l := by
  unfold sub
  have hb := (List.getElem?_eq_some_iff.mp hc).1
  rw [List.drop_eq_getElem_cons hb, List.take_succ_cons, (List.getElem?_eq_some_iff.mp hc).2]
theorem sub_sub {r : List Nat} {b l i j : Nat} (h : i + j ≤ l) : sub (sub r b l) i j = sub r (b + i) j := by
  unfold sub
  rw [List.drop_take, List.drop_drop, List.take_take, Nat.min_eq_left (by omega)]
theorem sub_split {r : List Nat} {b l o : Nat} {x : Nat} (ho : o < l) (hx : r[b + o]? = some x) : sub r b l = sub r b o ++ x :: sub r (b + o + 1) (l - o - 1) := by
  have e : sub r b l = sub (sub r b l) 0 o ++ (sub r b l).drop o := by
    unfold sub
    rw [List.drop_zero, List.take_append_drop]
  have hxs : (sub r b l)[o]? = some x := by rw [sub_get ho]; exact hx
  have hl := (List.getElem?_eq_some_iff.mp hxs).1
  rw [e, sub_sub (by omega), Nat.add_zero, List.drop_eq_getElem_cons hl, (List.getElem?_eq_some_iff.mp hxs).2]
  congr 2
  have : (sub r b l).drop (o + 1) = sub r (b + o + 1) (l - o - 1) := by
    unfold sub
    rw [List.drop_take, List.drop_drop, Nat.sub_sub]
    rfl
  exact this
theorem sub_row {r : List Nat} (h : Row r) (b l : Nat) : Row (sub r b l) := fun c hc => h c (List.mem_of_mem_drop (List.mem_of_mem_take hc))
/-- what the table at stretches below n holds -/
def TabTo (w : Nat → Option Int) (r : List Nat) (n : Nat) (kvs : List (List Key × V)) : Prop := ∀ b l, b + l ≤ r.length → l < n → valV kvs [.inl (b : Nat), .inl (l : Nat)] = some (odV (L w (sub r b l)))
/-- the ways with the first turn of a stretch -/
noncomputable def waysL (w : Nat → Option Int) (r : List Nat) (b l : Nat) : List (Option Int × Option Int) :=
  (oplus (w (r.getD b 0)) (L w (sub r (b + 1) (l - 1))), none) ::
    (((List.range (l - 1)).map fun i => b + 1 + i).filter fun o => decide (r.getD o 0 = und (r.getD b 0))).map fun o => (oplus (L w (sub r (b + 1) (o - b - 1))) (L w (sub r (o + 1) (b + l - o - 1))), some (o : Int))
def encW (p : Option Int × Option Int) : Da := .tup [encO p.1, encO p.2]
theorem waysL_len (w : Nat → Option Int) (r : List Nat) (b l : Nat) (h : 1 ≤ l) : (waysL w r b l).length ≤ l := by
  unfold waysL
  rw [List.length_cons, List.length_map]
  have := List.length_filter_le (fun o => decide (r.getD o 0 = und (r.getD b 0))) ((List.range (l - 1)).map fun i => b + 1 + i)
  rw [List.length_map, List.length_range] at this
  omega
theorem getD_of {r : List Nat} {i c : Nat} (h : r[i]? = some c) : r.getD i 0 = c := by
  rw [List.getD_eq_getElem?_getD, h]
  rfl
theorem waysL_min {w : Nat → Option Int} (W : WOk w) {r : List Nat} (hr : Row r) {b l : Nat} (hl : 1 ≤ l) (hb : b + l ≤ r.length) : IsMin ((waysL w r b l).map (·.1)) (L w (sub r b l)) := by
  obtain ⟨c, hc⟩ : ∃ c, r[b]? = some c := ⟨r[b], List.getElem?_eq_getElem (by omega)⟩
  obtain ⟨m, rfl⟩ : ∃ m, l = m + 1 := ⟨l - 1, by omega⟩
  have hcT := hr c (List.mem_of_getElem? hc)
  have ec := getD_of hc
  rw [sub_cons hc]
  unfold waysL
  rw [ec]
  refine L_first W hcT (fun o ho => ?_) ?_ fun p q e => ?_
  · rw [List.map_cons, List.map_map] at ho
    rcases List.mem_cons.mp ho with e | ho
    · exact .inl e
    · obtain ⟨i, hi, rfl⟩ := List.mem_map.mp ho
      obtain ⟨hi1, hi2⟩ := List.mem_filter.mp hi
      obtain ⟨j, hj, rfl⟩ := List.mem_map.mp hi1
      have hj := List.mem_range.mp hj
      obtain ⟨x, hx⟩ : ∃ x, r[b + 1 + j]? = some x := ⟨r[b + 1 + j], List.getElem?_eq_getElem (by omega)⟩
      have e2 : x = und c := by rw [getD_of hx] at hi2; simpa using hi2
      refine .inr ⟨sub r (b + 1) j, sub r (b + 1 + j + 1) (m - j - 1), ?_, ?_⟩
      · rw [← e2]
        exact sub_split (by omega) hx
      · dsimp only [Function.comp]
        rw [show b + 1 + j - b - 1 = j by omega, show b + (m + 1) - (b + 1 + j) - 1 = m - j - 1 by omega]
  · exact List.mem_cons_self
  · have hlen := congrArg List.length e
    rw [sub_len (by omega)] at hlen
    simp at hlen
    have hx : r[b + 1 + p.length]? = some (und c) := by
      have := sub_get (r := r) (b := b + 1) (l := m) (i := p.length) (by omega)
      rw [← this, e]
      simp
    have hsp := sub_split (r := r) (b := b + 1) (l := m) (o := p.length) (by omega) hx
    rw [hsp] at e
    have hp1 : (sub r (b + 1) p.length).length = p.length := sub_len (by omega)
    obtain ⟨e1, e2⟩ := List.append_inj e hp1
    rw [List.map_cons, List.map_map]
    refine List.mem_cons_of_mem _ (List.mem_map.mpr ⟨b + 1 + p.length, List.mem_filter.mpr ⟨List.mem_map.mpr ⟨p.length, List.mem_range.mpr (by omega), rfl⟩, ?_⟩, ?_⟩)
    · rw [getD_of hx]
      simp
    · dsimp only [Function.comp]
      rw [show b + 1 + p.length - b - 1 = p.length by omega, e1, show b + (m + 1) - (b + 1 + p.length) - 1 = m - p.length - 1 by omega, (List.cons.inj e2).2]
/-- the least of whole numbers is that of what they stand for -/
theorem ominI_min {xs : List (Option Int)} {o : Option Int} (h : IsMin xs o) : ominI (xs.filterMap id) = o := by
  have key : ∀ (n : Int) (r : List Int), r.foldl min n ∈ n :: r ∧ ∀ m ∈ n :: r, r.foldl min n ≤ m := by
    intro n r
    induction r generalizing n with
    | nil => exact ⟨List.mem_cons_self, fun m hm => by rw [List.mem_singleton.mp hm]; exact Int.le_refl _⟩
    | cons a r ih =>
      rw [List.foldl_cons]
      obtain ⟨h1, h2⟩ := ih (min n a)
      refine ⟨?_, fun m hm => ?_⟩
      · rcases List.mem_cons.mp h1 with e | e
        · rw [e]
          rcases Int.le_total n a with q | q
          · rw [Int.min_eq_left q]; exact List.mem_cons_self
          · rw [Int.min_eq_right q]; exact List.mem_cons_of_mem _ List.mem_cons_self
        · exact List.mem_cons_of_mem _ (List.mem_cons_of_mem _ e)
      · have hmin := h2 (min n a) List.mem_cons_self
        rcases List.mem_cons.mp hm with rfl | hm
        · have := Int.min_le_left m a; omega
        · rcases List.mem_cons.mp hm with rfl | hm
          · have := Int.min_le_right n m; omega
          · exact h2 m (List.mem_cons_of_mem _ hm)
  have mem : ∀ m, m ∈ xs.filterMap id ↔ some m ∈ xs := fun m => by simp
  refine IsMin.uniq (xs := xs) ?_ h
  cases e : xs.filterMap id with
  | nil =>
    intro x hx
    cases x with
    | none => rfl
    | some m =>
      have := (mem m).mpr hx
      rw [e] at this
      cases this
  | cons n r =>
    obtain ⟨h1, h2⟩ := key n r
    exact ⟨(mem _).mp (by rw [e]; exact h1), fun m hm => h2 m (by rw [← e]; exact (mem m).mpr hm)⟩
/-- what is given to ways -/
structure WaysA where
  fl : Floor
  r : List Nat
  kc : List (Key × V)
  kt : List (List Key × V)
  b : Nat
  l : Nat
def WaysPre (a : WaysA) : Prop := FloorOk a.fl ∧ RowOf a.fl a.r ∧ a.r.length ≤ 300 ∧ IsCosts a.fl a.kc ∧ TabTo (wF a.fl) a.r a.l a.kt ∧ 1 ≤ a.l ∧ a.b + a.l ≤ a.r.length
def WaysPost (a : WaysA) (d : Da) : Prop := d = .lst ((waysL (wF a.fl) a.r a.b a.l).map encW)
abbrev WaysC (M : Md) (k : Nat) : Prop := Cal M k "ways" [true, true, false, true, true] (fun a : WaysA => [.str (tx a.r), .dk a.kc, .dt a.kt, .int (a.b : Nat), .int (a.l : Nat)]) WaysPre WaysPost
structure TabOf (w : Nat → Option Int) (r : List Nat) (kvs : List (List Key × V)) : Prop where
  at_ : TabTo w r (r.length + 1) kvs
def BestPre (p : Floor × List Nat) : Prop := FloorOk p.1 ∧ RowOf p.1 p.2 ∧ p.2.length ≤ 300
abbrev BestC (M : Md) (k : Nat) : Prop := Cal M k "best_table" [true, true] (fun p : Floor × List Nat => [encF p.1, .str (tx p.2)]) BestPre (fun p d => ∃ kvs, d = .dt kvs ∧ TabOf (wF p.1) p.2 kvs)
abbrev LeastC (M : Md) (k : Nat) : Prop := Cal M k "least" [true, true] (fun p : Floor × List Nat => [encF p.1, .str (tx p.2)]) BestPre (fun p d => d = encO (L (wF p.1) p.2))
theorem sub_nat1 (b i : Nat) : b + 1 + i - b - 1 = i := by omega
section
variable {M : Md} {k : Nat}
theorem tab_ix {X : Cx} {Ψ : Da → Prop} {w : Nat → Option Int} {r : List Nat} {n : Nat} {kvs : List (List Key × V)} (h : TabTo w r n kvs) {i j : Int} {b l : Nat} (hi : i = b) (hj : j = l) (hb : b + l ≤ r.length) (hl : l < n) (p : Ψ (.a (odV (L w (sub r b l))))) :
    IxW Ψ (.dt kvs) (.tup [.int i, .int j]) := by
  subst hi hj
  exact .dt (q := [.inl (b : Nat), .inl (l : Nat)]) rfl (h b l hb hl) p
theorem ok_ways {f : Addr} {fd : FuncData} (F : Fun M.K "ways" "ways" s_ways f fd) (cU : UndoesC M k) (cP : PlusC M k) (mr : M.mg "range" = none) :
    FnOk M.P M.w M.K M.mg M.base CX0 (k + 1) f fd ["row", "costs", "table", "begin", "long"] (SpD M.K [true, true, false, true, true] (fun a : WaysA => [.str (tx a.r), .dk a.kc, .dt a.kt, .int (a.b : Nat), .int (a.l : Nat)]) WaysPre WaysPost) := by
  refine fn_ok F S_ways rfl fun X S ⟨fl, r, kc, kt, b, l⟩ ⟨hf, hro, hrl, hkc, hkt, hl, hbl⟩ => ?_
  dsimp only at hf hro hrl hkc hkt hl hbl ⊢
  show DB X _ [some (.d (.str (tx r))), some (.d (.dk kc)), some (.b (.dt kt)), some (.d (.int (b : Nat))), some (.d (.int (l : Nat))), none, none, none, none] _ _ _ _
  have hr := hro.row hf
  obtain ⟨c, hc⟩ : ∃ c, r[b]? = some c := ⟨r[b], List.getElem?_eq_getElem (by omega)⟩
  have hcm := hro c (List.mem_of_getElem? hc)
  have hcT := hr c (List.mem_of_getElem? hc)
  have ec := getD_of hc
  refine db_cons (ds_ownLs S ?_ (by walk_at "dk") (by walk_at "dk"))
  walk_at "go"
  refine at_tx (X := X) (by omega) rfl hc ?_
  refine .dk (q := kC c) rfl (hkc.at_ c hcm) ?_
  rw [encO_od]
  walk_at "go"
  refine tab_ix (X := X) hkt (b := b + 1) (l := l - 1) (by omega) (by omega) (by omega) (by omega) ⟨_, rfl, ?_⟩
  rw [encO_od]
  walk_at "go"
  refine ⟨(_, _), rfl, trivial, ?_⟩
  rintro _ rfl
  walk_at "go"
  refine ⟨_, by walk_at "ss", ?_⟩
  dsimp only
  refine db_cons (ds_for S (di_range2 S mr (by walk_at "dk") ?_))
  walk_at "go"
  refine ⟨_, _, rfl, rfl, ⟨by omega, by omega, by omega, by omega⟩, ?_⟩
  rw [show ((b : Int) + l - ((b : Int) + 1)).toNat = l - 1 by omega]
  refine ⟨fun i δ => ∃ (x y z : Option SD), δ = [some (.d (.str (tx r))), some (.d (.dk kc)), some (.b (.dt kt)), some (.d (.int (b : Nat))), some (.d (.int (l : Nat))),
    some (.ol (((oplus (wF fl c) (L (wF fl) (sub r (b + 1) (l - 1))), none) :: (((List.range i).map fun i => b + 1 + i).filter fun o => decide (r.getD o 0 = und c)).map fun o => (oplus (L (wF fl) (sub r (b + 1) (o - b - 1))) (L (wF fl) (sub r (o + 1) (b + l - o - 1))), some (o : Int))).map encW)), x, y, z],
    ⟨_, _, _, rfl⟩, ?_, ?_⟩
  · rintro i d δ' hi ⟨x, y, z, rfl⟩
    obtain ⟨hil, rfl⟩ := rangeD_get hi
    obtain ⟨e, he⟩ : ∃ e, r[b + 1 + i]? = some e := ⟨r[b + 1 + i], List.getElem?_eq_getElem (by omega)⟩
    have heT := hr e (List.mem_of_getElem? he)
    refine ⟨_, dg_name S (by walk_at "dk") ⟨_, by walk_at "ss", ?_⟩⟩
    have et : (List.range (i + 1)).map (fun i => b + 1 + i) = (List.range i).map (fun i => b + 1 + i) ++ [b + 1 + i] := by rw [List.range_succ, List.map_append]; rfl
    have hbound : ((((List.range i).map fun i => b + 1 + i).filter fun o => decide (r.getD o 0 = und c))).length ≤ i := by
      have := List.length_filter_le (fun o => decide (r.getD o 0 = und c)) ((List.range i).map fun i => b + 1 + i)
      rw [List.length_map, List.length_range] at this
      exact this
    walk_at "go"
    refine at_tx (X := X) (j := b + 1 + i) (by omega) (by omega) he ?_
    walk_at "go"
    refine at_tx (X := X) (by omega) rfl hc ?_
    walk_at "go"
    refine ⟨c, rfl, hcT, ?_⟩
    rintro _ rfl
    walk_at "go"
    refine .eqS rfl ⟨fun h => ?_, fun h => ?_⟩
    · have e1 : e = und c := by simpa using h
      walk_at "go"
      refine tab_ix (X := X) hkt (b := b + 1) (l := i) (by omega) (by omega) (by omega) (by omega) ⟨_, rfl, ?_⟩
      rw [encO_od]
      walk_at "go"
      refine tab_ix (X := X) hkt (b := b + 1 + i + 1) (l := l - i - 2) (by omega) (by omega) (by omega) (by omega) ⟨_, rfl, ?_⟩
      rw [encO_od]
      walk_at "go"
      refine ⟨_, _, by walk_at "ss", by walk_at "ss", ?_⟩
      walk_at "go"
      rotate_left
      · rw [List.length_map, List.length_cons, List.length_map]
        omega
      refine ⟨(_, _), rfl, trivial, ?_⟩
      rintro _ rfl
      walk_at "go"
      refine ⟨_, by walk_at "ss", ?_⟩
      walk_at "go"
      have e2 := sub_nat1 b i
      have e3 : b + l - (b + 1 + i) - 1 = l - i - 2 := by omega
      refine ⟨_, _, _, by
        rw [et, List.filter_append, List.map_append, List.filter_cons_of_pos (by rw [getD_of he, e1]; simp)]
        simp only [List.filter_nil, List.map_cons, List.map_nil, List.map_append, List.cons_append, e2, e3, encW, encO]
        rfl⟩
    · have e1 : ¬ e = und c := by simpa using h
      walk_at "go"
      exact ⟨_, _, _, by
        rw [et, List.filter_append, List.filter_cons_of_neg (by rw [getD_of he]; simpa using e1)]
        simp only [List.filter_nil, List.append_nil]
        rfl⟩
  · rintro δ' ⟨x, y, z, rfl⟩
    rw [rangeD_len]
    refine db_freezeL (x := "found") (by walk_at "gt") ⟨_, by walk_at "ss", ?_⟩ S.nd
    walk_at "go"
    show WaysPost _ _
    unfold WaysPost waysL
    dsimp only
    rw [ec]
end

/-! ### the table, the least cost -/
theorem key2_ne {a b c d : Nat} (h : ¬ (a = c ∧ b = d)) : ¬ (([.inl (a : Int), .inl (b : Int)] : List Key) = [.inl (c : Int), .inl (d : Int)]) := fun e => by
  simp at e
  exact h ⟨by omega, by omega⟩
theorem filt_ints (xs : List (Option Int × Option Int)) : (xs.filter fun p => p.1.isSome).map (fun p => encO p.1) = ((xs.map (·.1)).filterMap id).map Da.int := by
  induction xs with
  | nil => rfl
  | cons p xs ih =>
    obtain ⟨a, b⟩ := p
    cases a with
    | none => simpa using ih
    | some i => exact congrArg (Da.int i :: ·) ih
section
variable {M : Md} {k : Nat}
theorem ok_best {f : Addr} {fd : FuncData} (F : Fun M.K "best_table" "best_table" s_best_table f fd) (cC : CostsC M k) (cW : WaysC M k) (ml : M.mg "len" = none) (mr : M.mg "range" = none) (mn : M.mg "min" = none) :
    FnOk M.P M.w M.K M.mg M.base CX0 (k + 1) f fd ["floor", "row"] (SpD M.K [true, true] (fun p : Floor × List Nat => [encF p.1, .str (tx p.2)]) BestPre (fun p d => ∃ kvs, d = .dt kvs ∧ TabOf (wF p.1) p.2 kvs)) := by
  refine fn_ok F S_best_table rfl fun X S ⟨fl, r⟩ ⟨hf, hro, hrl⟩ => ?_
  dsimp only at hf hro hrl ⊢
  show DB X _ [some (.d (encF fl)), some (.d (.str (tx r))), none, none, none, none, none, none, none, none] _ _ _ _
  have hr := hro.row hf
  have W := wF_ok hf
  walk_at "go"
  refine ⟨fl, rfl, hf, ?_⟩
  rintro _ ⟨kc, rfl, hkc⟩
  walk_at "go"
  refine bw_lenS (by rw [len_tx]; exact sl1 (by omega)) ?_
  rw [len_tx]
  refine ⟨_, _, by walk_at "ss", by walk_at "ss", ?_⟩
  refine db_cons (ds_setTc S (di_range1 S mr (by walk_at "dk") ?_) (os := ["begin"]) (by walk_at "dk") (by walk_at "dk") (by walk_at "dk"))
  walk_at "go"
  refine ⟨_, rfl, by omega, by omega, ?_⟩
  rw [show ((r.length : Int) + 1).toNat = r.length + 1 by omega]
  refine ⟨_, by walk_at "wp", by rw [rangeD_len]; omega, fun i acc => acc.length ≤ i ∧ ∀ b : Nat, b < i → valV acc [.inl (b : Int), .inl ((0 : Nat) : Int)] = some (.int 0), ⟨Nat.zero_le _, fun b hb => by omega⟩, fun X1 S1 i d acc hi ⟨h1, h2⟩ => ?_, fun acc _ ⟨h1, h2⟩ => ?_⟩
  · obtain ⟨hir, rfl⟩ := rangeD_get hi
    refine dg_name S1 (by walk_at "dk") ⟨_, by walk_at "ss", fun X2 S2 => DTs.nil ⟨fun _ X3 S3 => ?_, fun z => nomatch z⟩⟩
    walk_at "go"
    intro X4 S4
    walk_at "go"
    refine ⟨[.inl (i : Int), .inl ((0 : Nat) : Int)], .int 0, by simp [kV], rfl, ?_, fun b hb => ?_⟩
    · have := length_putK acc [.inl (i : Int), .inl ((0 : Nat) : Int)] (.int 0)
      omega
    · rw [valV_put]
      by_cases e : b = i
      · subst e
        rw [if_pos rfl]
      · rw [if_neg (key2_ne (by omega))]
        exact h2 b (by omega)
  rw [rangeD_len] at h1 h2
  refine ⟨_, by walk_at "ss", ?_⟩
  have t0 : TabTo (wF fl) r 1 acc := fun b l hb hl => by
    have : l = 0 := by omega
    subst this
    rw [h2 b (by omega), sub_zero, L_nil W]
    rfl
  refine db_cons (ds_for S (di_range2 S mr (by walk_at "dk") ?_))
  walk_at "go"
  refine ⟨_, _, rfl, rfl, ⟨by omega, by omega, by omega, by omega⟩, ?_⟩
  rw [show ((r.length : Int) + 1 - 1).toNat = r.length by omega]
  refine ⟨fun i δ => ∃ (kvs : List (List Key × V)) (a b c d e : Option SD), δ = [some (.d (encF fl)), some (.d (.str (tx r))), some (.d (.dk kc)), some (.d (.int (r.length : Nat))), some (.ot kvs), a, b, c, d, e] ∧ TabTo (wF fl) r (i + 1) kvs ∧ kvs.length ≤ 301 * (i + 1),
    ⟨_, _, _, _, _, _, rfl, t0, by omega⟩, ?_, ?_⟩
  · rintro i d δ' hi ⟨kvs, a, b, c, d', e, rfl, ht, hk⟩
    obtain ⟨hir, rfl⟩ := rangeD_get hi
    refine ⟨_, dg_name S (by walk_at "dk") ⟨_, by walk_at "ss", ?_⟩⟩
    refine db_cons (ds_for S (di_range1 S mr (by walk_at "dk") ?_))
    walk_at "go"
    refine ⟨_, rfl, by omega, by omega, ?_⟩
    rw [show ((r.length : Int) - (1 + (i : Int)) + 1).toNat = r.length - i by omega]
    refine ⟨fun j δ => ∃ (kvs : List (List Key × V)) (b c d e : Option SD), δ = [some (.d (encF fl)), some (.d (.str (tx r))), some (.d (.dk kc)), some (.d (.int (r.length : Nat))), some (.ot kvs), some (.d (.int (1 + (i : Int)))), b, c, d, e] ∧ TabTo (wF fl) r (i + 1) kvs ∧ kvs.length ≤ 301 * (i + 1) + j ∧
      ∀ b : Nat, b < j → valV kvs [.inl (b : Int), .inl ((i + 1 : Nat) : Int)] = some (odV (L (wF fl) (sub r b (i + 1)))), ⟨kvs, _, _, _, _, rfl, ht, by omega, fun b hb => by omega⟩, ?_, ?_⟩
    · rintro j d δ' hj ⟨kvs, b, c, d', e, rfl, ht, hk, hd⟩
      obtain ⟨hjr, rfl⟩ := rangeD_get hj
      refine ⟨_, dg_name S (by walk_at "dk") ⟨_, by walk_at "ss", ?_⟩⟩
      rw [Int.zero_add]
      refine db_cons (ds_setLc1 S (di_lst ?_) (by walk_at "dk") (by walk_at "dk") (by walk_at "dk"))
      walk_at "go"
      refine ⟨⟨fl, r, kc, kvs, j, i + 1⟩, by dsimp only; rw [show ((i + 1 : Nat) : Int) = 1 + (i : Int) by omega], ⟨hf, hro, hrl, hkc, ht, by show 1 ≤ i + 1; omega, by show j + (i + 1) ≤ r.length; omega⟩, ?_⟩
      rintro _ rfl
      dsimp only
      have hmin := ominI_min (waysL_min W hr (b := j) (l := i + 1) (by omega) (by omega))
      have hwl := waysL_len (wF fl) r j (i + 1) (by omega)
      generalize waysL (wF fl) r j (i + 1) = ws at hmin hwl
      refine ⟨_, rfl, ?_⟩
      refine lc_filter (g := encW) (p := fun p => p.1.isSome) (f := fun p => encO p.1) (by walk_at "wp") (by omega) (fun X1 S1 p hp => ?_) ?_
      · obtain ⟨o, q⟩ := p
        refine dg_tup S1 (ds := [encO o, encO q]) (dgs_cons (dg_name S1 (by walk_at "dk") ⟨_, by walk_at "ss", dgs_cons (dg_name S1 (by walk_at "dk") ⟨_, by walk_at "ss", dgs_nil fun X2 S2 => ?_⟩)⟩))
        dsimp only
        rw [← encO_od o]
        walk_at "go"
        refine .notN ⟨?_, fun _ X3 S3 => ?_⟩
        · cases o <;> rfl
        · walk_at "go"
          rfl
      rw [filt_ints]
      generalize (ws.map (·.1)).filterMap id = ns at hmin
      refine ⟨_, by walk_at "ss", ?_⟩
      refine db_cons (ds_dputT S (by walk_at "gt") (by walk_at "dk") (by omega) ?_)
      refine de_minD S mn (by walk_at "dk") ?_
      walk_at "go"
      refine ⟨ns, rfl, ?_⟩
      rw [hmin]
      walk_at "go"
      have l1 := length_putK kvs [.inl (j : Int), .inl ((i + 1 : Nat) : Int)] (odV (L (wF fl) (sub r j (i + 1))))
      refine ⟨_, [.inl (j : Int), .inl ((i + 1 : Nat) : Int)], rfl, by simp only [List.map_cons, List.map_nil, kV]; rw [show ((i + 1 : Nat) : Int) = 1 + (i : Int) by omega], _, by walk_at "ss", ?_⟩
      walk_at "go"
      refine ⟨_, _, _, _, _, rfl, fun b l hb hl => ?_, by omega, fun b hb => ?_⟩
      · rw [valV_put, if_neg (key2_ne (by omega))]
        exact ht b l hb hl
      · rw [valV_put]
        by_cases e : b = j
        · subst e
          rw [if_pos rfl]
        · rw [if_neg (key2_ne (by omega))]
          exact hd b (by omega)
    · rintro δ' ⟨kvs, b, c, d, e, rfl, ht, hk, hd⟩
      rw [rangeD_len] at hd hk
      walk_at "go"
      refine ⟨kvs, _, _, _, _, _, rfl, fun b l hb hl => ?_, by omega⟩
      by_cases el : l = i + 1
      · subst el
        exact hd b (by omega)
      · exact ht b l hb (by omega)
  · rintro δ' ⟨kvs, a, b, c, d, e, rfl, ht, hk⟩
    rw [rangeD_len] at ht
    refine db_freezeT (x := "found") (by walk_at "gt") ⟨_, by walk_at "ss", ?_⟩ S.nd
    walk_at "go"
    exact ⟨_, rfl, ⟨ht⟩⟩
theorem ok_least {f : Addr} {fd : FuncData} (F : Fun M.K "least" "least" s_least f fd) (cB : BestC M k) (ml : M.mg "len" = none) :
    FnOk M.P M.w M.K M.mg M.base CX0 (k + 1) f fd ["floor", "row"] (SpD M.K [true, true] (fun p : Floor × List Nat => [encF p.1, .str (tx p.2)]) BestPre (fun p d => d = encO (L (wF p.1) p.2))) := by
  refine fn_ok F S_least rfl fun X S ⟨fl, r⟩ hp => ?_
  show DB X _ [some (.d (encF fl)), some (.d (.str (tx r)))] _ _ _ _
  have hrl : r.length ≤ 300 := hp.2.2
  walk_at "go"
  refine ⟨(fl, r), rfl, hp, ?_⟩
  rintro _ ⟨kvs, rfl, ht⟩
  walk_at "go"
  refine bw_lenS (by rw [len_tx]; exact sl1 (by omega)) ?_
  rw [len_tx]
  walk_at "go"
  refine tab_ix (X := X) (show TabTo (wF fl) r (r.length + 1) kvs from ht.at_) (b := 0) (l := r.length) rfl rfl (by omega) (by omega) ⟨_, rfl, ?_⟩
  rw [encO_od, sub_all]
end

/-! ### the law's own reckoning of least costs -/
def belowB : Option Int → Option Int → Bool
  | none, _ => false
  | some _, none => true
  | some i, some j => decide (i < j)
abbrev LCostsC (M : Md) (k : Nat) : Prop := Cal M k "_law_costs" [true] (fun fl : Floor => [encF fl]) FloorOk (fun fl d => ∃ kvs, d = .dk kvs ∧ IsCosts fl kvs)
abbrev LPlusC (M : Md) (k : Nat) : Prop := Cal M k "_law_plus" [true, true] (fun p : Option Int × Option Int => [encO p.1, encO p.2]) (fun _ => True) (fun p d => d = encO (oplus p.1 p.2))
abbrev LBelowC (M : Md) (k : Nat) : Prop := Cal M k "_law_below" [true, true] (fun p : Option Int × Option Int => [encO p.1, encO p.2]) (fun _ => True) (fun p d => d = .bl (belowB p.1 p.2))
abbrev LLeastOfC (M : Md) (k : Nat) : Prop := Cal M k "_law_least_of" [true] (fun xs : List (Option Int) => [.lst (xs.map encO)]) (fun xs => xs.length ≤ 100000) (fun xs d => ∀ o, IsMin xs o → d = encO o)
theorem isMin_snoc {xs : List (Option Int)} {o x : Option Int} (h : IsMin xs o) : IsMin (xs ++ [x]) (if belowB x o then x else o) := by
  cases x with
  | none =>
    show IsMin _ o
    cases o with
    | none => exact fun y hy => (List.mem_append.mp hy).elim (h y) fun z => List.mem_singleton.mp z
    | some n => exact ⟨List.mem_append_left _ h.1, fun m hm => (List.mem_append.mp hm).elim (h.2 m) fun z => by cases List.mem_singleton.mp z⟩
  | some i =>
    cases o with
    | none =>
      refine ⟨List.mem_append_right _ List.mem_cons_self, fun m hm => ?_⟩
      rcases List.mem_append.mp hm with hm | hm
      · cases h _ hm
      · cases List.mem_singleton.mp hm
        exact Int.le_refl _
    | some n =>
      by_cases e : i < n
      · rw [show belowB (some i) (some n) = true from decide_eq_true e, if_pos rfl]
        refine ⟨List.mem_append_right _ List.mem_cons_self, fun m hm => ?_⟩
        rcases List.mem_append.mp hm with hm | hm
        · have := h.2 m hm; omega
        · cases List.mem_singleton.mp hm
          exact Int.le_refl _
      · rw [show belowB (some i) (some n) = false from decide_eq_false e, if_neg (by decide)]
        refine ⟨List.mem_append_left _ h.1, fun m hm => ?_⟩
        rcases List.mem_append.mp hm with hm | hm
        · exact h.2 m hm
        · cases List.mem_singleton.mp hm
          omega
section
variable {M : Md} {k : Nat}
theorem ok_lplus {f : Addr} {fd : FuncData} (F : Fun M.K "_law_plus" "_law_plus" s_lplus f fd) :
    FnOk M.P M.w M.K M.mg M.base CX0 (k + 1) f fd ["_law_one", "_law_other"] (SpD M.K [true, true] (fun p : Option Int × Option Int => [encO p.1, encO p.2]) (fun _ => True) (fun p d => d = encO (oplus p.1 p.2))) := by
  refine fn_ok F S_lplus rfl fun X S ⟨a, b⟩ _ => ?_
  dsimp only
  show DB X _ [some (.d (encO a)), some (.d (encO b))] _ _ _ _
  cases a with
  | none =>
    walk_at "go"
    refine .isN ?_
    walk_at "go"
    rfl
  | some i =>
    cases b with
    | none =>
      walk_at "go"
      refine .isN ?_
      walk_at "go"
      refine .isN ?_
      walk_at "go"
      rfl
    | some j =>
      walk_at "go"
      refine .isN ?_
      walk_at "go"
      refine .isN ?_
      walk_at "go"
      rfl
theorem ok_lbelow {f : Addr} {fd : FuncData} (F : Fun M.K "_law_below" "_law_below" s_lbelow f fd) :
    FnOk M.P M.w M.K M.mg M.base CX0 (k + 1) f fd ["_law_one", "_law_other"] (SpD M.K [true, true] (fun p : Option Int × Option Int => [encO p.1, encO p.2]) (fun _ => True) (fun p d => d = .bl (belowB p.1 p.2))) := by
  refine fn_ok F S_lbelow rfl fun X S ⟨a, b⟩ _ => ?_
  dsimp only
  show DB X _ [some (.d (encO a)), some (.d (encO b))] _ _ _ _
  cases a with
  | none =>
    walk_at "go"
    refine de_and ?_
    walk_at "go"
    refine .notN ⟨_, rfl, (fun z => absurd z (by decide)), fun _ => ?_⟩
    rfl
  | some i =>
    walk_at "go"
    refine de_and ?_
    walk_at "go"
    refine .notN ⟨_, rfl, (fun _ => ?_), (fun z => absurd z (by simp))⟩
    refine de_one ?_
    refine de_or ?_
    cases b with
    | none =>
      walk_at "go"
      refine .isN ⟨_, rfl, (fun _ => ?_), (fun z => absurd z (by decide))⟩
      rfl
    | some j =>
      walk_at "go"
      refine .isN ⟨_, rfl, (fun z => absurd z (by simp)), fun _ => ?_⟩
      refine de_one ?_
      walk_at "go"
      refine .lt ?_
      rfl
end

/-! ### compares of costs -/
theorem oplus_zero (o : Option Int) : oplus o (some 0) = o := by
  cases o with
  | none => rfl
  | some a => exact congrArg some (Int.add_zero a)
theorem oplus_assoc (a b c : Option Int) : oplus (oplus a b) c = oplus a (oplus b c) := by
  cases a <;> cases b <;> cases c <;> simp [oplus, Int.add_assoc]
theorem oplus_comm (a b : Option Int) : oplus a b = oplus b a := by
  cases a <;> cases b <;> simp [oplus, Int.add_comm]
theorem eqO (a b : Option Int) : decide (odV a = odV b) = decide (a = b) := by
  cases a <;> cases b <;> simp [odV]
theorem scO (a b : Option Int) : scal (odV a) (odV b) = true := by cases a <;> cases b <;> rfl
theorem scO0 (a : Option Int) : scal (odV a) (.int 0) = true := by cases a <;> rfl
section
variable {Φ : Bool → Prop}
theorem neO {a b : Option Int} (h : a = b) (p : Φ false) : CmpW Φ .NotEq (encO a) (encO b) := by
  rw [← encO_od, ← encO_od]
  exact .neS (scO a b) (by rw [eqO, h, decide_eq_true rfl]; exact p)
theorem ne0 {a : Option Int} (h : a = some 0) (p : Φ false) : CmpW Φ .NotEq (encO a) (.int 0) := neO (b := some 0) h p
theorem eq0 {a : Option Int} (p : Φ (decide (a = some 0))) : CmpW Φ .Eq (encO a) (.int 0) := by
  have : CmpW Φ .Eq (encO a) (encO (some 0)) := by
    rw [← encO_od, ← encO_od]
    exact .eqS (scO a _) (by rw [eqO]; exact p)
  exact this
end
theorem tight_eq {r s : List Nat} (hr : Row r) (hs : Row s) : tight (back r ++ s) = [] ↔ tight r = tight s := by
  have hb := back_row hr
  constructor
  · intro h
    have h1 : tight (r ++ (back r ++ s)) = tight r := by
      rw [← tight_parts hr (row_app2 hb hs), h, List.append_nil, tight_tight]
    have h2 : tight ([] ++ ((r ++ back r) ++ s)) = tight ([] ++ s) := tight_mid (a := []) row_nil (row_app2 hr hb) hs (tight_self_back hr)
    rw [← h1, ← List.append_assoc]
    exact h2
  · intro h
    rw [← tight_parts hb hs, tight_back hr, h, ← tight_back hs, tight_parts (back_row hs) hs]
    have := tight_self_back (back_row hs)
    rwa [back_back hs] at this
theorem tight_sub (r : List Nat) : ∀ c ∈ tight r, c ∈ r := by
  unfold tight tightR
  suffices H : ∀ (r s : List Nat), ∀ c ∈ r.foldl stepT s, c ∈ r ∨ c ∈ s from fun c hc => (H r [] c (List.mem_reverse.mp hc)).elim id fun z => by cases z
  intro r
  induction r with
  | nil => intro s c hc; exact .inr hc
  | cons x r ih =>
    intro s c hc
    rw [List.foldl_cons] at hc
    rcases ih _ c hc with h | h
    · exact .inl (List.mem_cons_of_mem _ h)
    · have : ∀ y ∈ stepT s x, y = x ∨ y ∈ s := fun y hy => by
        unfold stepT at hy
        split at hy
        · exact .inl (List.mem_singleton.mp hy)
        · split at hy
          · exact .inr (List.mem_cons_of_mem _ hy)
          · exact (List.mem_cons.mp hy)
      rcases this c h with rfl | h
      · exact .inl List.mem_cons_self
      · exact .inr h
theorem below_no {a b : Option Int} (h : Ole b a) : belowB a b = false := by
  cases a with
  | none => rfl
  | some n =>
    obtain ⟨m, rfl, l⟩ := h n rfl
    exact decide_eq_false (by omega)
theorem eqOO {Φ : Bool → Prop} {a b : Option Int} (p : Φ (decide (a = b))) : CmpW Φ .Eq (encO a) (encO b) := by
  rw [← encO_od, ← encO_od]
  exact .eqS (scO a b) (by rw [eqO]; exact p)
theorem some_test {a : Option Int} : (!decide (odV a = V.non)) = a.isSome := by cases a <;> rfl
theorem at_zero {α : Type} (x : α) (l : List α) : atI (x :: l) 0 = some x := atI_nat (xs := x :: l) (j := 0) rfl

/-! ### the law's own table, by last turns -/
theorem sub_snoc {r : List Nat} {b l : Nat} {c : Nat} (hc : r[b + l]? = some c) : sub r b (l + 1) = sub r b l ++ [c] := by
  unfold sub
  rw [List.take_add_one, List.getElem?_drop, hc]
  rfl
/-- what the law's table holds: stretches by their ends -/
def EndTo (w : Nat → Option Int) (r : List Nat) (P : Nat → Nat → Prop) (kvs : List (List Key × V)) : Prop := ∀ b e, b ≤ e → e ≤ r.length → P b e → valV kvs [.inl (b : Nat), .inl (e : Nat)] = some (odV (L w (sub r b (e - b))))
abbrev LLeastC (M : Md) (k : Nat) : Prop := Cal M k "_law_least" [true, true] (fun p : Floor × List Nat => [encF p.1, .str (tx p.2)]) BestPre (fun p d => d = encO (L (wF p.1) p.2))
/-- the ways with the last turn of a stretch, the others below o -/
noncomputable def waysE (w : Nat → Option Int) (r : List Nat) (c b e i : Nat) : List (Option Int) :=
  oplus (L w (sub r b (e - b))) (w c) :: (((List.range i).map fun j => b + j).filter fun o => decide (r.getD o 0 = und c)).map fun o => oplus (L w (sub r b (o - b))) (L w (sub r (o + 1) (e - o - 1)))
theorem waysE_len (w : Nat → Option Int) (r : List Nat) (c b e i : Nat) : (waysE w r c b e i).length ≤ i + 1 := by
  unfold waysE
  rw [List.length_cons, List.length_map]
  have := List.length_filter_le (fun o => decide (r.getD o 0 = und c)) ((List.range i).map fun j => b + j)
  rw [List.length_map, List.length_range] at this
  omega
theorem waysE_step (w : Nat → Option Int) (r : List Nat) (c b e i x : Nat) (hx : r[b + i]? = some x) :
    waysE w r c b e (i + 1) = waysE w r c b e i ++ (if x = und c then [oplus (L w (sub r b i)) (L w (sub r (b + i + 1) (e - b - i - 1)))] else []) := by
  unfold waysE
  rw [List.range_succ, List.map_append, List.filter_append, List.map_append, List.map_cons, List.map_nil]
  by_cases h : x = und c
  · rw [if_pos h, List.filter_cons_of_pos (by rw [getD_of hx, h]; simp)]
    simp only [List.filter_nil, List.map_cons, List.map_nil, List.cons_append]
    rw [show b + i - b = i by omega, show e - (b + i) - 1 = e - b - i - 1 by omega]
  · rw [if_neg h, List.filter_cons_of_neg (by rw [getD_of hx]; simpa using h)]
    simp
theorem waysE_min {w : Nat → Option Int} (W : WOk w) {r : List Nat} (hr : Row r) {b e c : Nat} (hb : b ≤ e) (hc : r[e]? = some c) : IsMin (waysE w r c b e (e - b)) (L w (sub r b (e - b + 1))) := by
  have hcT := hr c (List.mem_of_getElem? hc)
  have hel := (List.getElem?_eq_some_iff.mp hc).1
  rw [sub_snoc (c := c) (by rw [show b + (e - b) = e by omega]; exact hc)]
  unfold waysE
  refine L_last W hcT (fun o ho => ?_) List.mem_cons_self fun p q h => ?_
  · rcases List.mem_cons.mp ho with h | ho
    · exact .inl h
    · obtain ⟨i, hi, rfl⟩ := List.mem_map.mp ho
      obtain ⟨hi1, hi2⟩ := List.mem_filter.mp hi
      obtain ⟨j, hj, rfl⟩ := List.mem_map.mp hi1
      have hj := List.mem_range.mp hj
      obtain ⟨x, hx⟩ : ∃ x, r[b + j]? = some x := ⟨r[b + j], List.getElem?_eq_getElem (by omega)⟩
      have e2 : x = und c := by rw [getD_of hx] at hi2; simpa using hi2
      refine .inr ⟨sub r b j, sub r (b + j + 1) (e - b - j - 1), ?_, ?_⟩
      · rw [← e2]
        exact sub_split (by omega) hx
      · rw [show b + j - b = j by omega, show e - (b + j) - 1 = e - b - j - 1 by omega]
  · have hlen := congrArg List.length h
    rw [sub_len (by omega)] at hlen
    simp at hlen
    have hx : r[b + p.length]? = some (und c) := by
      have := sub_get (r := r) (b := b) (l := e - b) (i := p.length) (by omega)
      rw [← this, h]
      simp
    have hsp := sub_split (r := r) (b := b) (l := e - b) (o := p.length) (by omega) hx
    rw [hsp] at h
    have hp1 : (sub r b p.length).length = p.length := sub_len (by omega)
    obtain ⟨e1, e2⟩ := List.append_inj h hp1
    refine List.mem_cons_of_mem _ (List.mem_map.mpr ⟨b + p.length, List.mem_filter.mpr ⟨List.mem_map.mpr ⟨p.length, List.mem_range.mpr (by omega), rfl⟩, ?_⟩, ?_⟩)
    · rw [getD_of hx]
      simp
    · rw [show b + p.length - b = p.length by omega, e1, show e - (b + p.length) - 1 = e - b - p.length - 1 by omega, (List.cons.inj e2).2]
section
variable {M : Md} {k : Nat}
theorem end_ix {Ψ : Da → Prop} {w : Nat → Option Int} {r : List Nat} {P : Nat → Nat → Prop} {kvs : List (List Key × V)} (h : EndTo w r P kvs) {i j : Int} {b e : Nat} (hi : i = b) (hj : j = e) (hb : b ≤ e) (he : e ≤ r.length) (hP : P b e) (p : Ψ (.a (odV (L w (sub r b (e - b)))))) :
    IxW Ψ (.dt kvs) (.tup [.int i, .int j]) := by
  subst hi hj
  exact .dt (q := [.inl (b : Nat), .inl (e : Nat)]) rfl (h b e hb he hP) p
end

/-! ### whole numbers from one to another -/
def btw (lo hi : Int) : Da → Bool
  | .a (.int i) => decide (lo ≤ i ∧ i ≤ hi)
  | _ => false
abbrev BetweenC (M : Md) (k : Nat) : Prop := Cal M k "is_between" [true, true, true] (fun p : Da × Int × Int => [p.1, .int p.2.1, .int p.2.2]) (fun p => TyK p.1) (fun p d => d = .bl (btw p.2.1 p.2.2 p.1))
theorem btw_no {d : Da} {lo hi : Int} (k : TyK d) (h : isT "int" d = false ∨ isT "bool" d = true) : btw lo hi d = false := by
  cases d with
  | a v => cases v with
    | int i =>
      rcases h with h | h
      · rw [isT_int] at h; cases h
      · rw [isB_int] at h; cases h
    | _ => rfl
  | _ => rfl
section
variable {M : Md} {k : Nat}
end

/-! ### nestings -/
inductive NestI (w : Nat → Option Int) (r : List Nat) : Nat → Nat → List (Nat × Nat) → Int → Prop
  | nil {b : Nat} : NestI w r b 0 [] 0
  | del {b l c : Nat} {x n : Int} {ps : List (Nat × Nat)} : r[b]? = some c → w c = some x → NestI w r (b + 1) l ps n → NestI w r b (l + 1) ps (x + n)
  | pair {b i k c : Nat} {m n : Int} {ps qs : List (Nat × Nat)} : r[b]? = some c → r[b + 1 + i]? = some (und c) → NestI w r (b + 1) i ps m → NestI w r (b + 1 + i + 1) k qs n → NestI w r b (i + 2 + k) ((b, b + 1 + i) :: (ps ++ qs)) (m + n)
section
variable {w : Nat → Option Int} {r : List Nat}
theorem NestI.to {b l l' : Nat} {ps : List (Nat × Nat)} {n n' : Int} (h : NestI w r b l ps n) (e : l = l') (e2 : n = n') : NestI w r b l' ps n' := e ▸ e2 ▸ h
theorem NestI.le {b l : Nat} {ps : List (Nat × Nat)} {n : Int} (h : NestI w r b l ps n) : l = 0 ∨ b + l ≤ r.length := by
  induction h with
  | nil => exact .inl rfl
  | del hc _ _ ih =>
    have := (List.getElem?_eq_some_iff.mp hc).1
    right
    omega
  | pair hc hd _ _ ih1 ih2 =>
    have := (List.getElem?_eq_some_iff.mp hd).1
    right
    omega
/-- where pairs lie -/
theorem NestI.mem {b l : Nat} {ps : List (Nat × Nat)} {n : Int} (h : NestI w r b l ps n) : ∀ p ∈ ps, b ≤ p.1 ∧ p.1 < p.2 ∧ p.2 < b + l ∧ ∃ c, r[p.1]? = some c ∧ r[p.2]? = some (und c) := by
  induction h with
  | nil => intro p hp; cases hp
  | del hc _ _ ih =>
    intro p hp
    obtain ⟨h1, h2, h3, h4⟩ := ih p hp
    exact ⟨by omega, h2, by omega, h4⟩
  | @pair b i k c m n ps qs hc hd h1 h2 ih1 ih2 =>
    intro p hp
    rcases List.mem_cons.mp hp with rfl | hp
    · exact ⟨Nat.le_refl _, by show b < b + 1 + i; omega, by show b + 1 + i < b + (i + 2 + k); omega, c, hc, hd⟩
    · rcases List.mem_append.mp hp with hp | hp
      · obtain ⟨a1, a2, a3, a4⟩ := ih1 p hp
        exact ⟨by omega, a2, by omega, a4⟩
      · obtain ⟨a1, a2, a3, a4⟩ := ih2 p hp
        exact ⟨by omega, a2, by omega, a4⟩
theorem NestI.asc {b l : Nat} {ps : List (Nat × Nat)} {n : Int} (h : NestI w r b l ps n) : ps.Pairwise fun p q => p.1 < q.1 := by
  induction h with
  | nil => exact .nil
  | del _ _ _ ih => exact ih
  | @pair b i k c m n ps qs hc hd h1 h2 ih1 ih2 =>
    refine List.pairwise_cons.mpr ⟨fun q hq => ?_, List.pairwise_append.mpr ⟨ih1, ih2, fun p hp q hq => ?_⟩⟩
    · rcases List.mem_append.mp hq with hq | hq
      · have := (h1.mem q hq).1
        show b < q.1
        omega
      · have := (h2.mem q hq).1
        show b < q.1
        omega
    · have a := h1.mem p hp
      have b := (h2.mem q hq).1
      omega
/-- no place twice -/
theorem NestI.apart {b l : Nat} {ps : List (Nat × Nat)} {n : Int} (h : NestI w r b l ps n) : (ps.flatMap fun p => [p.1, p.2]).Nodup := by
  induction h with
  | nil => exact .nil
  | del _ _ _ ih => exact ih
  | @pair b i k c m n ps qs hc hd h1 h2 ih1 ih2 =>
    have m1 : ∀ z ∈ ps.flatMap fun p => [p.1, p.2], b + 1 ≤ z ∧ z < b + 1 + i := fun z hz => by
      obtain ⟨p, hp, hz⟩ := List.mem_flatMap.mp hz
      have a := h1.mem p hp
      rcases List.mem_cons.mp hz with rfl | hz
      · omega
      · rw [List.mem_singleton.mp hz]; omega
    have m2 : ∀ z ∈ qs.flatMap fun p => [p.1, p.2], b + 1 + i + 1 ≤ z := fun z hz => by
      obtain ⟨p, hp, hz⟩ := List.mem_flatMap.mp hz
      have a := h2.mem p hp
      rcases List.mem_cons.mp hz with rfl | hz
      · omega
      · rw [List.mem_singleton.mp hz]; omega
    rw [List.flatMap_cons, List.flatMap_append]
    show (b :: (b + 1 + i) :: ((ps.flatMap fun p => [p.1, p.2]) ++ (qs.flatMap fun p => [p.1, p.2]))).Nodup
    refine List.nodup_cons.mpr ⟨fun z => ?_, List.nodup_cons.mpr ⟨fun z => ?_, List.nodup_append.mpr ⟨ih1, ih2, fun x hx y hy e => ?_⟩⟩⟩
    · rcases List.mem_cons.mp z with z | z
      · omega
      · rcases List.mem_append.mp z with z | z
        · have := m1 _ z; omega
        · have := m2 _ z; omega
    · rcases List.mem_append.mp z with z | z
      · have := m1 _ z; omega
      · have := m2 _ z; omega
    · have := m1 _ hx
      have := m2 _ hy
      omega
/-- just one place of the one between those of the other -/
def across (p q : Nat × Nat) : Bool := decide (([p.1, p.2].filter fun z => decide (q.1 < z ∧ z < q.2)).length = 1)
theorem across_no {p q : Nat × Nat} (h1 : p.1 < p.2) (h : p = q ∨ p.2 < q.1 ∨ q.2 < p.1 ∨ (q.1 < p.1 ∧ p.2 < q.2) ∨ (p.1 < q.1 ∧ q.2 < p.2)) (h2 : q.1 < q.2) : across p q = false := by
  unfold across
  refine decide_eq_false fun e => ?_
  by_cases a : q.1 < p.1 ∧ p.1 < q.2
  · by_cases b : q.1 < p.2 ∧ p.2 < q.2
    · rw [List.filter_cons_of_pos (by simpa using a), List.filter_cons_of_pos (by simpa using b)] at e
      simp at e
    · rcases h with rfl | h | h | h | h <;> omega
  · by_cases b : q.1 < p.2 ∧ p.2 < q.2
    · rcases h with rfl | h | h | h | h <;> omega
    · rw [List.filter_cons_of_neg (by simpa using a), List.filter_cons_of_neg (by simpa using b)] at e
      simp at e
theorem NestI.cross {b l : Nat} {ps : List (Nat × Nat)} {n : Int} (h : NestI w r b l ps n) : ∀ p ∈ ps, ∀ q ∈ ps, across p q = false := by
  induction h with
  | nil => intro p hp; cases hp
  | del _ _ _ ih => exact ih
  | @pair b i k c m n ps qs hc hd h1 h2 ih1 ih2 =>
    intro p hp q hq
    have key : ∀ p ∈ (b, b + 1 + i) :: (ps ++ qs), p = (b, b + 1 + i) ∨ p ∈ ps ∨ p ∈ qs := fun p hp => by
      rcases List.mem_cons.mp hp with e | hp
      · exact .inl e
      · exact .inr (List.mem_append.mp hp)
    rcases key p hp with rfl | hp | hp
    · rcases key q hq with rfl | hq | hq
      · exact across_no (by show b < b + 1 + i; omega) (.inl rfl) (by show b < b + 1 + i; omega)
      · have a := h1.mem q hq
        exact across_no (by show b < b + 1 + i; omega) (.inr (.inr (.inr (.inr ⟨by show b < q.1; omega, by show q.2 < b + 1 + i; omega⟩)))) a.2.1
      · have a := h2.mem q hq
        exact across_no (by show b < b + 1 + i; omega) (.inr (.inl (by show b + 1 + i < q.1; omega))) a.2.1
    · have a := h1.mem p hp
      rcases key q hq with rfl | hq | hq
      · exact across_no a.2.1 (.inr (.inr (.inr (.inl ⟨by show b < p.1; omega, by show p.2 < b + 1 + i; omega⟩)))) (by show b < b + 1 + i; omega)
      · exact ih1 p hp q hq
      · have a2 := h2.mem q hq
        exact across_no a.2.1 (.inr (.inl (by omega))) a2.2.1
    · have a := h2.mem p hp
      rcases key q hq with rfl | hq | hq
      · exact across_no a.2.1 (.inr (.inr (.inl (by show b + 1 + i < p.1; omega)))) (by show b < b + 1 + i; omega)
      · have a2 := h1.mem q hq
        exact across_no a.2.1 (.inr (.inr (.inl (by omega)))) a2.2.1
      · exact ih2 p hp q hq
end
/-- what the turns in none of some pairs cost, in a stretch -/
def freeC (w : Nat → Option Int) (r : List Nat) (held : List Nat) (b l : Nat) : Option Int := (List.range l).foldl (fun acc i => if held.contains (b + i) then acc else oplus acc (w (r.getD (b + i) 0))) (some 0)
theorem freeC_succ (w : Nat → Option Int) (r : List Nat) (held : List Nat) (b l : Nat) : freeC w r held b (l + 1) = (if held.contains (b + l) then freeC w r held b l else oplus (freeC w r held b l) (w (r.getD (b + l) 0))) := by
  unfold freeC
  rw [List.range_succ, List.foldl_append]
  rfl
theorem freeC_add (w : Nat → Option Int) (r : List Nat) (held : List Nat) (b l k : Nat) : freeC w r held b (l + k) = oplus (freeC w r held b l) (freeC w r held (b + l) k) := by
  induction k with
  | zero => exact (oplus_zero _).symm
  | succ k ih =>
    rw [← Nat.add_assoc, freeC_succ, freeC_succ, ih, Nat.add_assoc b l k]
    split
    · rfl
    · rw [oplus_assoc]
theorem freeC_held {w : Nat → Option Int} {r : List Nat} {h1 h2 : List Nat} {b l : Nat} (h : ∀ i, i < l → h1.contains (b + i) = h2.contains (b + i)) : freeC w r h1 b l = freeC w r h2 b l := by
  induction l with
  | zero => rfl
  | succ l ih => rw [freeC_succ, freeC_succ, h l (by omega), ih fun i hi => h i (by omega)]
def places (ps : List (Nat × Nat)) : List Nat := ps.flatMap fun p => [p.1, p.2]
theorem places_mem {ps : List (Nat × Nat)} {z : Nat} : z ∈ places ps ↔ ∃ p ∈ ps, z = p.1 ∨ z = p.2 := by
  unfold places
  rw [List.mem_flatMap]
  simp
theorem NestI.free {w : Nat → Option Int} {r : List Nat} {b l : Nat} {ps : List (Nat × Nat)} {n : Int} (h : NestI w r b l ps n) : freeC w r (places ps) b l = some n := by
  induction h with
  | nil => rfl
  | @del b l c x n ps hc hx h1 ih =>
    have e : l + 1 = 1 + l := Nat.add_comm _ _
    rw [e, freeC_add, ih]
    have hn : (places ps).contains (b + 0) = false := by
      rw [Bool.eq_false_iff]
      intro z
      obtain ⟨p, hp, hz⟩ := places_mem.mp (List.contains_iff_mem.mp z)
      have := h1.mem p hp
      omega
    rw [freeC_succ, hn, if_neg (by decide)]
    have e0 : freeC w r (places ps) b 0 = some 0 := rfl
    rw [e0, Nat.add_zero, getD_of hc, hx]
    show some (0 + x + n) = some (x + n)
    rw [Int.zero_add]
  | @pair b i k c m n ps qs hc hd h1 h2 ih1 ih2 =>
    have e : i + 2 + k = 1 + (i + (1 + k)) := by omega
    rw [e, freeC_add, freeC_add, freeC_add]
    have c1 : (places ((b, b + 1 + i) :: (ps ++ qs))).contains (b + 0) = true := List.contains_iff_mem.mpr (places_mem.mpr ⟨(b, b + 1 + i), List.mem_cons_self, .inl rfl⟩)
    have c2 : (places ((b, b + 1 + i) :: (ps ++ qs))).contains (b + 1 + i + 0) = true := List.contains_iff_mem.mpr (places_mem.mpr ⟨(b, b + 1 + i), List.mem_cons_self, .inr rfl⟩)
    have e1 : freeC w r (places ((b, b + 1 + i) :: (ps ++ qs))) b 1 = some 0 := by rw [freeC_succ, c1, if_pos rfl]; rfl
    have e3 : freeC w r (places ((b, b + 1 + i) :: (ps ++ qs))) (b + 1 + i) 1 = some 0 := by rw [freeC_succ, c2, if_pos rfl]; rfl
    have e2 : freeC w r (places ((b, b + 1 + i) :: (ps ++ qs))) (b + 1) i = some m := by
      rw [← ih1]
      refine freeC_held fun j hj => ?_
      rw [Bool.eq_iff_iff, List.contains_iff_mem, List.contains_iff_mem, places_mem, places_mem]
      refine ⟨fun ⟨p, hp, hz⟩ => ?_, fun ⟨p, hp, hz⟩ => ⟨p, List.mem_cons_of_mem _ (List.mem_append_left _ hp), hz⟩⟩
      rcases List.mem_cons.mp hp with rfl | hp
      · dsimp only at hz; omega
      · rcases List.mem_append.mp hp with hp | hp
        · exact ⟨p, hp, hz⟩
        · have := h2.mem p hp; omega
    have e4 : freeC w r (places ((b, b + 1 + i) :: (ps ++ qs))) (b + 1 + i + 1) k = some n := by
      rw [← ih2]
      refine freeC_held fun j hj => ?_
      rw [Bool.eq_iff_iff, List.contains_iff_mem, List.contains_iff_mem, places_mem, places_mem]
      refine ⟨fun ⟨p, hp, hz⟩ => ?_, fun ⟨p, hp, hz⟩ => ⟨p, List.mem_cons_of_mem _ (List.mem_append_right _ hp), hz⟩⟩
      rcases List.mem_cons.mp hp with rfl | hp
      · dsimp only at hz; omega
      · rcases List.mem_append.mp hp with hp | hp
        · have := h1.mem p hp; omega
        · exact ⟨p, hp, hz⟩
    rw [e1, e2, e3, e4]
    show some (0 + (m + (0 + n))) = some (m + n)
    rw [Int.zero_add, Int.zero_add]
def encN2 (p : Nat × Nat) : Da := encI ((p.1 : Int), (p.2 : Int))
def encNs (ps : List (Nat × Nat)) : Da := .tup (ps.map encN2)
/-- a nesting of the least cost of a stretch -/
def NestOpt (w : Nat → Option Int) (r : List Nat) (b l : Nat) (ps : List (Nat × Nat)) : Prop := ∃ n, L w (sub r b l) = some n ∧ NestI w r b l ps n
def NestPost (p : Floor × List Nat) (d : Da) : Prop := (L (wF p.1) p.2 = none ∧ d = .non) ∨ ∃ ps n, L (wF p.1) p.2 = some n ∧ d = encNs ps ∧ NestI (wF p.1) p.2 0 p.2.length ps n
abbrev NestC (M : Md) (k : Nat) : Prop := Cal M k "nesting" [true, true] (fun p : Floor × List Nat => [encF p.1, .str (tx p.2)]) BestPre NestPost
inductive All2 {α β : Type} (R : α → β → Prop) : List α → List β → Prop
  | nil : All2 R [] []
  | cons {a : α} {b : β} {as : List α} {bs : List β} : R a b → All2 R as bs → All2 R (a :: as) (b :: bs)
theorem All2.snoc {α β : Type} {R : α → β → Prop} {as : List α} {bs : List β} {a : α} {b : β} (h : All2 R as bs) (r : R a b) : All2 R (as ++ [a]) (bs ++ [b]) := by
  induction h with
  | nil => exact .cons r .nil
  | cons r1 _ ih => exact .cons r1 ih
theorem All2.last {α β : Type} {R : α → β → Prop} : ∀ {as : List α} {bs : List β} {a : α}, All2 R (as ++ [a]) bs → ∃ bs0 b, bs = bs0 ++ [b] ∧ All2 R as bs0 ∧ R a b
  | [], _, _, .cons r .nil => ⟨[], _, rfl, .nil, r⟩
  | x :: as, _, _, .cons r t => by
    obtain ⟨bs0, b, e, h1, h2⟩ := All2.last t
    subst e
    exact ⟨_ :: bs0, b, rfl, .cons r h1, h2⟩
/-- where the walk stands: whatever nests what is left, it makes a nesting of all -/
def NestInv (w : Nat → Option Int) (r : List Nat) (found left : List (Nat × Nat)) : Prop :=
  (∀ p ∈ left, p.1 + p.2 ≤ r.length ∧ L w (sub r p.1 p.2) ≠ none) ∧ ∀ qss : List (List (Nat × Nat)), All2 (fun p qs => NestOpt w r p.1 p.2 qs) left qss → ∃ ps, NestOpt w r 0 r.length ps ∧ ps.Perm (found ++ qss.flatten)
def nestM (left : List (Nat × Nat)) : Nat := (left.map fun p => 2 * p.2 + 1).sum
/-- the ways of the least cost -/
theorem good_ways {w : Nat → Option Int} (W : WOk w) {r : List Nat} (hr : Row r) {b l : Nat} (hl : 1 ≤ l) (hb : b + l ≤ r.length) (hn : L w (sub r b l) ≠ none) :
    ∃ o rest, ((waysL w r b l).filter fun p => decide (p.1 = L w (sub r b l))).map (·.2) = o :: rest ∧
      ((o = none ∧ oplus (w (r.getD b 0)) (L w (sub r (b + 1) (l - 1))) = L w (sub r b l)) ∨
        ∃ i, o = some ((b + 1 + i : Nat) : Int) ∧ i < l - 1 ∧ r.getD (b + 1 + i) 0 = und (r.getD b 0) ∧ oplus (L w (sub r (b + 1) i)) (L w (sub r (b + 1 + i + 1) (l - i - 2))) = L w (sub r b l)) := by
  have hmin := waysL_min W hr hl hb
  obtain ⟨n, en⟩ : ∃ n, L w (sub r b l) = some n := by
    cases e : L w (sub r b l) with
    | none => exact absurd e hn
    | some n => exact ⟨n, rfl⟩
  rw [en] at hmin
  obtain ⟨p, hp, ep⟩ := List.mem_map.mp hmin.1
  have hpf : p ∈ (waysL w r b l).filter fun p => decide (p.1 = L w (sub r b l)) := List.mem_filter.mpr ⟨hp, by rw [en]; simpa using ep⟩
  cases hf : (waysL w r b l).filter fun p => decide (p.1 = L w (sub r b l)) with
  | nil => rw [hf] at hpf; cases hpf
  | cons q rest =>
    refine ⟨q.2, rest.map (·.2), rfl, ?_⟩
    have hq : q ∈ (waysL w r b l).filter fun p => decide (p.1 = L w (sub r b l)) := by rw [hf]; exact List.mem_cons_self
    obtain ⟨h1, h2⟩ := List.mem_filter.mp hq
    have h2 : q.1 = L w (sub r b l) := by simpa using h2
    unfold waysL at h1
    rcases List.mem_cons.mp h1 with rfl | h1
    · exact .inl ⟨rfl, h2⟩
    · obtain ⟨o, ho, rfl⟩ := List.mem_map.mp h1
      obtain ⟨ho1, ho2⟩ := List.mem_filter.mp ho
      obtain ⟨i, hi, rfl⟩ := List.mem_map.mp ho1
      have hi := List.mem_range.mp hi
      dsimp only at h2
      rw [show b + 1 + i - b - 1 = i by omega, show b + l - (b + 1 + i) - 1 = l - i - 2 by omega] at h2
      exact .inr ⟨i, rfl, hi, by simpa using ho2, h2⟩
theorem nestInv_zero {w : Nat → Option Int} (W : WOk w) {r : List Nat} {found left : List (Nat × Nat)} {b : Nat} (h : NestInv w r found (left ++ [(b, 0)])) : NestInv w r found left := by
  refine ⟨fun p hp => h.1 p (List.mem_append_left _ hp), fun qss hq => ?_⟩
  obtain ⟨ps, h1, h2⟩ := h.2 (qss ++ [[]]) (hq.snoc ⟨0, by show L w (sub r b 0) = some 0; rw [sub_zero, L_nil W], .nil⟩)
  exact ⟨ps, h1, by simpa using h2⟩
theorem nestInv_del {w : Nat → Option Int} (W : WOk w) {r : List Nat} {found left : List (Nat × Nat)} {b l c : Nat} (hc : r[b]? = some c) (h : NestInv w r found (left ++ [(b, l + 1)])) (e : oplus (w c) (L w (sub r (b + 1) l)) = L w (sub r b (l + 1))) :
    NestInv w r found (left ++ [(b + 1, l)]) := by
  obtain ⟨hb, hn⟩ := h.1 (b, l + 1) (by simp)
  dsimp only at hb hn
  obtain ⟨n, en⟩ : ∃ n, L w (sub r b (l + 1)) = some n := Option.isSome_iff_exists.mp (Option.isSome_iff_ne_none.mpr hn)
  rw [en] at e
  obtain ⟨x, y, e1, e2, rfl⟩ := oplus_some e
  refine ⟨fun p hp => ?_, fun qss hq => ?_⟩
  · rcases List.mem_append.mp hp with hp | hp
    · exact h.1 p (List.mem_append_left _ hp)
    · rw [List.mem_singleton.mp hp]
      exact ⟨by show b + 1 + l ≤ r.length; omega, by show L w (sub r (b + 1) l) ≠ none; rw [e2]; exact fun z => nomatch z⟩
  · obtain ⟨qs0, q, rfl, h1, n', h2, h3⟩ := hq.last
    dsimp only at h2 h3
    rw [e2] at h2
    cases h2
    exact h.2 _ (h1.snoc ⟨_, en, .del hc e1 h3⟩)
theorem nestInv_pair {w : Nat → Option Int} (W : WOk w) {r : List Nat} {found left : List (Nat × Nat)} {b i k c : Nat} (hc : r[b]? = some c) (hd : r[b + 1 + i]? = some (und c)) (h : NestInv w r found (left ++ [(b, i + 2 + k)])) (e : oplus (L w (sub r (b + 1) i)) (L w (sub r (b + 1 + i + 1) k)) = L w (sub r b (i + 2 + k))) :
    NestInv w r (found ++ [(b, b + 1 + i)]) (left ++ [(b + 1, i)] ++ [(b + 1 + i + 1, k)]) := by
  obtain ⟨hb, hn⟩ := h.1 (b, i + 2 + k) (by simp)
  dsimp only at hb hn
  obtain ⟨n, en⟩ : ∃ n, L w (sub r b (i + 2 + k)) = some n := Option.isSome_iff_exists.mp (Option.isSome_iff_ne_none.mpr hn)
  rw [en] at e
  obtain ⟨x, y, e1, e2, rfl⟩ := oplus_some e
  refine ⟨fun p hp => ?_, fun qss hq => ?_⟩
  · rcases List.mem_append.mp hp with hp | hp
    · rcases List.mem_append.mp hp with hp | hp
      · exact h.1 p (List.mem_append_left _ hp)
      · rw [List.mem_singleton.mp hp]
        exact ⟨by show b + 1 + i ≤ r.length; omega, by show L w (sub r (b + 1) i) ≠ none; rw [e1]; exact fun z => nomatch z⟩
    · rw [List.mem_singleton.mp hp]
      exact ⟨by show b + 1 + i + 1 + k ≤ r.length; omega, by show L w (sub r (b + 1 + i + 1) k) ≠ none; rw [e2]; exact fun z => nomatch z⟩
  · obtain ⟨qs1, q2, rfl, h1, n2, h2, h3⟩ := hq.last
    obtain ⟨qs0, q1, rfl, g1, n1, g2, g3⟩ := h1.last
    dsimp only at h2 h3 g2 g3
    rw [e2] at h2
    rw [e1] at g2
    cases h2
    cases g2
    obtain ⟨ps, k1, k2⟩ := h.2 _ (g1.snoc ⟨_, en, .pair hc hd g3 h3⟩)
    refine ⟨ps, k1, k2.trans ?_⟩
    rw [List.flatten_append, List.flatten_append, List.flatten_append]
    simp only [List.flatten_cons, List.flatten_nil, List.append_nil, List.append_assoc]
    refine List.Perm.append_left found ?_
    show (qs0.flatten ++ (b, b + 1 + i) :: (q1 ++ q2)).Perm ([(b, b + 1 + i)] ++ (qs0.flatten ++ (q1 ++ q2)))
    exact List.perm_middle
theorem nest_start {w : Nat → Option Int} {r : List Nat} (h : L w r ≠ none) : NestInv w r [] [(0, r.length)] := by
  refine ⟨fun p hp => ?_, fun qss hq => ?_⟩
  · rw [List.mem_singleton.mp hp]
    exact ⟨by simp, by show L w (sub r 0 r.length) ≠ none; rw [sub_all]; exact h⟩
  · cases hq with
    | cons h1 t =>
      cases t
      exact ⟨_, h1, by simp⟩
theorem ltI_of {ps : List (Nat × Nat)} (h : ps.Pairwise fun p q => p.1 < q.1) : (ps.map fun p => ((p.1 : Int), (p.2 : Int))).Pairwise ltI := by
  rw [List.pairwise_map]
  refine h.imp fun {p q} hpq => .inl ?_
  show (p.1 : Int) < (q.1 : Int)
  omega
theorem shp_pairs (l : List (Nat × Nat)) : Shp 2 (.lst (l.map encN2)) := .lst fun d hd => by
  obtain ⟨p, _, rfl⟩ := List.mem_map.mp hd
  exact .tup fun e he => by
    rcases List.mem_cons.mp he with rfl | he
    · exact .int _
    · rw [List.mem_singleton.mp he]; exact .int _
section
variable {M : Md} {k : Nat}
end

/-! ### mathematics: one lifting, and lists of them -/
def cycN : Nat → List Nat → List Nat
  | 0, s => s
  | n + 1, s => if 1 < s.length ∧ s.getD 0 0 = und (s.getD (s.length - 1) 0) then cycN n (s.drop 1).dropLast else s
theorem cycN_eq : ∀ (n m : Nat) (s : List Nat), s.length ≤ n → s.length ≤ m → cycN n s = cycN m s
  | 0, 0, _, _, _ => rfl
  | 0, m + 1, s, h, _ => by
    have e : s = [] := List.length_eq_zero_iff.mp (by omega)
    subst e
    exact (if_neg (by simp)).symm
  | n + 1, 0, s, _, h => by
    have e : s = [] := List.length_eq_zero_iff.mp (by omega)
    subst e
    exact if_neg (by simp)
  | n + 1, m + 1, s, h1, h2 => by
    unfold cycN
    split
    · refine cycN_eq n m _ ?_ ?_ <;> simp <;> omega
    · rfl
/-- a row as a ring, drawn tight -/
def cyc (s : List Nat) : List Nat := cycN s.length s
theorem cyc_step {s : List Nat} (h : 1 < s.length ∧ s.getD 0 0 = und (s.getD (s.length - 1) 0)) : cyc s = cyc (s.drop 1).dropLast := by
  obtain ⟨n, e⟩ : ∃ n, s.length = n + 1 := ⟨s.length - 1, by omega⟩
  unfold cyc
  rw [e]
  show (if _ then _ else _) = _
  rw [if_pos h]
  exact cycN_eq _ _ _ (by simp; omega) (Nat.le_refl _)
theorem cyc_stop {s : List Nat} (h : ¬ (1 < s.length ∧ s.getD 0 0 = und (s.getD (s.length - 1) 0))) : cyc s = s := by
  unfold cyc
  cases e : s.length with
  | zero => rfl
  | succ n => exact if_neg h
theorem cyc_wrap {x : Nat} {s : List Nat} : cyc (und x :: (s ++ [x])) = cyc s := by
  have e : (und x :: (s ++ [x])).drop 1 = s ++ [x] := rfl
  rw [cyc_step, e, List.dropLast_concat]
  refine ⟨by simp, ?_⟩
  have e2 : (und x :: (s ++ [x])).length - 1 = s.length + 1 := by simp
  rw [e2, List.getD_cons_zero, List.getD_cons_succ]
  congr 1
  rw [List.getD_eq_getElem?_getD, List.getElem?_append_right (Nat.le_refl _), Nat.sub_self]
  rfl
theorem cyc_conj (u : Nat) (q : List Nat) : cyc (back q ++ u :: q) = [u] := by
  suffices H : ∀ p : List Nat, cyc (back p.reverse ++ u :: p.reverse) = [u] by
    have := H q.reverse
    rwa [List.reverse_reverse] at this
  intro p
  induction p with
  | nil => exact cyc_stop (by simp [back])
  | cons x p ih =>
    rw [List.reverse_cons, back_app]
    have e : back [x] ++ back p.reverse ++ u :: (p.reverse ++ [x]) = und x :: ((back p.reverse ++ u :: p.reverse) ++ [x]) := by simp [back]
    rw [e, cyc_wrap, ih]
theorem red_back : ∀ {q m : List Nat} {x : Nat}, RedS (und x :: m) → RedS (x :: q) → Row (x :: q) → RedS (back q ++ und x :: m)
  | [], m, x, h, _, _ => h
  | y :: q, m, x, h, hq, hr => by
    have e : back (y :: q) ++ und x :: m = back q ++ und y :: (und x :: m) := by simp [back]
    rw [e]
    refine red_back (x := y) (m := und x :: m) ⟨?_, h⟩ hq.tail fun z hz => hr z (List.mem_cons_of_mem _ hz)
    rw [und_und (hr y (by simp))]
    exact fun z => hq.1 z.symm
theorem tight_conj {u : Nat} (hu : IsT u) : ∀ {q : List Nat}, RedS q → Row q → ∃ p, Row p ∧ tight (back q ++ u :: q) = back p ++ u :: p
  | [], _, _ => ⟨[], row_nil, tight_of_red (r := [u]) trivial⟩
  | x :: q, hq, hr => by
    have hx := hr x (by simp)
    have hrq : Row q := fun z hz => hr z (List.mem_cons_of_mem _ hz)
    have e : back (x :: q) ++ u :: x :: q = back q ++ und x :: u :: (x :: q) := by simp [back]
    by_cases h1 : u = x
    · obtain ⟨p, hp, ep⟩ := tight_conj hu hq.tail hrq
      rw [e, tight_cut (back_row hrq) (und_T hx) hu (by rw [h1]), ← h1]
      exact ⟨p, hp, ep⟩
    · by_cases h2 : u = und x
      · obtain ⟨p, hp, ep⟩ := tight_conj hu hq.tail hrq
        have e2 : back q ++ und x :: u :: (x :: q) = (back q ++ [und x]) ++ u :: x :: q := by simp
        rw [e, e2, tight_cut (row_app2 (back_row hrq) fun z hz => by rw [List.mem_singleton.mp hz]; exact und_T hx) hu hx h2]
        have e3 : back q ++ [und x] ++ q = back q ++ u :: q := by rw [h2]; simp
        rw [e3]
        exact ⟨p, hp, ep⟩
      · refine ⟨x :: q, hr, tight_of_red (red_rev ?_ ?_)⟩
        · exact row_app2 (back_row hr) fun z hz => (List.mem_cons.mp hz).elim (fun z => z ▸ hu) (hr z)
        · rw [e]
          refine red_back (m := u :: x :: q) ⟨?_, ?_, hq⟩ hq hr
          · rw [und_und hx]
            exact h1
          · intro z
            exact h2 (und_eq hx z hu)
theorem redS_tight {r : List Nat} (hr : Row r) : RedS (tight r) := red_rev' (tight_row hr) (tight_red r)
theorem tight_left {a b : List Nat} (ha : Row a) (hb : Row b) : tight (tight a ++ b) = tight (a ++ b) := by rw [← tight_parts (tight_row ha) hb, tight_tight, tight_parts ha hb]
theorem tight_right {a b : List Nat} (ha : Row a) (hb : Row b) : tight (a ++ tight b) = tight (a ++ b) := by rw [← tight_parts ha (tight_row hb), tight_tight, tight_parts ha hb]
theorem row_one {c : Nat} (h : IsT c) : Row [c] := fun z hz => by rw [List.mem_singleton.mp hz]; exact h
/-- the turn that one lifting puts in -/
def chg (a b : List Nat) : Option Nat := match cyc (tight (back a ++ b)) with
  | [c] => some c
  | _ => none
theorem chg_some {a b : List Nat} {c : Nat} (h : chg a b = some c) : cyc (tight (back a ++ b)) = [c] := by
  unfold chg at h
  split at h
  · rename_i d e
    cases h
    exact e
  · cases h
theorem chg_of {a b : List Nat} {c : Nat} (h : cyc (tight (back a ++ b)) = [c]) : chg a b = some c := by
  unfold chg
  rw [h]
theorem chg_tight {a b : List Nat} (ha : Row a) (hb : Row b) : chg (tight a) (tight b) = chg a b := by
  unfold chg
  rw [← tight_back ha, tight_parts (back_row ha) hb]
theorem cyc_around {u : Nat} {q : List Nat} (hu : IsT u) (hq : Row q) : cyc (tight (back q ++ u :: q)) = [u] := by
  have e : tight (back q ++ u :: q) = tight (back (tight q) ++ u :: tight q) := by
    have hb := back_row hq
    rw [← tight_back hq, tight_left hb (fun z hz => (List.mem_cons.mp hz).elim (fun z => z ▸ hu) (tight_row hq z)), show back q ++ u :: q = (back q ++ [u]) ++ q by simp, show back q ++ u :: tight q = (back q ++ [u]) ++ tight q by simp, tight_right (row_app2 hb (row_one hu)) hq]
  rw [e]
  obtain ⟨p, _, ep⟩ := tight_conj hu (redS_tight hq) (tight_row hq)
  rw [ep, cyc_conj]
theorem tight_backself {p : List Nat} (hp : Row p) : tight (back p ++ p) = [] := by
  have := tight_self_back (back_row hp)
  rwa [back_back hp] at this
theorem chg_del {p q : List Nat} {c : Nat} (hp : Row p) (hq : Row q) (hc : IsT c) : chg (p ++ c :: q) (p ++ q) = some (und c) := by
  refine chg_of ?_
  have e : back (p ++ c :: q) ++ (p ++ q) = (back q ++ [und c]) ++ ((back p ++ p) ++ q) := by simp [back]
  rw [e, tight_mid (row_app2 (back_row hq) (row_one (und_T hc))) (row_app2 (back_row hp) hp) hq (tight_backself hp)]
  have := cyc_around (und_T hc) hq
  simpa using this
theorem chg_ins {p q : List Nat} {c : Nat} (hp : Row p) (hq : Row q) (hc : IsT c) : chg (p ++ q) (p ++ c :: q) = some c := by
  refine chg_of ?_
  have e : back (p ++ q) ++ (p ++ c :: q) = back q ++ ((back p ++ p) ++ c :: q) := by simp [back]
  rw [e, tight_mid (back_row hq) (row_app2 (back_row hp) hp) (fun z hz => (List.mem_cons.mp hz).elim (fun z => z ▸ hc) (hq z)) (tight_backself hp)]
  exact cyc_around hc hq
section
variable {w : Nat → Option Int}
theorem Cst.uncyc {x : Int} : ∀ {n : Nat} {s : List Nat}, Row s → Cst w (cycN n s) x → Cst w s x
  | 0, _, _, h => h
  | n + 1, s, hr, h => by
    unfold cycN at h
    split at h
    · rename_i hc
      obtain ⟨h1, h2⟩ := hc
      obtain ⟨a, t, rfl⟩ : ∃ a t, s = a :: t := by
        cases s with
        | nil => simp at h1
        | cons a t => exact ⟨a, t, rfl⟩
      have ht : t ≠ [] := fun e => by subst e; simp at h1
      obtain ⟨m, y, rfl⟩ : ∃ m y, t = m ++ [y] := ⟨t.dropLast, t.getLast ht, (List.dropLast_concat_getLast ht).symm⟩
      have e1 : (a :: (m ++ [y])).drop 1 = m ++ [y] := rfl
      rw [e1, List.dropLast_concat] at h
      have e2 : (a :: (m ++ [y])).length - 1 = m.length + 1 := by simp
      rw [e2, List.getD_cons_zero, List.getD_cons_succ, List.getD_eq_getElem?_getD, List.getElem?_append_right (Nat.le_refl _), Nat.sub_self] at h2
      have h2 : a = und y := h2
      have hy : IsT y := hr y (by simp)
      have hm : Row m := fun z hz => hr z (List.mem_cons_of_mem _ (List.mem_append_left _ hz))
      have := Cst.uncyc hm h
      subst h2
      exact (Cst.pair (b := []) (und_T hy) this .nil).to (by rw [und_und hy]) (by omega)
    · exact h
/-- what a lifting costs is enough -/
theorem chg_cst (W : WOk w) {a b : List Nat} (ha : Row a) (hb : Row b) {c : Nat} {x : Int} (h : chg a b = some c) (hx : w c = some x) : Cst w (back a ++ b) x := by
  have hr : Row (back a ++ b) := row_app2 (back_row ha) hb
  refine Cst.untight W hr (Cst.uncyc (tight_row hr) (n := (tight (back a ++ b)).length) ?_)
  have e := chg_some h
  unfold cyc at e
  rw [e]
  have hc : IsT c := by
    have : ∀ n s, Row s → Row (cycN n s) := by
      intro n
      induction n with
      | zero => exact fun s h => h
      | succ n ih =>
        intro s hs
        unfold cycN
        split
        · exact ih _ fun z hz => hs z (List.mem_of_mem_drop (List.dropLast_subset _ hz))
        · exact hs
    exact this _ _ (tight_row hr) c (by rw [e]; simp)
  exact Cst.one hc hx
def lstep (w : Nat → Option Int) (a b : List Nat) : Option Int := (chg a b).bind w
def lcR (w : Nat → Option Int) : List (List Nat) → Option Int
  | a :: b :: ts => oplus (lstep w a b) (lcR w (b :: ts))
  | _ => some 0
theorem zero_oplus (a : Option Int) : oplus (some 0) a = a := by
  cases a with
  | none => rfl
  | some x => show some (0 + x) = some x; rw [Int.zero_add]
theorem lcR_join : ∀ (l : List (List Nat)) (z : List Nat) (r : List (List Nat)), lcR w (l ++ z :: r) = oplus (lcR w (l ++ [z])) (lcR w (z :: r))
  | [], z, r => (zero_oplus _).symm
  | [x], z, r => by
    show oplus (lstep w x z) (lcR w (z :: r)) = oplus (oplus (lstep w x z) (some 0)) _
    rw [oplus_zero]
  | x :: y :: l, z, r => by
    show oplus (lstep w x y) (lcR w ((y :: l) ++ z :: r)) = oplus (oplus (lstep w x y) (lcR w ((y :: l) ++ [z]))) _
    rw [lcR_join (y :: l), oplus_assoc]
theorem lcR_snoc (l : List (List Nat)) (a b : List Nat) : lcR w (l ++ [a, b]) = oplus (lcR w (l ++ [a])) (lstep w a b) := by
  rw [show l ++ [a, b] = l ++ a :: [b] by rfl, lcR_join]
  show oplus _ (oplus (lstep w a b) (some 0)) = _
  rw [oplus_zero]
/-- a whole list of liftings is enough -/
theorem lcR_cst (W : WOk w) : ∀ {ts : List (List Nat)} {a z : List Nat} {n : Int}, (∀ t ∈ ts, Row t) → ts.head? = some a → ts.getLast? = some z → lcR w ts = some n → ∃ m, m ≤ n ∧ Cst w (back a ++ z) m
  | [], _, _, _, _, h, _, _ => by cases h
  | [t], a, z, n, hr, h1, h2, h3 => by
    cases h1
    cases h2
    have h3 : some (0 : Int) = some n := h3
    cases h3
    have ht := hr t (by simp)
    exact ⟨0, Int.le_refl _, by have := Cst.selfBack (w := w) (back_row ht); rwa [back_back ht] at this⟩
  | t :: u :: ts, a, z, n, hr, h1, h2, h3 => by
    cases h1
    have h3 : oplus (lstep w t u) (lcR w (u :: ts)) = some n := h3
    obtain ⟨x, y, e1, e2, rfl⟩ := oplus_some h3
    have h2 : (u :: ts).getLast? = some z := by rw [← h2]; exact (List.getLast?_cons_cons).symm
    obtain ⟨m, hm, hc⟩ := lcR_cst W (a := u) (fun t ht => hr t (List.mem_cons_of_mem _ ht)) rfl h2 e2
    unfold lstep at e1
    obtain ⟨c, hc1, hc2⟩ := Option.bind_eq_some_iff.mp e1
    have hu := hr u (by simp)
    have h4 := chg_cst W (hr t (by simp)) hu hc1 hc2
    obtain ⟨k, hk, h5⟩ := Cst.cutMid W (t := u) (a := back t) (b := z) ((h4.app hc).to (by simp) rfl)
    exact ⟨k, by omega, h5⟩
/-! ### turns left out one by one -/
def wo (r : List Nat) : List Nat → List (List Nat)
  | [] => [r]
  | p :: ps => r :: wo (r.eraseIdx p) ps
theorem wo_head (r : List Nat) (ps : List Nat) : ∃ t, wo r ps = r :: t := by cases ps <;> exact ⟨_, rfl⟩
def fsum (g : Nat → Option Int) : List Nat → Option Int
  | [] => some 0
  | p :: ps => oplus (g p) (fsum g ps)
theorem fsum_app (g : Nat → Option Int) : ∀ a b : List Nat, fsum g (a ++ b) = oplus (fsum g a) (fsum g b)
  | [], b => (zero_oplus _).symm
  | p :: a, b => by
    show oplus (g p) (fsum g (a ++ b)) = oplus (oplus (g p) (fsum g a)) _
    rw [fsum_app g a b, oplus_assoc]
theorem fsum_congr {g h : Nat → Option Int} : ∀ {a : List Nat}, (∀ p ∈ a, g p = h p) → fsum g a = fsum h a
  | [], _ => rfl
  | p :: a, e => by
    show oplus (g p) (fsum g a) = oplus (h p) (fsum h a)
    rw [e p (by simp), fsum_congr fun q hq => e q (List.mem_cons_of_mem _ hq)]
theorem fsum_map (g : Nat → Option Int) (f : Nat → Nat) : ∀ a : List Nat, fsum g (a.map f) = fsum (fun p => g (f p)) a
  | [] => rfl
  | p :: a => by
    show oplus _ (fsum g (a.map f)) = oplus _ _
    rw [fsum_map g f a]
theorem erase_split {r : List Nat} {p : Nat} (h : p < r.length) : r = r.take p ++ r.getD p 0 :: r.drop (p + 1) ∧ r.eraseIdx p = r.take p ++ r.drop (p + 1) := by
  refine ⟨?_, List.eraseIdx_eq_take_drop_succ ..⟩
  have e : r.getD p 0 = r[p] := by rw [List.getD_eq_getElem?_getD, List.getElem?_eq_getElem h]; rfl
  rw [e, ← List.drop_eq_getElem_cons h, List.take_append_drop]
theorem getD_erase {r : List Nat} {p q : Nat} (h : q < p) : (r.eraseIdx p).getD q 0 = r.getD q 0 := by
  rw [List.getD_eq_getElem?_getD, List.getD_eq_getElem?_getD, List.getElem?_eraseIdx_of_lt h]
theorem row_erase {r : List Nat} (h : Row r) (p : Nat) : Row (r.eraseIdx p) := fun c hc => h c (List.mem_of_mem_eraseIdx hc)
theorem row_getD {r : List Nat} (h : Row r) {p : Nat} (hp : p < r.length) : IsT (r.getD p 0) := by
  rw [List.getD_eq_getElem?_getD, List.getElem?_eq_getElem hp]
  exact h _ (List.getElem_mem hp)
theorem lstep_del (W : WOk w) {r : List Nat} (hr : Row r) {p : Nat} (hp : p < r.length) : lstep w (tight r) (tight (r.eraseIdx p)) = w (r.getD p 0) ∧ lstep w (tight (r.eraseIdx p)) (tight r) = w (r.getD p 0) := by
  have hc := row_getD hr hp
  obtain ⟨e1, e2⟩ := erase_split hp
  have h1 : Row (r.take p) := fun z hz => hr z (List.mem_of_mem_take hz)
  have h2 : Row (r.drop (p + 1)) := fun z hz => hr z (List.mem_of_mem_drop hz)
  unfold lstep
  rw [chg_tight hr (row_erase hr p), chg_tight (row_erase hr p) hr]
  have a1 : chg r (r.eraseIdx p) = some (und (r.getD p 0)) := by
    have := chg_del h1 h2 hc
    rwa [← e1, ← e2] at this
  have a2 : chg (r.eraseIdx p) r = some (r.getD p 0) := by
    have := chg_ins h1 h2 hc
    rwa [← e1, ← e2] at this
  rw [a1, a2]
  exact ⟨W.sym _ hc, rfl⟩
theorem erase_len {r : List Nat} {p : Nat} (h : p < r.length) : (r.eraseIdx p).length = r.length - 1 := by rw [List.length_eraseIdx, if_pos h]
theorem lc_wo (W : WOk w) : ∀ {ps r : List Nat}, Row r → ps.Pairwise (fun p q => q < p) → (∀ p ∈ ps, p < r.length) → lcR w ((wo r ps).map tight) = fsum (fun p => w (r.getD p 0)) ps
  | [], r, _, _, _ => rfl
  | p :: ps, r, hr, hd, hl => by
    have hp := hl p (by simp)
    obtain ⟨d1, d2⟩ := List.pairwise_cons.mp hd
    have ih := lc_wo W (ps := ps) (row_erase hr p) d2 fun q hq => by rw [erase_len hp]; have := d1 q hq; omega
    obtain ⟨t, et⟩ := wo_head (r.eraseIdx p) ps
    show lcR w (tight r :: (wo (r.eraseIdx p) ps).map tight) = oplus _ _
    rw [et] at ih ⊢
    show oplus (lstep w (tight r) (tight (r.eraseIdx p))) (lcR w ((r.eraseIdx p :: t).map tight)) = _
    rw [ih, (lstep_del W hr hp).1]
    congr 1
    exact fsum_congr fun q hq => by rw [getD_erase (d1 q hq)]
theorem lc_woR (W : WOk w) : ∀ {ps r : List Nat}, Row r → ps.Pairwise (fun p q => q < p) → (∀ p ∈ ps, p < r.length) → lcR w ((wo r ps).reverse.map tight) = fsum (fun p => w (r.getD p 0)) ps.reverse
  | [], r, _, _, _ => rfl
  | p :: ps, r, hr, hd, hl => by
    have hp := hl p (by simp)
    obtain ⟨d1, d2⟩ := List.pairwise_cons.mp hd
    have ih := lc_woR W (ps := ps) (row_erase hr p) d2 fun q hq => by rw [erase_len hp]; have := d1 q hq; omega
    obtain ⟨t, et⟩ := wo_head (r.eraseIdx p) ps
    show lcR w ((r :: wo (r.eraseIdx p) ps).reverse.map tight) = _
    rw [et] at ih ⊢
    rw [List.reverse_cons, List.reverse_cons, List.append_assoc, List.map_append] 
    rw [List.reverse_cons, List.map_append] at ih
    show lcR w (t.reverse.map tight ++ [tight (r.eraseIdx p), tight r]) = _
    rw [lcR_snoc]
    have ih : lcR w (t.reverse.map tight ++ [tight (r.eraseIdx p)]) = _ := ih
    rw [ih, (lstep_del W hr hp).2, List.reverse_cons, fsum_app]
    have e2 : fsum (fun p => w (r.getD p 0)) [p] = w (r.getD p 0) := oplus_zero _
    rw [e2]
    congr 1
    exact fsum_congr fun q hq => by rw [getD_erase (d1 q (List.mem_reverse.mp hq))]
end
/-! ### what is left of a row -/
def selR : List Nat → (Nat → Bool) → List Nat
  | [], _ => []
  | c :: r, f => if f 0 = true then c :: selR r (fun i => f (i + 1)) else selR r (fun i => f (i + 1))
theorem selR_app : ∀ (a b : List Nat) (f : Nat → Bool), selR (a ++ b) f = selR a f ++ selR b (fun i => f (a.length + i))
  | [], b, f => by
    show selR b f = [] ++ selR b (fun i => f (0 + i))
    rw [List.nil_append, show (fun i => f (0 + i)) = f from funext fun i => by rw [Nat.zero_add]]
  | c :: a, b, f => by
    have e : (fun i => f ((c :: a).length + i)) = fun i => f (a.length + i + 1) := funext fun i => by rw [List.length_cons]; congr 1; omega
    show (if f 0 = true then c :: selR (a ++ b) (fun i => f (i + 1)) else selR (a ++ b) (fun i => f (i + 1))) = (if f 0 = true then c :: selR a (fun i => f (i + 1)) else selR a (fun i => f (i + 1))) ++ _
    rw [selR_app a b, e]
    split <;> rfl
theorem selR_congr : ∀ {r : List Nat} {f g : Nat → Bool}, (∀ i, i < r.length → f i = g i) → selR r f = selR r g
  | [], _, _, _ => rfl
  | c :: r, f, g, h => by
    unfold selR
    rw [h 0 (by simp), selR_congr (r := r) fun i hi => h (i + 1) (by simp; omega)]
theorem selR_true : ∀ {r : List Nat} {f : Nat → Bool}, (∀ i, i < r.length → f i = true) → selR r f = r
  | [], _, _ => rfl
  | c :: r, f, h => by
    unfold selR
    rw [if_pos (h 0 (by simp)), selR_true (r := r) fun i hi => h (i + 1) (by simp; omega)]
theorem selR_back : ∀ (r : List Nat) (f : Nat → Bool), selR (back r) f = back (selR r (fun i => f (r.length - 1 - i)))
  | [], _ => rfl
  | c :: r, f => by
    have e : back (c :: r) = back r ++ [und c] := by simp [back]
    have e2 : (fun i => f ((c :: r).length - 1 - (i + 1))) = fun i => f (r.length - 1 - i) := funext fun i => by rw [List.length_cons]; congr 1; omega
    rw [e, selR_app, selR_back r f, back_len]
    show _ ++ (if f (r.length + 0) = true then [und c] else []) = back (if f ((c :: r).length - 1 - 0) = true then c :: selR r (fun i => f ((c :: r).length - 1 - (i + 1))) else selR r (fun i => f ((c :: r).length - 1 - (i + 1))))
    rw [e2, show (c :: r).length - 1 - 0 = r.length + 0 by simp]
    split
    · simp [back]
    · simp
theorem wo_last : ∀ (ps r : List Nat), ∃ l, wo r ps = l ++ [ps.foldl List.eraseIdx r]
  | [], r => ⟨[], rfl⟩
  | p :: ps, r => by
    obtain ⟨l, e⟩ := wo_last ps (r.eraseIdx p)
    exact ⟨r :: l, by show r :: wo _ _ = _; rw [e]; rfl⟩
theorem fin_sel : ∀ {ps r : List Nat}, ps.Pairwise (fun p q => q < p) → (∀ p ∈ ps, p < r.length) → ps.foldl List.eraseIdx r = selR r fun i => !ps.contains i
  | [], r, _, _ => (selR_true fun i _ => rfl).symm
  | p :: ps, r, hd, hl => by
    have hp := hl p (by simp)
    obtain ⟨d1, d2⟩ := List.pairwise_cons.mp hd
    obtain ⟨e1, e2⟩ := erase_split hp
    have tl : (r.take p).length = p := by rw [List.length_take]; omega
    show ps.foldl List.eraseIdx (r.eraseIdx p) = _
    rw [fin_sel d2 fun q hq => by rw [erase_len hp]; have := d1 q hq; omega]
    conv => rhs; rw [e1]
    rw [e2, selR_app, selR_app, tl]
    have g : ∀ i, p ≤ i → ps.contains i = false := fun i hi => by
      rw [Bool.eq_false_iff]
      intro z
      have := d1 i (List.contains_iff_mem.mp z)
      omega
    congr 1
    · refine selR_congr fun i hi => ?_
      rw [tl] at hi
      rw [List.contains_cons, show (i == p) = false by simp; omega, Bool.false_or]
    · rw [selR_true fun i _ => by rw [g _ (by omega)]; rfl]
      show _ = if (!(p :: ps).contains (p + 0)) = true then _ else _
      rw [if_neg (by simp), selR_true fun i _ => by show (!(p :: ps).contains (p + (i + 1))) = true; rw [List.contains_cons, g _ (by omega), show (p + (i + 1) == p) = false by simp]; rfl]
section
variable {w : Nat → Option Int}
/-- the turns of the pairs of a nesting leave nothing -/
theorem NestI.heldC {r : List Nat} (hr : Row r) {b l : Nat} {ps : List (Nat × Nat)} {n : Int} (h : NestI w r b l ps n) : Cst (fun _ => none) (selR (sub r b l) fun i => (places ps).contains (b + i)) 0 := by
  induction h with
  | nil => exact Cst.nil.to (by unfold sub; rw [List.take_zero]; rfl) rfl
  | @del b l c x n ps hc hx h1 ih =>
    refine ih.to ?_ rfl
    have hn : (places ps).contains (b + 0) = false := by
      rw [Bool.eq_false_iff]
      intro z
      obtain ⟨p, hp, hz⟩ := places_mem.mp (List.contains_iff_mem.mp z)
      have := h1.mem p hp
      omega
    rw [sub_cons hc]
    show _ = if (places ps).contains (b + 0) = true then _ else _
    rw [if_neg (by rw [hn]; decide)]
    exact selR_congr fun i _ => by congr 1; omega
  | @pair b i k c m n ps qs hc hd h1 h2 ih1 ih2 =>
    have hcT := hr c (List.mem_of_getElem? hc)
    refine (Cst.pair hcT ih1 ih2).to ?_ rfl
    have l1 : (sub r (b + 1) i).length = i := by
      unfold sub
      rw [List.length_take, List.length_drop]
      have := (List.getElem?_eq_some_iff.mp hd).1
      omega
    have es : sub r b (i + 2 + k) = c :: (sub r (b + 1) i ++ und c :: sub r (b + 1 + i + 1) k) := by
      rw [show i + 2 + k = (i + 1 + k) + 1 by omega, sub_cons hc]
      congr 1
      have := sub_split (r := r) (b := b + 1) (l := i + 1 + k) (o := i) (by omega) hd
      rw [this]
      congr 3
      omega
    have c1 : (places ((b, b + 1 + i) :: (ps ++ qs))).contains (b + 0) = true := List.contains_iff_mem.mpr (places_mem.mpr ⟨(b, b + 1 + i), List.mem_cons_self, .inl rfl⟩)
    have c2 : (places ((b, b + 1 + i) :: (ps ++ qs))).contains (b + (i + 0 + 1)) = true := List.contains_iff_mem.mpr (places_mem.mpr ⟨(b, b + 1 + i), List.mem_cons_self, .inr (by show b + (i + 0 + 1) = b + 1 + i; omega)⟩)
    rw [es]
    show _ = if (places ((b, b + 1 + i) :: (ps ++ qs))).contains (b + 0) = true then _ else _
    rw [if_pos c1, selR_app, l1]
    congr 2
    · refine selR_congr fun j hj => ?_
      rw [l1] at hj
      rw [Bool.eq_iff_iff, List.contains_iff_mem, List.contains_iff_mem, places_mem, places_mem]
      refine ⟨fun ⟨p, hp, hz⟩ => ⟨p, List.mem_cons_of_mem _ (List.mem_append_left _ hp), by omega⟩, fun ⟨p, hp, hz⟩ => ?_⟩
      rcases List.mem_cons.mp hp with rfl | hp
      · dsimp only at hz; omega
      · rcases List.mem_append.mp hp with hp | hp
        · exact ⟨p, hp, by omega⟩
        · have := h2.mem p hp; omega
    · show _ = if (places ((b, b + 1 + i) :: (ps ++ qs))).contains (b + (i + 0 + 1)) = true then _ else _
      rw [if_pos c2]
      congr 1
      refine selR_congr fun j hj => ?_
      rw [Bool.eq_iff_iff, List.contains_iff_mem, List.contains_iff_mem, places_mem, places_mem]
      refine ⟨fun ⟨p, hp, hz⟩ => ⟨p, List.mem_cons_of_mem _ (List.mem_append_right _ hp), by omega⟩, fun ⟨p, hp, hz⟩ => ?_⟩
      rcases List.mem_cons.mp hp with rfl | hp
      · dsimp only at hz; omega
      · rcases List.mem_append.mp hp with hp | hp
        · have := h1.mem p hp; omega
        · exact ⟨p, hp, by omega⟩
theorem w0_ok : WOk fun _ => none := ⟨fun c x h => (nomatch h), fun c _ => rfl⟩
theorem tight_eq_of {a b : List Nat} (ha : Row a) (hb : Row b) (h : tight (back a ++ b) = []) : tight a = tight b := by
  have h1 : tight (a ++ (back a ++ b)) = tight a := by
    rw [← tight_right ha (row_app2 (back_row ha) hb), h, List.append_nil]
  have h2 : tight ([] ++ ((a ++ back a) ++ b)) = tight ([] ++ b) := tight_mid row_nil (row_app2 ha (back_row ha)) hb (tight_self_back ha)
  rw [← h1]
  have e : a ++ (back a ++ b) = [] ++ ((a ++ back a) ++ b) := by simp
  rw [e, h2]
  rfl
/-- the free places of a row, and what they cost -/
def freeL (ps : List (Nat × Nat)) (l : Nat) : List Nat := (List.range l).filter fun i => !(places ps).contains i
theorem freeC_sum (r : List Nat) (ps : List (Nat × Nat)) : ∀ l, freeC w r (places ps) 0 l = fsum (fun i => w (r.getD i 0)) (freeL ps l)
  | 0 => rfl
  | l + 1 => by
    unfold freeL
    rw [freeC_succ, freeC_sum r ps l, List.range_succ, List.filter_append, fsum_app, Nat.zero_add]
    cases h : (places ps).contains l with
    | true =>
      rw [if_pos rfl, List.filter_cons_of_neg (by rw [h]; decide)]
      exact (oplus_zero _).symm
    | false =>
      rw [if_neg (by decide), List.filter_cons_of_pos (by rw [h]; rfl)]
      show _ = oplus _ (oplus _ (some 0))
      rw [oplus_zero]
      rfl
end

/-! ### mathematics: the told list -/
def takenL (free : List Nat) (m : Nat) : List Nat := (free.filter fun p => decide (p < m)).map fun p => m - 1 - p
def putL (free : List Nat) (m : Nat) : List Nat := (free.filter fun p => decide (m ≤ p)).map fun p => p - m
def toldL (row other free : List Nat) : List (List Nat) := (wo row (takenL free row.length) ++ ((wo other (putL free row.length).reverse).reverse).tail).map tight
theorem filt_split {m : Nat} : ∀ {l : List Nat}, l.Pairwise (· < ·) → (l.filter fun p => decide (p < m)) ++ (l.filter fun p => decide (m ≤ p)) = l
  | [], _ => rfl
  | x :: l, h => by
    obtain ⟨h1, h2⟩ := List.pairwise_cons.mp h
    by_cases hx : x < m
    · rw [List.filter_cons_of_pos (by simpa using hx), List.filter_cons_of_neg (by simp; omega), List.cons_append, filt_split h2]
    · rw [List.filter_cons_of_neg (by simpa using hx), List.filter_cons_of_pos (by simp; omega)]
      have e1 : (l.filter fun p => decide (p < m)) = [] := List.filter_eq_nil_iff.mpr fun p hp => by have := h1 p hp; simp; omega
      have e2 : (l.filter fun p => decide (m ≤ p)) = l := List.filter_eq_self.mpr fun p hp => by have := h1 p hp; simp; omega
      rw [e1, e2]
      rfl
theorem freeL_asc (ps : List (Nat × Nat)) (l : Nat) : (freeL ps l).Pairwise (· < ·) := List.Pairwise.filter _ List.pairwise_lt_range
theorem freeL_mem {ps : List (Nat × Nat)} {l p : Nat} : p ∈ freeL ps l ↔ p < l ∧ (places ps).contains p = false := by
  unfold freeL
  rw [List.mem_filter, List.mem_range]
  simp
theorem takenL_desc {free : List Nat} (h : free.Pairwise (· < ·)) (m : Nat) : (takenL free m).Pairwise (fun p q => q < p) := by
  unfold takenL
  rw [List.pairwise_map]
  refine List.Pairwise.imp_of_mem ?_ (List.Pairwise.filter _ h)
  intro a b ha hb hab
  have h1 := of_decide_eq_true (List.mem_filter.mp ha).2
  have h2 := of_decide_eq_true (List.mem_filter.mp hb).2
  omega
theorem putL_asc {free : List Nat} (h : free.Pairwise (· < ·)) (m : Nat) : (putL free m).Pairwise (· < ·) := by
  unfold putL
  rw [List.pairwise_map]
  refine List.Pairwise.imp_of_mem ?_ (List.Pairwise.filter _ h)
  intro a b ha hb hab
  have h1 := of_decide_eq_true (List.mem_filter.mp ha).2
  omega
theorem taken_mem {ps : List (Nat × Nat)} {m k i : Nat} : i ∈ takenL (freeL ps (m + k)) m ↔ i < m ∧ (places ps).contains (m - 1 - i) = false := by
  unfold takenL
  rw [List.mem_map]
  constructor
  · rintro ⟨p, hp, rfl⟩
    obtain ⟨h1, h2⟩ := List.mem_filter.mp hp
    have h2 := of_decide_eq_true h2
    refine ⟨by omega, ?_⟩
    rw [show m - 1 - (m - 1 - p) = p by omega]
    exact (freeL_mem.mp h1).2
  · rintro ⟨h1, h2⟩
    exact ⟨m - 1 - i, List.mem_filter.mpr ⟨freeL_mem.mpr ⟨by omega, h2⟩, decide_eq_true (by omega)⟩, by omega⟩
theorem put_mem {ps : List (Nat × Nat)} {m k i : Nat} : i ∈ putL (freeL ps (m + k)) m ↔ i < k ∧ (places ps).contains (m + i) = false := by
  unfold putL
  rw [List.mem_map]
  constructor
  · rintro ⟨p, hp, rfl⟩
    obtain ⟨h1, h2⟩ := List.mem_filter.mp hp
    have h2 := of_decide_eq_true h2
    obtain ⟨h3, h4⟩ := freeL_mem.mp h1
    refine ⟨by omega, ?_⟩
    rw [show m + (p - m) = p by omega]
    exact h4
  · rintro ⟨h1, h2⟩
    exact ⟨m + i, List.mem_filter.mpr ⟨freeL_mem.mpr ⟨by omega, h2⟩, decide_eq_true (by omega)⟩, by omega⟩
theorem back_getD {r : List Nat} {p : Nat} (h : p < r.length) : (back r).getD p 0 = und (r.getD (r.length - 1 - p) 0) := by
  unfold back
  rw [List.getD_eq_getElem?_getD, List.getElem?_reverse (by rw [List.length_map]; exact h), List.length_map, List.getElem?_map, List.getD_eq_getElem?_getD, List.getElem?_eq_getElem (show r.length - 1 - p < r.length by omega)]
  rfl
theorem wo_mem : ∀ {ps r s : List Nat}, s ∈ wo r ps → (∀ c ∈ s, c ∈ r) ∧ s.length ≤ r.length
  | [], r, s, h => by
    rw [List.mem_singleton.mp h]
    exact ⟨fun c h => h, Nat.le_refl _⟩
  | p :: ps, r, s, h => by
    rcases List.mem_cons.mp h with rfl | h
    · exact ⟨fun c h => h, Nat.le_refl _⟩
    · obtain ⟨h1, h2⟩ := wo_mem h
      have := List.length_eraseIdx_le r p
      exact ⟨fun c hc => List.mem_of_mem_eraseIdx (h1 c hc), by omega⟩
theorem wo_len : ∀ (ps r : List Nat), (wo r ps).length = ps.length + 1
  | [], _ => rfl
  | p :: ps, r => by
    show (wo _ ps).length + 1 = _
    rw [wo_len ps]
    rfl
theorem sub_whole (r : List Nat) : sub r 0 r.length = r := by unfold sub; rw [List.drop_zero, List.take_length]
structure Told (w : Nat → Option Int) (row other : List Nat) (ts : List (List Nat)) (n : Int) : Prop where
  head : ts.head? = some (tight row)
  last : ts.getLast? = some (tight other)
  cost : lcR w ts = some n
  tig : ∀ t ∈ ts, tight t = t
  mem : ∀ t ∈ ts, (∀ c ∈ t, c ∈ row ∨ c ∈ other) ∧ t.length ≤ row.length + other.length
  few : ts.length ≤ 1 + row.length + other.length
  src : ∃ ps, NestI w (back row ++ other) 0 (back row ++ other).length ps n ∧ ts = toldL row other (freeL ps (row.length + other.length))
section
variable {w : Nat → Option Int}
theorem told_ok (W : WOk w) {row other : List Nat} (hr : Row row) (ho : Row other) {ps : List (Nat × Nat)} {n : Int} (h : NestI w (back row ++ other) 0 (back row ++ other).length ps n) :
    Told w row other (toldL row other (freeL ps (row.length + other.length))) n := by
  have hW : Row (back row ++ other) := row_app2 (back_row hr) ho
  have hlen : (back row ++ other).length = row.length + other.length := by rw [List.length_append, back_len]
  have hfa := freeL_asc ps (row.length + other.length)
  have hsum : fsum (fun i => w ((back row ++ other).getD i 0)) (freeL ps (row.length + other.length)) = some n := by
    rw [← hlen, ← freeC_sum]
    exact h.free
  have hheld := h.heldC hW
  rw [sub_whole, selR_app, selR_back, back_len] at hheld
  obtain ⟨free, hfree⟩ : ∃ free, free = freeL ps (row.length + other.length) := ⟨_, rfl⟩
  have td := takenL_desc hfa row.length
  have pa := putL_asc hfa row.length
  have tb : ∀ p ∈ takenL (freeL ps (row.length + other.length)) row.length, p < row.length := fun p hp => (taken_mem.mp hp).1
  have pb : ∀ p ∈ putL (freeL ps (row.length + other.length)) row.length, p < other.length := fun p hp => (put_mem.mp hp).1
  have pd : (putL (freeL ps (row.length + other.length)) row.length).reverse.Pairwise (fun p q => q < p) := List.pairwise_reverse.mpr pa
  have pbr : ∀ p ∈ (putL (freeL ps (row.length + other.length)) row.length).reverse, p < other.length := fun p hp => pb p (List.mem_reverse.mp hp)
  have f1 : (takenL (freeL ps (row.length + other.length)) row.length).foldl List.eraseIdx row = selR row fun i => (places ps).contains (0 + (row.length - 1 - i)) := by
    rw [fin_sel td tb]
    refine selR_congr fun i hi => ?_
    rw [Nat.zero_add]
    cases e : (places ps).contains (row.length - 1 - i) with
    | true =>
      have : i ∉ takenL (freeL ps (row.length + other.length)) row.length := fun z => by have := (taken_mem.mp z).2; rw [e] at this; cases this
      simpa using this
    | false =>
      have : i ∈ takenL (freeL ps (row.length + other.length)) row.length := taken_mem.mpr ⟨hi, e⟩
      simpa using this
  have f2 : (putL (freeL ps (row.length + other.length)) row.length).reverse.foldl List.eraseIdx other = selR other fun i => (places ps).contains (0 + (row.length + i)) := by
    rw [fin_sel pd pbr]
    refine selR_congr fun i hi => ?_
    rw [Nat.zero_add]
    cases e : (places ps).contains (row.length + i) with
    | true =>
      have : i ∉ putL (freeL ps (row.length + other.length)) row.length := fun z => by have := (put_mem.mp z).2; rw [e] at this; cases this
      simpa using this
    | false =>
      have : i ∈ putL (freeL ps (row.length + other.length)) row.length := put_mem.mpr ⟨hi, e⟩
      simpa using this
  rw [← f1, ← f2] at hheld
  have hT := Cst.zero w0_ok hheld (Int.le_refl _)
  have r1 : Row ((takenL (freeL ps (row.length + other.length)) row.length).foldl List.eraseIdx row) := by
    obtain ⟨l, e⟩ := wo_last (takenL (freeL ps (row.length + other.length)) row.length) row
    exact fun c hc => hr c ((wo_mem (ps := takenL (freeL ps (row.length + other.length)) row.length) (by rw [e]; simp)).1 c hc)
  have r2 : Row ((putL (freeL ps (row.length + other.length)) row.length).reverse.foldl List.eraseIdx other) := by
    obtain ⟨l, e⟩ := wo_last (putL (freeL ps (row.length + other.length)) row.length).reverse other
    exact fun c hc => ho c ((wo_mem (ps := (putL (freeL ps (row.length + other.length)) row.length).reverse) (by rw [e]; simp)).1 c hc)
  have hz := tight_eq_of r1 r2 hT
  obtain ⟨la, ea⟩ := wo_last (takenL (freeL ps (row.length + other.length)) row.length) row
  obtain ⟨lb, eb⟩ := wo_last (putL (freeL ps (row.length + other.length)) row.length).reverse other
  have c1 := lc_wo W hr td tb
  have c2 := lc_woR W ho pd pbr
  obtain ⟨ha, ea2⟩ := wo_head row (takenL (freeL ps (row.length + other.length)) row.length)
  obtain ⟨hb, eb2⟩ := wo_head other (putL (freeL ps (row.length + other.length)) row.length).reverse
  generalize hF1 : (takenL (freeL ps (row.length + other.length)) row.length).foldl List.eraseIdx row = F1 at *
  generalize hF2 : (putL (freeL ps (row.length + other.length)) row.length).reverse.foldl List.eraseIdx other = F2 at *
  have eB : (wo other (putL (freeL ps (row.length + other.length)) row.length).reverse).reverse = F2 :: lb.reverse := by rw [eb, List.reverse_append]; rfl
  have eT : toldL row other (freeL ps (row.length + other.length)) = la.map tight ++ tight F1 :: lb.reverse.map tight := by
    unfold toldL
    rw [eB, ea]
    simp
  have eA : (wo row (takenL (freeL ps (row.length + other.length)) row.length)).map tight = la.map tight ++ [tight F1] := by rw [ea]; simp
  rw [eB] at c2
  rw [eA] at c1
  have c2 : lcR w (tight F2 :: lb.reverse.map tight) = _ := c2
  refine ⟨?_, ?_, ?_, ?_, ?_, ?_, ps, h, rfl⟩
  · rw [eT, show la.map tight ++ tight F1 :: lb.reverse.map tight = (la.map tight ++ [tight F1]) ++ lb.reverse.map tight by simp, ← eA, ea2]
    rfl
  · rw [eT, hz, List.getLast?_append]
    have e3 : tight F2 :: lb.reverse.map tight = (hb.reverse ++ [other]).map tight := by
      have : (F2 :: lb.reverse) = hb.reverse ++ [other] := by rw [← eB, eb2, List.reverse_cons]
      rw [← this]
      rfl
    rw [e3, List.map_append, List.getLast?_append]
    rfl
  · rw [eT, lcR_join, c1, hz, c2, List.reverse_reverse]
    rw [← filt_split (m := row.length) hfa, fsum_app] at hsum
    rw [← hsum]
    congr 1
    · unfold takenL
      rw [fsum_map]
      refine fsum_congr fun p hp => ?_
      have hp := of_decide_eq_true (List.mem_filter.mp hp).2
      rw [show (back row ++ other).getD p 0 = (back row).getD p 0 by rw [List.getD_eq_getElem?_getD, List.getD_eq_getElem?_getD, List.getElem?_append_left (by rw [back_len]; exact hp)], back_getD hp, W.sym _ (row_getD hr (by omega))]
    · unfold putL
      rw [fsum_map]
      refine fsum_congr fun p hp => ?_
      have hp := of_decide_eq_true (List.mem_filter.mp hp).2
      rw [show (back row ++ other).getD p 0 = other.getD (p - row.length) 0 by rw [List.getD_eq_getElem?_getD, List.getD_eq_getElem?_getD, List.getElem?_append_right (by rw [back_len]; exact hp), back_len]]
  · intro t ht
    obtain ⟨s, _, rfl⟩ := List.mem_map.mp ht
    exact tight_tight s
  · intro t ht
    obtain ⟨s, hs, rfl⟩ := List.mem_map.mp ht
    have hs : (∀ c ∈ s, c ∈ row ∨ c ∈ other) ∧ s.length ≤ row.length + other.length := by
      rcases List.mem_append.mp hs with hs | hs
      · obtain ⟨h1, h2⟩ := wo_mem hs
        exact ⟨fun c hc => .inl (h1 c hc), by omega⟩
      · obtain ⟨h1, h2⟩ := wo_mem (List.mem_reverse.mp (List.mem_of_mem_tail hs))
        exact ⟨fun c hc => .inr (h1 c hc), by omega⟩
    have := tight_len s
    exact ⟨fun c hc => hs.1 c (tight_sub s c hc), by omega⟩
  · unfold toldL
    rw [List.length_map, List.length_append, List.length_tail, List.length_reverse, wo_len, wo_len, List.length_reverse]
    have h1 : (takenL (freeL ps (row.length + other.length)) row.length).length + (putL (freeL ps (row.length + other.length)) row.length).length = (freeL ps (row.length + other.length)).length := by
      unfold takenL putL
      rw [List.length_map, List.length_map, ← List.length_append, filt_split hfa]
    have h2 : (freeL ps (row.length + other.length)).length ≤ row.length + other.length := by
      unfold freeL
      refine Nat.le_trans (List.length_filter_le _ _) ?_
      rw [List.length_range]
      exact Nat.le_refl _
    omega
end
/-! ### wound numbers -/
def vl (l c : Nat) : Int := if c = l then 1 else if c + 32 = l then -1 else 0
def wd (l : Nat) : List Nat → Int
  | [] => 0
  | c :: r => vl l c + wd l r
theorem wd_app (l : Nat) : ∀ a b : List Nat, wd l (a ++ b) = wd l a + wd l b
  | [], b => by show wd l b = 0 + wd l b; omega
  | c :: a, b => by
    show vl l c + wd l (a ++ b) = vl l c + wd l a + wd l b
    rw [wd_app l a b]
    omega
theorem wd_one (l c : Nat) : wd l [c] = vl l c := Int.add_zero _
theorem vl_und {l c : Nat} (hl : 97 ≤ l ∧ l ≤ 122) (hc : IsT c) : vl l (und c) = - vl l c := by
  unfold IsT at hc
  unfold vl und
  repeat' split
  all_goals omega
theorem wd_back {l : Nat} (hl : 97 ≤ l ∧ l ≤ 122) : ∀ {r : List Nat}, Row r → wd l (back r) = - wd l r
  | [], _ => rfl
  | c :: r, h => by
    have e : back (c :: r) = back r ++ [und c] := by simp [back]
    rw [e, wd_app, wd_one, vl_und hl (h c (by simp)), wd_back hl fun z hz => h z (List.mem_cons_of_mem _ hz)]
    show _ = - (vl l c + wd l r)
    omega
theorem wd_rev (l : Nat) : ∀ r : List Nat, wd l r.reverse = wd l r
  | [] => rfl
  | c :: r => by
    rw [List.reverse_cons, wd_app, wd_one, wd_rev l r]
    show _ = vl l c + wd l r
    omega
theorem wd_step {l : Nat} (hl : 97 ≤ l ∧ l ≤ 122) {st : List Nat} {c : Nat} (hc : IsT c) : wd l (stepT st c) = wd l st + vl l c := by
  cases st with
  | nil =>
    show vl l c + 0 = 0 + vl l c
    omega
  | cons t r =>
    show wd l (if t = und c then r else c :: t :: r) = vl l t + wd l r + vl l c
    by_cases e : t = und c
    · rw [if_pos e, e, vl_und hl hc]
      omega
    · rw [if_neg e]
      show vl l c + (vl l t + wd l r) = _
      omega
theorem wd_fold {l : Nat} (hl : 97 ≤ l ∧ l ≤ 122) : ∀ {r st : List Nat}, Row r → wd l (r.foldl stepT st) = wd l st + wd l r
  | [], st, _ => by show wd l st = wd l st + 0; omega
  | c :: r, st, h => by
    show wd l (r.foldl stepT (stepT st c)) = wd l st + (vl l c + wd l r)
    rw [wd_fold hl fun z hz => h z (List.mem_cons_of_mem _ hz), wd_step hl (h c (by simp))]
    omega
theorem wd_tight {l : Nat} (hl : 97 ≤ l ∧ l ≤ 122) {r : List Nat} (h : Row r) : wd l (tight r) = wd l r := by
  unfold tight tightR
  rw [wd_rev, wd_fold hl h]
  show 0 + wd l r = _
  omega
theorem wd_cyc {l : Nat} (hl : 97 ≤ l ∧ l ≤ 122) : ∀ {n : Nat} {s : List Nat}, Row s → wd l (cycN n s) = wd l s
  | 0, _, _ => rfl
  | n + 1, s, hr => by
    unfold cycN
    split
    · rename_i hc
      obtain ⟨h1, h2⟩ := hc
      obtain ⟨a, t, rfl⟩ : ∃ a t, s = a :: t := by
        cases s with
        | nil => simp at h1
        | cons a t => exact ⟨a, t, rfl⟩
      have ht : t ≠ [] := fun e => by subst e; simp at h1
      obtain ⟨m, y, rfl⟩ : ∃ m y, t = m ++ [y] := ⟨t.dropLast, t.getLast ht, (List.dropLast_concat_getLast ht).symm⟩
      have e1 : (a :: (m ++ [y])).drop 1 = m ++ [y] := rfl
      rw [e1, List.dropLast_concat]
      have e2 : (a :: (m ++ [y])).length - 1 = m.length + 1 := by simp
      rw [e2, List.getD_cons_zero, List.getD_cons_succ, List.getD_eq_getElem?_getD, List.getElem?_append_right (Nat.le_refl _), Nat.sub_self] at h2
      have h2 : a = und y := h2
      have hy : IsT y := hr y (by simp)
      rw [wd_cyc hl fun z hz => hr z (List.mem_cons_of_mem _ (List.mem_append_left _ hz))]
      show _ = vl l a + wd l (m ++ [y])
      rw [wd_app, wd_one, h2, vl_und hl hy]
      omega
    · rfl
theorem wd_chg {l : Nat} (hl : 97 ≤ l ∧ l ≤ 122) {a b : List Nat} (ha : Row a) (hb : Row b) {c : Nat} (h : chg a b = some c) : wd l b - wd l a = vl l c := by
  have e := chg_some h
  have hr : Row (back a ++ b) := row_app2 (back_row ha) hb
  have e2 : wd l (cyc (tight (back a ++ b))) = wd l (tight (back a ++ b)) := wd_cyc hl (tight_row hr)
  rw [e, wd_one, wd_tight hl hr, wd_app, wd_back hl ha] at e2
  omega
theorem count_wd {l : Nat} (hl : 97 ≤ l) : ∀ r : List Nat, ((r.count l : Nat) : Int) - ((r.count (l - 32) : Nat) : Int) = wd l r
  | [] => rfl
  | c :: r => by
    have ih := count_wd hl r
    rw [List.count_cons, List.count_cons]
    show _ = vl l c + wd l r
    unfold vl
    rw [← ih]
    by_cases h1 : c = l
    · rw [if_pos (by simpa using h1), if_neg (by simp; omega), if_pos h1]
      omega
    · rw [if_neg (by simpa using h1), if_neg h1]
      by_cases h2 : c + 32 = l
      · rw [if_pos (by simp; omega), if_pos h2]
        omega
      · rw [if_neg (by simp; omega), if_neg h2]
        omega
/-- how far two rows' wound numbers lie apart, post by post -/
def apartL (fl : Floor) (a b : List Nat) : List Int := fl.map fun p => ((wd p.1 a - wd p.1 b).natAbs : Int)
theorem rep_of {α : Type} {l : List (Nat × Option Int)} {f : Nat × Option Int → Int} (h : ∀ p ∈ l, f p = 0) : l.map f = List.replicate l.length 0 := by
  rw [List.eq_replicate_iff]
  refine ⟨List.length_map _, fun z hz => ?_⟩
  obtain ⟨p, hp, rfl⟩ := List.mem_map.mp hz
  exact h p hp
theorem apart_perm {fl : Floor} (hf : FloorOk fl) {a b : List Nat} (ha : Row a) (hb : Row b) {c : Nat} (h : chg a b = some c) (hc : c ∈ turnsF fl) : (List.replicate (fl.length - 1) (0 : Int) ++ [1]).Perm (apartL fl a b) := by
  have hv : ∀ p ∈ fl, ((wd p.1 a - wd p.1 b).natAbs : Int) = ((vl p.1 c).natAbs : Int) := fun p hp => by
    have hb2 := hf.ok p hp
    have := wd_chg ⟨hb2.1, hb2.2.1⟩ ha hb h
    omega
  obtain ⟨q, hq, eq⟩ : ∃ q ∈ fl, c = q.1 ∨ c + 32 = q.1 := by
    unfold turnsF lets at hc
    rcases List.mem_append.mp hc with hc | hc
    · obtain ⟨p, hp, rfl⟩ := List.mem_map.mp hc
      exact ⟨p, hp, .inl rfl⟩
    · obtain ⟨z, hz, rfl⟩ := List.mem_map.mp hc
      obtain ⟨p, hp, rfl⟩ := List.mem_map.mp hz
      have := (hf.ok p hp).1
      exact ⟨p, hp, .inr (by omega)⟩
  obtain ⟨A, B, rfl⟩ := List.append_of_mem hq
  have hasc := hf.asc
  rw [List.map_append, List.map_cons, List.pairwise_append] at hasc
  obtain ⟨_, h2, h3⟩ := hasc
  have h2 := (List.pairwise_cons.mp h2).1
  obtain ⟨q1, q2, _⟩ := hf.ok q hq
  have z0 : ∀ p : Nat × Option Int, 97 ≤ p.1 ∧ p.1 ≤ 122 → p.1 ≠ q.1 → ((vl p.1 c).natAbs : Int) = 0 := fun p hp hne => by
    unfold vl
    rw [if_neg (by omega), if_neg (by omega)]
    rfl
  have zq : ((vl q.1 c).natAbs : Int) = 1 := by
    unfold vl
    rcases eq with e | e
    · rw [if_pos e]; rfl
    · rw [if_neg (by omega), if_pos e]; rfl
  have eA : A.map (fun p => ((wd p.1 a - wd p.1 b).natAbs : Int)) = List.replicate A.length 0 := rep_of (α := Nat) fun p hp => by
    have := h3 p.1 (List.mem_map.mpr ⟨p, hp, rfl⟩) q.1 List.mem_cons_self
    rw [hv p (List.mem_append_left _ hp)]
    exact z0 p ⟨(hf.ok p (List.mem_append_left _ hp)).1, (hf.ok p (List.mem_append_left _ hp)).2.1⟩ (by omega)
  have eB : B.map (fun p => ((wd p.1 a - wd p.1 b).natAbs : Int)) = List.replicate B.length 0 := rep_of (α := Nat) fun p hp => by
    have := h2 p.1 (List.mem_map.mpr ⟨p, hp, rfl⟩)
    have hm : p ∈ A ++ q :: B := List.mem_append_right _ (List.mem_cons_of_mem _ hp)
    rw [hv p hm]
    exact z0 p ⟨(hf.ok p hm).1, (hf.ok p hm).2.1⟩ (by omega)
  unfold apartL
  rw [List.map_append, List.map_cons, eA, eB, hv q hq, zq]
  have e1 : (A ++ q :: B).length - 1 = A.length + B.length := by rw [List.length_append, List.length_cons]; omega
  rw [e1, ← List.replicate_append_replicate]
  refine (List.perm_append_comm).trans ?_
  exact (List.perm_middle (a := (1 : Int)) (l₁ := List.replicate A.length 0) (l₂ := List.replicate B.length 0)).symm

/-! ### between, liftings by chance -/
theorem RowOf.back {fl : Floor} (h : FloorOk fl) {r : List Nat} (hr : RowOf fl r) : RowOf fl (My.back r) := fun c hc => by
  unfold My.back at hc
  rw [List.mem_reverse] at hc
  obtain ⟨d, hd, rfl⟩ := List.mem_map.mp hc
  exact turnsF_und h (hr d hd)
def BetwPre (p : Floor × List Nat × List Nat) : Prop := FloorOk p.1 ∧ RowOf p.1 p.2.1 ∧ RowOf p.1 p.2.2 ∧ p.2.1.length + p.2.2.length ≤ 300
def BetwPost (p : Floor × List Nat × List Nat) (d : Da) : Prop := d = encO (L (wF p.1) (back p.2.1 ++ p.2.2))
def BetwA (p : Floor × List Nat × List Nat) : List Da := [encF p.1, .str (tx p.2.1), .str (tx p.2.2)]
abbrev BetwC (M : Md) (k : Nat) : Prop := Cal M k "between" [true, true, true] BetwA BetwPre BetwPost
abbrev BetwK (M : Md) (k : Nat) : Prop := CalR3 M k "between" ["other", "row", "floor"] BetwA BetwPre BetwPost
noncomputable def priced (fl : Floor) : List Nat := (turnsF fl).filter fun c => (wF fl c).isSome
abbrev PricedC (M : Md) (k : Nat) : Prop := Cal M k "_law_priced" [true] (fun fl : Floor => [encF fl]) FloorOk (fun fl d => d = .lst ((priced fl).map sg))
def LiftPre (p : Floor × List Nat) : Prop := FloorOk p.1 ∧ RowOf p.1 p.2 ∧ p.2.length ≤ 300
/-- a lifting: a row, what it costs; so much more or less at most for what stands behind any row -/
def LiftPost (p : Floor × List Nat) (d : Da) : Prop := ∃ (s : List Nat) (n : Int), d = .tup [.str (tx s), .int n] ∧ RowOf p.1 s ∧ s.length ≤ p.2.length + 1 ∧ 0 ≤ n ∧ (∀ q m, Cst (wF p.1) (q ++ p.2) m → ∃ k, k ≤ m + n ∧ Cst (wF p.1) (q ++ s) k) ∧ ∀ q m, Cst (wF p.1) (q ++ s) m → ∃ k, k ≤ m + n ∧ Cst (wF p.1) (q ++ p.2) k
abbrev LiftC (M : Md) (k : Nat) : Prop := Cal M k "_law_lifted" [true, true, true] (fun p : Floor × List Nat => [.drw, encF p.1, .str (tx p.2)]) LiftPre LiftPost
theorem encO_some {fl : Floor} {c : Nat} (h : (wF fl c).isSome = true) : ∃ n, wF fl c = some n := Option.isSome_iff_exists.mp h
section
variable {M : Md} {k : Nat}
theorem priced_test {fl : Floor} {c : Nat} : (!decide (odV (wF fl c) = V.non)) = (wF fl c).isSome := by cases wF fl c <;> rfl
end

/-! ### the told list, walked -/
theorem asc_few {n : Nat} : ∀ {ps : List (Nat × Nat)} {lo : Nat}, (ps.Pairwise fun p q => p.1 < q.1) → lo ≤ n → (∀ p ∈ ps, lo ≤ p.1 ∧ p.1 < n) → ps.length ≤ n - lo := by
  intro ps
  induction ps with
  | nil => intro lo _ _ _; simp
  | cons p ps ih =>
    intro lo h hl hp
    obtain ⟨h1, h2⟩ := List.pairwise_cons.mp h
    have hpp := hp p List.mem_cons_self
    have := ih (lo := p.1 + 1) h2 (by omega) fun q hq => ⟨h1 q hq, (hp q (List.mem_cons_of_mem _ hq)).2⟩
    rw [List.length_cons]
    omega
theorem NestI.few {w : Nat → Option Int} {r : List Nat} {ps : List (Nat × Nat)} {n : Int} (h : NestI w r 0 r.length ps n) : ps.length ≤ r.length :=
  asc_few (lo := 0) h.asc (Nat.zero_le _) fun p hp => by
    have := h.mem p hp
    omega
theorem putsE_iff {κ : Type} [DecidableEq κ] (E : List (κ × V)) (q : κ) : (valV (putsE E) q).isSome = true ↔ q ∈ E.map (·.1) := by
  rw [putsE_has]
  exact decide_eq_true_iff
def tL (ts : List (List Nat)) : List Da := ts.map fun t => Da.str (tx t)
theorem wo_snoc : ∀ (ps : List Nat) (r : List Nat) (p : Nat), wo r (ps ++ [p]) = wo r ps ++ [(ps.foldl List.eraseIdx r).eraseIdx p]
  | [], r, p => rfl
  | q :: ps, r, p => by
    show r :: wo (r.eraseIdx q) (ps ++ [p]) = r :: wo (r.eraseIdx q) ps ++ _
    rw [wo_snoc ps]
    rfl
theorem cut_inner {r : List Nat} (h : 2 ≤ r.length) : cutS (tx r) (some 1) (some (-1)) = tx ((r.drop 1).dropLast) := by
  unfold cutS
  have e0 : HT.sIx (tx r).length 0 (some 1) = 1 := by
    rw [show (1 : Int) = ((1 : Nat) : Int) from rfl, HT.sIx_nat, len_tx]
    omega
  have e1 : HT.sIx (tx r).length (tx r).length (some (-1)) = r.length - 1 := by
    rw [len_tx]
    unfold HT.sIx
    dsimp only
    rw [if_pos (by decide)]
    omega
  rw [e0, e1]
  show (⟨((r.drop 1).take (r.length - 1 - 1)).toArray⟩ : Str) = ⟨((r.drop 1).dropLast).toArray⟩
  rw [List.dropLast_eq_take, List.length_drop]
theorem at_end {r : List Nat} {d : Nat} (h : r[r.length - 1]? = some d) : atI r (-1) = some d := by
  have hne : r ≠ [] := fun e => by subst e; cases h
  have e := List.dropLast_concat_getLast hne
  have e2 : r.getLast hne = d := by
    rw [List.getLast_eq_getElem]
    rw [List.getElem?_eq_getElem (by have := List.length_pos_iff.mpr hne; omega)] at h
    exact Option.some.inj h
  rw [e2] at e
  rw [← e]
  exact atI_last _ _
abbrev WithC (M : Md) (k : Nat) : Prop := Cal M k "without" [true, true] (fun p : List Nat × List Nat × List Nat => [.str (tx p.1), .lst (p.2.1.map fun (i : Nat) => Da.int (i : Int))]) (fun p => Row p.1 ∧ p.1.length ≤ 300 ∧ p.2.2.Perm p.2.1 ∧ p.2.2.Pairwise (fun a b => b < a) ∧ ∀ i ∈ p.2.2, i < p.1.length) (fun p d => d = .lst (tL (wo p.1 p.2.2)))
def LiftsPost (p : Floor × List Nat × List Nat) (d : Da) : Prop := (L (wF p.1) (back p.2.1 ++ p.2.2) = none ∧ d = .non) ∨ ∃ ts n, L (wF p.1) (back p.2.1 ++ p.2.2) = some n ∧ d = .lst (tL ts) ∧ Told (wF p.1) p.2.1 p.2.2 ts n
abbrev LiftsC (M : Md) (k : Nat) : Prop := Cal M k "liftings" [true, true, true] BetwA BetwPre LiftsPost
abbrev LiftsK (M : Md) (k : Nat) : Prop := CalR3 M k "liftings" ["other", "row", "floor"] BetwA BetwPre LiftsPost
def encC : Option Nat → Da
  | none => .non
  | some c => sg c
abbrev LiftedC (M : Md) (k : Nat) : Prop := Cal M k "lifted" [true, true] (fun p : List Nat × List Nat => [.str (tx p.1), .str (tx p.2)]) (fun p => Row p.1 ∧ Row p.2 ∧ p.1.length ≤ 1000 ∧ p.2.length ≤ 1000) (fun p d => d = encC (chg p.1 p.2))
abbrev WoundC (M : Md) (k : Nat) : Prop := Cal M k "wound" [true, true] (fun p : Floor × List Nat => [encF p.1, .str (tx p.2)]) (fun p => FloorOk p.1 ∧ Row p.2 ∧ p.2.length ≤ 1000) (fun p d => d = .tup (p.1.map fun q => Da.int (wd q.1 p.2)))
section
variable {M : Md} {k : Nat}
theorem ok_wound {f : Addr} {fd : FuncData} (F : Fun M.K "wound" "wound" s_wound f fd) (cU : UndoesC M k) (mt : M.mg "tuple" = none) :
    FnOk M.P M.w M.K M.mg M.base CX0 (k + 1) f fd ["floor", "row"] (SpD M.K [true, true] (fun p : Floor × List Nat => [encF p.1, .str (tx p.2)]) (fun p => FloorOk p.1 ∧ Row p.2 ∧ p.2.length ≤ 1000) (fun p d => d = .tup (p.1.map fun q => Da.int (wd q.1 p.2)))) := by
  refine fn_ok F S_wound rfl fun X S ⟨fl, r⟩ ⟨hf, hr, hrl⟩ => ?_
  dsimp only at hf hr hrl ⊢
  show DB X _ [some (.d (encF fl)), some (.d (.str (tx r))), none, none] _ _ _ _
  have hfl := hf.len
  walk_at "go"
  refine de_lc1 S (di_tup ?_) (by walk_at "dk")
  walk_at "go"
  refine ⟨_, rfl, ?_⟩
  refine lc_map (f := fun q => Da.int (wd q.1 r)) (by walk_at "wp") (by omega) (fun X1 S1 q hq => ?_) ?_
  · have hb := hf.ok q hq
    have hqT : IsT q.1 := .inl ⟨hb.1, hb.2.1⟩
    refine dg_tup S1 (dgs_cons (dg_name S1 (by walk_at "dk") ⟨_, by walk_at "ss", dgs_cons (dg_name S1 (by walk_at "dk") ⟨_, by walk_at "ss", dgs_nil fun X2 S2 => ?_⟩)⟩))
    walk_at "go"
    refine de_meth PySem.F.plainAttrs_str PySem.F.slot_str_count PySem.F.type_str_count ?_
    walk_at "go"
    refine ⟨tyw_str, ?_⟩
    walk_at "go"
    refine mw_scount ?_
    walk_at "go"
    refine de_meth PySem.F.plainAttrs_str PySem.F.slot_str_count PySem.F.type_str_count ?_
    walk_at "go"
    refine ⟨tyw_str, ?_⟩
    walk_at "go"
    refine ⟨q.1, rfl, hqT, ?_⟩
    rintro _ rfl
    walk_at "go"
    refine mw_scount ?_
    refine .int ?_
    have e1 : Txt.count (tx r) (tx [q.1]) = (r.count q.1 : Nat) := count_one r q.1
    have e2 : Txt.count (tx r) (tx [und q.1]) = (r.count (und q.1) : Nat) := count_one r (und q.1)
    have e3 : und q.1 = q.1 - 32 := by unfold und; rw [if_pos hb.1]
    rw [e1, e2, e3, count_wd hb.1]
  walk_at "go"
  refine bw_tupleL ?_
  rfl
end

/-! ### mathematics: what changes no cost -/
theorem Cst.mapd {w w' : Nat → Option Int} {f : Nat → Nat} {r : List Nat} {n : Int} (h : Cst w r n) : (∀ c ∈ r, IsT (f c) ∧ f (und c) = und (f c) ∧ ∀ x, w c = some x → w' (f c) = some x) → Cst w' (r.map f) n := by
  induction h with
  | nil => exact fun _ => .nil
  | @del c r x n hc hx _ ih =>
    intro hf
    obtain ⟨h1, _, h3⟩ := hf c (by simp)
    exact .del h1 (h3 x hx) (ih fun d hd => hf d (List.mem_cons_of_mem _ hd))
  | @pair c a b m n hc _ _ ih1 ih2 =>
    intro hf
    obtain ⟨h1, h2, _⟩ := hf c (by simp)
    have e : (c :: (a ++ und c :: b)).map f = f c :: (a.map f ++ und (f c) :: b.map f) := by simp [h2]
    rw [e]
    exact .pair h1 (ih1 fun d hd => hf d (by simp [hd])) (ih2 fun d hd => hf d (by simp [hd]))
theorem L_ole2 {w w' : Nat → Option Int} (W' : WOk w') {r s : List Nat} (h : ∀ n, Cst w' s n → ∃ m, L w r = some m ∧ m ≤ n) : Ole (L w r) (L w' s) := fun n e => h n (L_some W' e)
theorem L_map {w w' : Nat → Option Int} (W : WOk w) (W' : WOk w') {f g : Nat → Nat} {r : List Nat} (hr : Row r) (h : ∀ c ∈ r, IsT (f c) ∧ f (und c) = und (f c) ∧ w' (f c) = w c ∧ g (f c) = c ∧ g (und (f c)) = und c) : L w' (r.map f) = L w r := by
  have e : (r.map f).map g = r := by
    rw [List.map_map]
    conv => rhs; rw [← List.map_id r]
    exact List.map_congr_left fun c hc => (h c hc).2.2.2.1
  refine Ole.anti (L_ole2 W fun n hn => ?_) (L_ole2 W' fun n hn => ?_)
  · obtain ⟨m, em, hm⟩ := L_le W' (hn.mapd (f := f) (w' := w') fun c hc => ⟨(h c hc).1, (h c hc).2.1, fun x hx => by rw [(h c hc).2.2.1, hx]⟩)
    exact ⟨m, em, hm⟩
  · have := hn.mapd (f := g) (w' := w) fun d hd => by
      obtain ⟨c, hc, rfl⟩ := List.mem_map.mp hd
      obtain ⟨_, _, h3, h4, h5⟩ := h c hc
      exact ⟨by rw [h4]; exact hr c hc, by rw [h5, h4], fun x hx => by rw [h4, ← h3, hx]⟩
    rw [e] at this
    exact L_le W this
section
variable {w : Nat → Option Int}
theorem und_map {r : List Nat} (hr : Row r) : (r.map und).map und = r := by
  rw [List.map_map]
  conv => rhs; rw [← List.map_id r]
  exact List.map_congr_left fun c hc => und_und (hr c hc)
theorem L_undo (W : WOk w) {r : List Nat} (hr : Row r) : L w (r.map und) = L w r := L_map W W hr fun c hc => by
  have h := hr c hc
  exact ⟨und_T h, rfl, W.sym c h, und_und h, und_und (und_T h)⟩
theorem row_undo {r : List Nat} (hr : Row r) : Row (r.map und) := fun c hc => by
  obtain ⟨d, hd, rfl⟩ := List.mem_map.mp hc
  exact und_T (hr d hd)
theorem L_turned (W : WOk w) {r : List Nat} (hr : Row r) : L w r.reverse = L w r := by
  have e : r.reverse = back (r.map und) := by
    unfold back
    rw [und_map hr]
  rw [e, L_back W (row_undo hr), L_undo W hr]
theorem L_laid (W : WOk w) {a b : List Nat} {t : Nat} (ht : IsT t) : L w (a ++ t :: und t :: b) = L w (a ++ b) :=
  L_eq W (fun n h => ⟨n, Int.le_refl _, h.uncut ht (und_T ht) (und_und ht).symm⟩) (fun n h => h.cut W (und_und ht).symm)
theorem L_wrapped (W : WOk w) {r : List Nat} {t : Nat} (ht : IsT t) : L w (t :: (r ++ [und t])) = L w r := by
  have e1 : L w ([t] ++ (r ++ [und t])) = L w ((r ++ [und t]) ++ [t]) := L_rots W _ _
  have e2 : (r ++ [und t]) ++ [t] = r ++ und t :: und (und t) :: [] := by rw [und_und ht]; simp
  have e3 := L_laid W (a := r) (b := []) (und_T ht)
  rw [List.append_nil] at e3
  rw [← e3, ← e2, ← e1]
  rfl
theorem L_turnD (W : WOk w) (r : List Nat) (k : Nat) : L w (r.drop k ++ r.take k) = L w r := by
  rw [L_rots W, List.take_append_drop]
/-! ### all costs so many times as great -/
theorem Cst.scaled {w' : Nat → Option Int} {t : Int} (h : ∀ c x, w c = some x → w' c = some (t * x)) {r : List Nat} {n : Int} (hc : Cst w r n) : Cst w' r (t * n) := by
  induction hc with
  | nil => exact Cst.nil.to rfl (by omega)
  | del hT hx _ ih => exact (Cst.del hT (h _ _ hx) ih).to rfl (by rw [Int.mul_add])
  | pair hT _ _ ih1 ih2 => exact (Cst.pair hT ih1 ih2).to rfl (by rw [Int.mul_add])
theorem Cst.unscaled {w' : Nat → Option Int} {t : Int} (h : ∀ c y, w' c = some y → ∃ x, w c = some x ∧ y = t * x) {r : List Nat} {n : Int} (hc : Cst w' r n) : ∃ m, n = t * m ∧ Cst w r m := by
  induction hc with
  | nil => exact ⟨0, by omega, .nil⟩
  | del hT hx _ ih =>
    obtain ⟨m, rfl, hm⟩ := ih
    obtain ⟨x, hx2, rfl⟩ := h _ _ hx
    exact ⟨x + m, by rw [Int.mul_add], .del hT hx2 hm⟩
  | pair hT _ _ ih1 ih2 =>
    obtain ⟨m, rfl, hm⟩ := ih1
    obtain ⟨k, rfl, hk⟩ := ih2
    exact ⟨m + k, by rw [Int.mul_add], .pair hT hm hk⟩
def timesO (t : Int) : Option Int → Option Int
  | none => none
  | some x => some (t * x)
theorem L_times {w' : Nat → Option Int} (W : WOk w) (W' : WOk w') {t : Int} (ht : 1 ≤ t) (h : ∀ c, w' c = timesO t (w c)) (r : List Nat) : L w' r = timesO t (L w r) := by
  have h1 : ∀ c x, w c = some x → w' c = some (t * x) := fun c x e => by rw [h, e]; rfl
  have h2 : ∀ c y, w' c = some y → ∃ x, w c = some x ∧ y = t * x := fun c y e => by
    rw [h] at e
    cases e2 : w c with
    | none => rw [e2] at e; cases e
    | some x => rw [e2] at e; cases e; exact ⟨x, rfl, rfl⟩
  cases e : L w r with
  | none =>
    cases e2 : L w' r with
    | none => rfl
    | some k =>
      obtain ⟨m, _, hm⟩ := (L_some W' e2).unscaled h2
      obtain ⟨j, ej, _⟩ := L_le W hm
      rw [e] at ej
      cases ej
  | some n =>
    obtain ⟨k, ek, hk⟩ := L_le W' ((L_some W e).scaled h1)
    obtain ⟨m, rfl, hm⟩ := (L_some W' ek).unscaled h2
    obtain ⟨j, ej, hj⟩ := L_le W hm
    rw [e] at ej
    cases ej
    have h3 : t * n ≤ t * m := Int.mul_le_mul_of_nonneg_left hj (by omega)
    rw [ek]
    show some (t * m) = some (t * n)
    congr 1
    omega
/-! ### costs alike -/
theorem Cst.even7 (h7 : ∀ c x, w c = some x → x = 7) {r : List Nat} {n : Int} (h : Cst w r n) : ∃ j : Nat, 7 * (r.length : Int) - n = 14 * (j : Int) := by
  induction h with
  | nil => exact ⟨0, by simp⟩
  | del _ hx _ ih =>
    obtain ⟨j, e⟩ := ih
    have := h7 _ _ hx
    exact ⟨j, by rw [List.length_cons]; omega⟩
  | pair _ _ _ ih1 ih2 =>
    obtain ⟨i, e1⟩ := ih1
    obtain ⟨j, e2⟩ := ih2
    exact ⟨i + j + 1, by rw [List.length_cons, List.length_append, List.length_cons]; omega⟩
/-! ### wound numbers -/
def sumI {α : Type} (g : α → Int) : List α → Int
  | [] => 0
  | p :: l => g p + sumI g l
theorem sumI_le {α : Type} {g h : α → Int} : ∀ {l : List α}, (∀ p ∈ l, g p ≤ h p) → sumI g l ≤ sumI h l
  | [], _ => Int.le_refl _
  | p :: l, e => by
    have h1 := e p (by simp)
    have h2 := sumI_le (l := l) fun q hq => e q (List.mem_cons_of_mem _ hq)
    show g p + sumI g l ≤ h p + sumI h l
    omega
theorem sumI_add {α : Type} (g h : α → Int) : ∀ l : List α, sumI (fun p => g p + h p) l = sumI g l + sumI h l
  | [] => rfl
  | p :: l => by
    show g p + h p + sumI _ l = g p + sumI g l + (h p + sumI h l)
    rw [sumI_add g h l]
    omega
def costP (p : Nat × Option Int) (v : Int) : Int := p.2.getD 0 * (v.natAbs : Int)
theorem vl_zero {l c : Nat} (h1 : c ≠ l) (h2 : c + 32 ≠ l) : vl l c = 0 := by
  unfold vl
  rw [if_neg h1, if_neg h2]
theorem sum_one {c : Nat} {x : Int} (hx0 : 0 ≤ x) : ∀ {fl : Floor}, (fl.map (·.1)).Pairwise (· < ·) → (∀ p ∈ fl, 97 ≤ p.1 ∧ p.1 ≤ 122) → (∀ p ∈ fl, vl p.1 c ≠ 0 → p.2 = some x) → sumI (fun p => costP p (vl p.1 c)) fl ≤ x
  | [], _, _, _ => hx0
  | p :: fl, ha, hb, h => by
    rw [List.map_cons] at ha
    obtain ⟨a1, a2⟩ := List.pairwise_cons.mp ha
    obtain ⟨b1, b2⟩ := hb p (by simp)
    show costP p (vl p.1 c) + sumI _ fl ≤ x
    by_cases e : vl p.1 c = 0
    · have := sum_one hx0 (fl := fl) a2 (fun q hq => hb q (List.mem_cons_of_mem _ hq)) fun q hq => h q (List.mem_cons_of_mem _ hq)
      have e2 : costP p (vl p.1 c) = 0 := by rw [e]; unfold costP; simp
      omega
    · have hp := h p (by simp) e
      have hc : c = p.1 ∨ c + 32 = p.1 := by
        by_cases h1 : c = p.1
        · exact .inl h1
        · by_cases h2 : c + 32 = p.1
          · exact .inr h2
          · exact absurd (vl_zero h1 h2) e
      have hz : sumI (fun q => costP q (vl q.1 c)) fl ≤ sumI (fun _ => 0) fl := sumI_le fun q hq => by
        have h1 := a1 q.1 (List.mem_map.mpr ⟨q, hq, rfl⟩)
        obtain ⟨c1, c2⟩ := hb q (List.mem_cons_of_mem _ hq)
        have : vl q.1 c = 0 := vl_zero (by omega) (by omega)
        rw [this]
        unfold costP
        simp
      have hz2 : sumI (fun _ => (0 : Int)) fl = 0 := by
        clear hz a1 a2 ha hb h
        induction fl with
        | nil => rfl
        | cons q l ih => show 0 + sumI _ l = 0; rw [ih]; rfl
      have hv : (vl p.1 c).natAbs = 1 := by
        unfold vl
        rcases hc with hc | hc
        · rw [if_pos hc]; rfl
        · rw [if_neg (by omega), if_pos hc]; rfl
      have : costP p (vl p.1 c) = x := by
        unfold costP
        rw [hv, hp]
        show x * 1 = x
        omega
      omega
theorem costP_le {p : Nat × Option Int} (h0 : 0 ≤ p.2.getD 0) {u v : Int} : costP p (u + v) ≤ costP p u + costP p v := by
  unfold costP
  rw [← Int.mul_add]
  exact Int.mul_le_mul_of_nonneg_left (by omega) h0
theorem Cst.wounds {fl : Floor} (hf : FloorOk fl) {r : List Nat} {n : Int} (h : Cst (wF fl) r n) : (∀ p ∈ fl, p.2 = none → wd p.1 r = 0) ∧ sumI (fun p => costP p (wd p.1 r)) fl ≤ n := by
  have h0 : ∀ p ∈ fl, 0 ≤ p.2.getD 0 := fun p hp => by
    cases e : p.2 with
    | none => exact Int.le_refl _
    | some x => have := (hf.ok p hp).2.2 x e; show 0 ≤ x; omega
  induction h with
  | nil =>
    refine ⟨fun p hp _ => rfl, ?_⟩
    have : sumI (fun p => costP p (wd p.1 [])) fl ≤ sumI (fun _ => 0) fl := sumI_le fun p hp => by unfold costP wd; simp
    have hz : ∀ l : Floor, sumI (fun _ => (0 : Int)) l = 0 := by
      intro l
      induction l with
      | nil => rfl
      | cons q l ih => show 0 + sumI _ l = 0; rw [ih]; rfl
    rw [hz] at this
    exact this
  | @del c r x n hc hx _ ih =>
    obtain ⟨i1, i2⟩ := ih
    have hv : ∀ p ∈ fl, vl p.1 c ≠ 0 → p.2 = some x := fun p hp e => by
      have hb := hf.ok p hp
      have hc2 : c = p.1 ∨ c = p.1 - 32 := by
        by_cases h1 : c = p.1
        · exact .inl h1
        · by_cases h2 : c + 32 = p.1
          · exact .inr (by omega)
          · exact absurd (vl_zero h1 h2) e
      rw [← wF_mem hf hp hc2, hx]
    refine ⟨fun p hp e => ?_, ?_⟩
    · show vl p.1 c + wd p.1 r = 0
      rw [i1 p hp e]
      by_cases e2 : vl p.1 c = 0
      · rw [e2]; rfl
      · have := hv p hp e2
        rw [e] at this
        cases this
    · have h1 : sumI (fun p => costP p (wd p.1 (c :: r))) fl ≤ sumI (fun p => costP p (vl p.1 c) + costP p (wd p.1 r)) fl := sumI_le fun p hp => costP_le (h0 p hp)
      rw [sumI_add] at h1
      have h2 := sum_one (c := c) (x := x) (by have := (wF_ok hf).pos c x hx; omega) hf.asc (fun p hp => ⟨(hf.ok p hp).1, (hf.ok p hp).2.1⟩) hv
      omega
  | @pair c a b m n hc _ _ ih1 ih2 =>
    obtain ⟨i1, i2⟩ := ih1
    obtain ⟨j1, j2⟩ := ih2
    have e : ∀ p ∈ fl, wd p.1 (c :: (a ++ und c :: b)) = wd p.1 a + wd p.1 b := fun p hp => by
      have hb := hf.ok p hp
      show vl p.1 c + wd p.1 (a ++ und c :: b) = _
      rw [wd_app]
      show vl p.1 c + (wd p.1 a + (vl p.1 (und c) + wd p.1 b)) = _
      rw [vl_und ⟨hb.1, hb.2.1⟩ hc]
      omega
    refine ⟨fun p hp z => by rw [e p hp, i1 p hp z, j1 p hp z]; rfl, ?_⟩
    have h1 : sumI (fun p => costP p (wd p.1 (c :: (a ++ und c :: b)))) fl ≤ sumI (fun p => costP p (wd p.1 a) + costP p (wd p.1 b)) fl := sumI_le fun p hp => by
      rw [e p hp]
      exact costP_le (h0 p hp)
    rw [sumI_add] at h1
    omega
end

/-! ### floors told otherwise -/
theorem wF_map (g : Option Int → Option Int) (hg : g none = none) : ∀ (fl : Floor) (c : Nat), wF (fl.map fun p => (p.1, g p.2)) c = g (wF fl c)
  | [], c => hg.symm
  | p :: fl, c => by
    have ih := wF_map g hg fl c
    unfold wF at ih ⊢
    rw [List.map_cons, List.find?_cons, List.find?_cons]
    dsimp only
    cases p.1 == c || p.1 - 32 == c with
    | true => rfl
    | false => exact ih
theorem floor_map {fl : Floor} (h : FloorOk fl) (g : Option Int → Option Int) (hg : ∀ p ∈ fl, CostOk (g p.2)) : FloorOk (fl.map fun p => (p.1, g p.2)) := by
  have e : (fl.map fun p => (p.1, g p.2)).map (·.1) = fl.map (·.1) := by rw [List.map_map]; rfl
  refine ⟨by rw [e]; exact h.asc, fun q hq => ?_, by rw [List.length_map]; exact h.pos, by rw [List.length_map]; exact h.len⟩
  obtain ⟨p, hp, rfl⟩ := List.mem_map.mp hq
  exact ⟨(h.ok p hp).1, (h.ok p hp).2.1, hg p hp⟩
theorem turns_map (fl : Floor) (g : Option Int → Option Int) : turnsF (fl.map fun p => (p.1, g p.2)) = turnsF fl := by
  unfold turnsF lets
  rw [List.map_map]
  rfl
/-- posts called otherwise, in order -/
def freshF (fl : Floor) : Floor := fl.zipIdx.map fun p => (111 + p.2, p.1.2)
def calledN (fl : Floor) (c : Nat) : Nat := if 97 ≤ c then 111 + (lets fl).idxOf c else 111 + (lets fl).idxOf (c + 32) - 32
def uncalledN (fl : Floor) (c : Nat) : Nat := if 97 ≤ c then (lets fl).getD (c - 111) 0 else (lets fl).getD (c + 32 - 111) 0 - 32
theorem fresh_lets (fl : Floor) : (freshF fl).map (·.1) = (List.range fl.length).map fun i => 111 + i := by
  unfold freshF
  rw [List.map_map]
  have : (fun p : (Nat × Option Int) × Nat => 111 + p.2) = (fun i => 111 + i) ∘ Prod.snd := rfl
  show fl.zipIdx.map ((fun i => 111 + i) ∘ Prod.snd) = _
  rw [← List.map_map, List.zipIdx_map_snd]
  rw [List.range_eq_range']
theorem fresh_ok {fl : Floor} (h : FloorOk fl) : FloorOk (freshF fl) := by
  have hl : (freshF fl).length = fl.length := by unfold freshF; rw [List.length_map, List.length_zipIdx]
  have h8 := h.len
  refine ⟨?_, fun q hq => ?_, by rw [hl]; exact h.pos, by rw [hl]; exact h8⟩
  · rw [fresh_lets, List.pairwise_map]
    exact List.Pairwise.imp (fun h => by omega) List.pairwise_lt_range
  · unfold freshF at hq
    obtain ⟨⟨p, i⟩, hp, rfl⟩ := List.mem_map.mp hq
    have hi := List.mk_mem_zipIdx_iff_getElem?.mp hp
    have hil := (List.getElem?_eq_some_iff.mp hi).1
    exact ⟨by show 97 ≤ 111 + i; omega, by show 111 + i ≤ 122; omega, (h.ok p (List.mem_of_getElem? hi)).2.2⟩
theorem fresh_mem {fl : Floor} {i : Nat} {p : Nat × Option Int} (hi : fl[i]? = some p) : (111 + i, p.2) ∈ freshF fl := by
  unfold freshF
  exact List.mem_map.mpr ⟨(p, i), List.mk_mem_zipIdx_iff_getElem?.mpr hi, rfl⟩
theorem idx_of {fl : Floor} (h : FloorOk fl) {i : Nat} {p : Nat × Option Int} (hi : fl[i]? = some p) : (lets fl).idxOf p.1 = i := by
  have hl : (lets fl)[i]? = some p.1 := by unfold lets; rw [List.getElem?_map, hi]; rfl
  have hm : p.1 ∈ lets fl := List.mem_of_getElem? hl
  have hlt := List.idxOf_lt_length_of_mem hm
  have he : (lets fl)[(lets fl).idxOf p.1]? = some p.1 := by rw [List.getElem?_eq_getElem hlt, List.getElem_idxOf hlt]
  obtain ⟨l1, e1⟩ := List.getElem?_eq_some_iff.mp hl
  obtain ⟨l2, e2⟩ := List.getElem?_eq_some_iff.mp he
  have key := List.pairwise_iff_getElem.mp (show (lets fl).Pairwise (· < ·) from h.asc)
  rcases Nat.lt_trichotomy ((lets fl).idxOf p.1) i with a | a | a
  · have := key _ _ l2 l1 a
    omega
  · exact a
  · have := key _ _ l1 l2 a
    omega
theorem called_ok {fl : Floor} (h : FloorOk fl) {c : Nat} (hc : c ∈ turnsF fl) : IsT (calledN fl c) ∧ calledN fl (und c) = und (calledN fl c) ∧ wF (freshF fl) (calledN fl c) = wF fl c ∧ uncalledN fl (calledN fl c) = c ∧ uncalledN fl (und (calledN fl c)) = und c := by
  obtain ⟨p, hp, hcp⟩ := turnsF_mem hc
  obtain ⟨i, hi⟩ := List.getElem?_of_mem hp
  have hil := (List.getElem?_eq_some_iff.mp hi).1
  have h8 := h.len
  obtain ⟨b1, b2, _⟩ := h.ok p hp
  have hx := idx_of h hi
  have hg : (lets fl).getD i 0 = p.1 := by
    have hl : (lets fl)[i]? = some p.1 := by unfold lets; rw [List.getElem?_map, hi]; rfl
    rw [List.getD_eq_getElem?_getD, hl]
    rfl
  have hf := fresh_ok h
  have hm := fresh_mem hi
  have s1 : calledN fl p.1 = 111 + i := by unfold calledN; rw [if_pos b1, hx]
  have s2 : calledN fl (p.1 - 32) = 111 + i - 32 := by
    unfold calledN
    rw [if_neg (by omega), show p.1 - 32 + 32 = p.1 by omega, hx]
  have u1 : und p.1 = p.1 - 32 := by unfold und; rw [if_pos b1]
  have u2 : und (p.1 - 32) = p.1 := by unfold und; rw [if_neg (by omega)]; omega
  have v1 : und (111 + i) = 111 + i - 32 := by unfold und; rw [if_pos (by omega)]
  have v2 : und (111 + i - 32) = 111 + i := by unfold und; rw [if_neg (by omega)]; omega
  have t1 : uncalledN fl (111 + i) = p.1 := by unfold uncalledN; rw [if_pos (by omega), show 111 + i - 111 = i by omega, hg]
  have t2 : uncalledN fl (111 + i - 32) = p.1 - 32 := by
    unfold uncalledN
    rw [if_neg (by omega), show 111 + i - 32 + 32 - 111 = i by omega, hg]
  rcases hcp with rfl | rfl
  · rw [s1, u1, s2, v1, t1, t2, wF_mem hf hm (.inl rfl), wF_mem h hp (.inl rfl)]
    exact ⟨.inl ⟨by omega, by omega⟩, rfl, rfl, rfl, rfl⟩
  · rw [s2, u2, s1, v2, t1, t2, wF_mem hf hm (.inr rfl), wF_mem h hp (.inr rfl)]
    exact ⟨.inr ⟨by omega, by omega⟩, rfl, rfl, rfl, rfl⟩
theorem L_called {fl : Floor} (h : FloorOk fl) {r : List Nat} (hr : RowOf fl r) : L (wF (freshF fl)) (r.map (calledN fl)) = L (wF fl) r :=
  L_map (wF_ok h) (wF_ok (fresh_ok h)) (f := calledN fl) (g := uncalledN fl) (hr.row h) fun c hc => called_ok h (hr c hc)
theorem called_row {fl : Floor} (h : FloorOk fl) {r : List Nat} (hr : RowOf fl r) : RowOf (freshF fl) (r.map (calledN fl)) := fun d hd => by
  obtain ⟨c, hc, rfl⟩ := List.mem_map.mp hd
  obtain ⟨p, hp, hcp⟩ := turnsF_mem (hr c hc)
  obtain ⟨i, hi⟩ := List.getElem?_of_mem hp
  obtain ⟨b1, b2, _⟩ := h.ok p hp
  have hx := idx_of h hi
  obtain ⟨m1, m2⟩ := mem_turnsF (fresh_mem hi)
  rcases hcp with rfl | rfl
  · unfold calledN
    rw [if_pos b1, hx]
    exact m1
  · unfold calledN
    rw [if_neg (by omega), show p.1 - 32 + 32 = p.1 by omega, hx]
    exact m2
/-! ### wound numbers by costs, summed up -/
def woundO (r : List Nat) (p : Nat × Option Int) : Option Int := if wd p.1 r = 0 then some 0 else match p.2 with
  | none => none
  | some c => some (c * ((wd p.1 r).natAbs : Int))
def sumsO (r : List Nat) (fl : Floor) : Option Int := fl.foldl (fun acc p => oplus acc (woundO r p)) (some 0)
theorem sumsO_snoc (r : List Nat) (fl : Floor) (p : Nat × Option Int) : sumsO r (fl ++ [p]) = oplus (sumsO r fl) (woundO r p) := by
  unfold sumsO
  rw [List.foldl_append]
  rfl
theorem sums_le {fl : Floor} (hf : FloorOk fl) (r : List Nat) : Ole (sumsO r fl) (L (wF fl) r) := fun n e => by
  obtain ⟨h1, h2⟩ := (L_some (wF_ok hf) e).wounds hf
  have key : ∀ (l : Floor) (a : Int), (∀ p ∈ l, p ∈ fl) → l.foldl (fun acc p => oplus acc (woundO r p)) (some a) = some (a + sumI (fun p => costP p (wd p.1 r)) l) := by
    intro l
    induction l with
    | nil => intro a _; show some a = some (a + 0); rw [Int.add_zero]
    | cons p l ih =>
      intro a hl
      have hp : woundO r p = some (costP p (wd p.1 r)) := by
        unfold woundO costP
        by_cases z : wd p.1 r = 0
        · rw [if_pos z, z]
          simp
        · rw [if_neg z]
          cases e2 : p.2 with
          | none => exact absurd (h1 p (hl p (by simp)) e2) z
          | some c => rfl
      rw [List.foldl_cons, hp]
      show l.foldl _ (some (a + costP p (wd p.1 r))) = _
      rw [ih _ fun q hq => hl q (List.mem_cons_of_mem _ hq)]
      show some (a + costP p (wd p.1 r) + _) = some (a + (costP p (wd p.1 r) + _))
      rw [Int.add_assoc]
  have := key fl 0 fun p hp => hp
  exact ⟨_, this, by omega⟩
/-! ### round another post and back -/
def powR (k : Nat) : List Nat := List.replicate k 97 ++ 98 :: (List.replicate k 65 ++ [66])
theorem wd_rep (l c : Nat) : ∀ k : Nat, wd l (List.replicate k c) = (k : Int) * vl l c
  | 0 => by show (0 : Int) = _; simp
  | k + 1 => by
    show vl l c + wd l (List.replicate k c) = _
    rw [wd_rep l c k, Int.natCast_add, Int.add_mul]
    simp
    omega
def fl2 (n m : Int) : Floor := [(97, some n), (98, some m)]
theorem fl2_ok {n m : Int} (hn : 1 ≤ n ∧ n ≤ 100) (hm : 1 ≤ m ∧ m ≤ 100) : FloorOk (fl2 n m) := by
  refine ⟨by unfold fl2; simp, fun p hp => ?_, by show 1 ≤ 2; decide, by show 2 ≤ 8; decide⟩
  rcases List.mem_cons.mp hp with rfl | hp
  · exact ⟨by show 97 ≤ 97; decide, by show 97 ≤ 122; decide, fun i e => by cases e; exact hn⟩
  rw [List.mem_singleton.mp hp]
  exact ⟨by show 97 ≤ 98; decide, by show 98 ≤ 122; decide, fun i e => by cases e; exact hm⟩
theorem bound2 {n m : Int} (hn : 1 ≤ n ∧ n ≤ 100) (hm : 1 ≤ m ∧ m ≤ 100) {r : List Nat} {k : Int} (h : Cst (wF (fl2 n m)) r k) : n * ((wd 97 r).natAbs : Int) ≤ k ∧ m * ((wd 98 r).natAbs : Int) ≤ k := by
  obtain ⟨_, h2⟩ := h.wounds (fl2_ok hn hm)
  have h2 : n * ((wd 97 r).natAbs : Int) + (m * ((wd 98 r).natAbs : Int) + 0) ≤ k := h2
  have p1 : 0 ≤ n * ((wd 97 r).natAbs : Int) := Int.mul_nonneg (by omega) (by omega)
  have p2 : 0 ≤ m * ((wd 98 r).natAbs : Int) := Int.mul_nonneg (by omega) (by omega)
  omega
theorem rep_cst {w : Nat → Option Int} {c : Nat} {x : Int} (hc : IsT c) (hx : w c = some x) : ∀ k : Nat, Cst w (List.replicate k c) (x * (k : Int))
  | 0 => Cst.nil.to rfl (by simp)
  | k + 1 => (Cst.del hc hx (rep_cst hc hx k)).to rfl (by rw [Int.natCast_add, Int.mul_add]; simp; omega)
theorem rep_pair {w : Nat → Option Int} : ∀ k : Nat, Cst w (List.replicate k 97 ++ List.replicate k 65) 0
  | 0 => .nil
  | k + 1 => by
    have e : List.replicate (k + 1) 97 ++ List.replicate (k + 1) 65 = 97 :: ((List.replicate k 97 ++ List.replicate k 65) ++ und 97 :: []) := by
      rw [List.replicate_succ, List.replicate_succ' (n := k) (a := 65)]
      simp [und]
    rw [e]
    exact (Cst.pair (w := w) (c := 97) (.inl ⟨by decide, by decide⟩) (rep_pair k) .nil).to rfl rfl
theorem L_pow {n m : Int} (hn : 1 ≤ n ∧ n ≤ 100) (hm : 1 ≤ m ∧ m ≤ 100) (k : Nat) : L (wF (fl2 n m)) (powR k) = some (2 * if m < k * n then m else k * n) := by
  have W := wF_ok (fl2_ok hn hm)
  have wa : wF (fl2 n m) 97 = some n := rfl
  have wA : wF (fl2 n m) 65 = some n := rfl
  have wb : wF (fl2 n m) 98 = some m := rfl
  have wB : wF (fl2 n m) 66 = some m := rfl
  have Ta : IsT 97 := .inl ⟨by decide, by decide⟩
  have TA : IsT 65 := .inr ⟨by decide, by decide⟩
  have Tb : IsT 98 := .inl ⟨by decide, by decide⟩
  have TB : IsT 66 := .inr ⟨by decide, by decide⟩
  have ka : ∀ k : Nat, n * ((wd 97 (List.replicate k 97)).natAbs : Int) = k * n := fun k => by
    rw [wd_rep, show vl 97 97 = 1 by decide, Int.mul_one, Int.natAbs_natCast, Int.mul_comm]
  have kA : ∀ k : Nat, n * ((wd 97 (List.replicate k 65)).natAbs : Int) = k * n := fun k => by
    rw [wd_rep, show vl 97 65 = -1 by decide, Int.mul_neg, Int.mul_one, Int.natAbs_neg, Int.natAbs_natCast, Int.mul_comm]
  have up1 : Cst (wF (fl2 n m)) (powR k) (2 * m) := by
    have h1 : Cst (wF (fl2 n m)) (List.replicate k 97 ++ (List.replicate k 65 ++ [66])) m := ((rep_pair k).app (Cst.one TB wB)).to (by simp) (by omega)
    exact (Cst.put h1 Tb wb).to rfl (by omega)
  have up2 : Cst (wF (fl2 n m)) (powR k) (2 * (k * n)) := by
    have h1 := (rep_cst Ta wa k).app (Cst.pair Tb (rep_cst TA wA k) .nil)
    exact h1.to (by simp [powR, und]) (by rw [Int.mul_comm]; omega)
  have low : ∀ x, Cst (wF (fl2 n m)) (powR k) x → 2 * m ≤ x ∨ 2 * (k * n) ≤ x := fun x hx => by
    rcases hx.seen (p := List.replicate k 97) (x := 98) (q := List.replicate k 65 ++ [66]) rfl with ⟨v, y, e, hy, rfl⟩ | ⟨p1, p2, y, z, e, _⟩ | ⟨q1, q2, y, z, e, h1, h2, rfl⟩
    · rw [wb] at e
      cases e
      have := (bound2 hn hm hy).2
      rw [wd_app, wd_app, wd_rep, wd_rep, wd_one, show vl 98 97 = 0 by decide, show vl 98 65 = 0 by decide, show vl 98 66 = -1 by decide] at this
      simp at this
      exact .inl (by omega)
    · have : und 98 ∈ List.replicate k 97 := by rw [e]; simp
      have := (List.mem_replicate.mp this).2
      exact absurd this (by decide)
    · have e : List.replicate k 65 ++ [66] = q1 ++ 66 :: q2 := e
      have hq : q1 = List.replicate k 65 ∧ q2 = [] := by
        have hno : ∀ (j : Nat) (a b : List Nat), List.replicate j 65 ++ [66] = a ++ 66 :: b → a = List.replicate j 65 ∧ b = [] := by
          intro j
          induction j with
          | zero =>
            intro a b e
            cases a with
            | nil => cases e; exact ⟨rfl, rfl⟩
            | cons c a =>
              have e2 : ([] : List Nat) = a ++ 66 :: b := by injection e
              simp at e2
          | succ j ih =>
            intro a b e
            cases a with
            | nil => rw [List.replicate_succ] at e; cases e
            | cons c a =>
              rw [List.replicate_succ] at e
              have e1 : 65 = c := by injection e
              have e2 : List.replicate j 65 ++ [66] = a ++ 66 :: b := by injection e
              obtain ⟨rfl, rfl⟩ := ih a b e2
              exact ⟨by rw [← e1]; rfl, rfl⟩
        exact hno k q1 q2 e
      obtain ⟨rfl, rfl⟩ := hq
      have b1 := (bound2 hn hm h1).1
      have b2 := (bound2 hn hm h2).1
      rw [kA] at b1
      rw [List.append_nil, ka] at b2
      exact .inr (by omega)
  obtain ⟨x1, e1, l1⟩ := L_le W up1
  obtain ⟨x2, e2, l2⟩ := L_le W up2
  rw [e1] at e2
  cases e2
  rw [e1]
  have := low x1 (L_some W e1)
  congr 1
  split <;> omega

/-! ### posts called otherwise, walked -/
theorem mw_lindex {X : Cx} {Φ : Da → Prop} {l : List V} {y z : V} {j : Nat} (f1 : flatV y = true) (f2 : l.all flatV = true) (h1 : l[j]? = some z) (h2 : eqV z y = true) (h3 : ∀ (i : Nat) (z' : V), i < j → l[i]? = some z' → eqV z' y = false) (h : Φ (.int (j : Nat))) : MW X "list.index" (.lst (l.map Da.a)) [.a y] Φ := fun Hs H v vs e rx rr Q q => by
  obtain ⟨a, ws, rfl, ha, ra⟩ := rx.lst_inv
  rw [ra.atoms] at ha
  cases rr with
  | cons r t =>
    cases t
    cases r.atom
    exact rMW_of mt_index ⟨a, l, y, j, z, rfl, rfl, .of ha, f1, f2, h1, h2, h3, q _ _ Hs H (Go.refl e) h (.a _)⟩
abbrev CalledC (M : Md) (k : Nat) : Prop := Cal M k "_law_called" [true, true] (fun p : Floor × List Nat => [.str (tx p.2), encF p.1]) (fun p => FloorOk p.1 ∧ RowOf p.1 p.2 ∧ p.2.length ≤ 300) (fun p d => d = .str (tx (p.2.map (calledN p.1))))
def lowC (c : Nat) : Nat := if 97 ≤ c then c else c + 32
section
variable {M : Md} {k : Nat}
theorem ok_lcalled {f : Addr} {fd : FuncData} (F : Fun M.K "_law_called" "_law_called" s_lcalled f fd) :
    FnOk M.P M.w M.K M.mg M.base CX0 (k + 1) f fd ["_law_row_here", "_law_floor_here"] (SpD M.K [true, true] (fun p : Floor × List Nat => [.str (tx p.2), encF p.1]) (fun p => FloorOk p.1 ∧ RowOf p.1 p.2 ∧ p.2.length ≤ 300) (fun p d => d = .str (tx (p.2.map (calledN p.1))))) := by
  refine fn_ok F S_lcalled rfl fun X S ⟨fl, r⟩ ⟨hf, hro, hrl⟩ => ?_
  dsimp only at hf hro hrl ⊢
  show DB X _ [some (.d (.str (tx r))), some (.d (encF fl)), none, none, none, none, none, none] _ _ _ _
  have h8 := hf.len
  have hS : ∀ l : List Nat, l.length ≤ 300000 → (tx l).length ≤ sizeLine := fun l hl => by rw [len_tx]; exact sl1 (by omega)
  refine db_cons (ds_setLc1 S (di_tup ?_) (by walk_at "dk") (by walk_at "dk") (by walk_at "dk"))
  walk_at "go"
  refine ⟨_, rfl, ?_⟩
  refine lc_map (f := fun p => sg p.1) (by walk_at "wp") (by omega) (fun X1 S1 p hp => ?_) ?_
  · refine dg_tup S1 (dgs_cons (dg_name S1 (by walk_at "dk") ⟨_, by walk_at "ss", dgs_cons (dg_name S1 (by walk_at "dk") ⟨_, by walk_at "ss", dgs_nil fun X2 S2 => ?_⟩)⟩))
    walk_at "go"
    rfl
  refine ⟨_, by walk_at "ss", ?_⟩
  have eL : fl.map (fun p => sg p.1) = (fl.map fun p => V.str (tx [p.1])).map Da.a := by rw [List.map_map]; rfl
  rw [eL]
  walk_at "go"
  refine ⟨_, by walk_at "ss", ?_⟩
  refine db_cons (ds_for S (di_str ?_))
  walk_at "go"
  refine ⟨_, rfl, fun i δ => ∃ x y z u : Option SD, δ = [some (.d (.str (tx r))), some (.d (encF fl)), some (.d (.lst ((fl.map fun p => V.str (tx [p.1])).map Da.a))), some (.d (.str (tx ((r.take i).map (calledN fl))))), x, y, z, u], ⟨_, _, _, _, rfl⟩, ?_, ?_⟩
  · rintro i d δ' hi ⟨x, y, z, u, rfl⟩
    rw [chars_tx, List.getElem?_map] at hi
    obtain ⟨c, hc, rfl⟩ := Option.map_eq_some_iff.mp hi
    have hcr : c ∈ r := List.mem_of_getElem? hc
    have hcF := hro c hcr
    have hcT := hro.row hf c hcr
    obtain ⟨p, hp, hcp⟩ := turnsF_mem hcF
    obtain ⟨j, hj⟩ := List.getElem?_of_mem hp
    have hjl := (List.getElem?_eq_some_iff.mp hj).1
    obtain ⟨b1, b2, _⟩ := hf.ok p hp
    have hx := idx_of hf hj
    have hl := lower_sg ⟨c, hcT.lt⟩ hcT
    dsimp only at hl
    have hlow : (if 97 ≤ c then c else c + 32) = p.1 := by rcases hcp with rfl | rfl <;> split <;> omega
    rw [hlow] at hl
    have hcal : calledN fl c = if 97 ≤ c then 111 + j else 111 + j - 32 := by
      unfold calledN
      rcases hcp with rfl | rfl
      · rw [if_pos b1, if_pos b1, hx]
      · rw [if_neg (by omega), if_neg (by omega), show p.1 - 32 + 32 = p.1 by omega, hx]
    have hnx : (r.take (i + 1)).map (calledN fl) = (r.take i).map (calledN fl) ++ [calledN fl c] := by rw [List.take_add_one, hc, List.map_append]; rfl
    have hil := (List.getElem?_eq_some_iff.mp hc).1
    refine ⟨_, dg_name S (by walk_at "dk") ⟨_, by walk_at "ss", ?_⟩⟩
    walk_at "go"
    refine de_meth PySem.F.plainAttrs_list PySem.F.slot_list_index PySem.F.type_list_index ?_
    walk_at "go"
    refine ⟨tyw_lst, ?_⟩
    walk_at "go"
    refine de_meth0 PySem.F.plainAttrs_str PySem.F.slot_str_lower PySem.F.type_str_lower ?_
    walk_at "go"
    refine ⟨tyw_str, mw_lower (by show 1 ≤ 5592405; decide) ?_⟩
    rw [hl]
    walk_at "go"
    refine mw_lindex (j := j) (z := .str (tx [p.1])) rfl ?_ (by rw [List.getElem?_map, hj]; rfl) (by simp [eqV]) (fun i' z' hi' hz' => ?_) ?_
    · rw [List.all_map, List.all_eq_true]
      exact fun q _ => rfl
    · rw [List.getElem?_map] at hz'
      obtain ⟨q, hq, rfl⟩ := Option.map_eq_some_iff.mp hz'
      have hne : q.1 ≠ p.1 := fun e => by
        have := idx_of hf hq
        rw [e, hx] at this
        omega
      simp [eqV]
      exact hne
    rw [show Str.ofString "opqrstuv" = tx [111, 112, 113, 114, 115, 116, 117, 118] by decide]
    have hat : ([111, 112, 113, 114, 115, 116, 117, 118] : List Nat)[j]? = some (111 + j) := by
      have : j < 8 := by omega
      match j, this with
      | 0, _ => rfl
      | 1, _ => rfl
      | 2, _ => rfl
      | 3, _ => rfl
      | 4, _ => rfl
      | 5, _ => rfl
      | 6, _ => rfl
      | 7, _ => rfl
    refine at_tx (X := X) (by decide) rfl hat ?_
    refine ⟨_, by walk_at "ss", ?_⟩
    have hln : ((r.take i).map (calledN fl)).length ≤ 300 := by rw [List.length_map, List.length_take]; omega
    have hu := upper_sg ⟨111 + j, by omega⟩ (.inl ⟨by show 97 ≤ 111 + j; omega, by show 111 + j ≤ 122; omega⟩)
    dsimp only at hu
    rw [if_pos (by omega)] at hu
    walk_at "go"
    refine de_meth0 PySem.F.plainAttrs_str PySem.F.slot_str_lower PySem.F.type_str_lower ?_
    walk_at "go"
    refine ⟨tyw_str, mw_lower (by show 1 ≤ 5592405; decide) ?_⟩
    rw [hl]
    refine .eqS rfl ⟨fun h => ?_, fun h => ?_⟩
    · have e : c = p.1 := by simpa using h
      walk_at "go"
      rotate_left
      · rw [len_tx]
        exact sl1 (by show _ + 1 ≤ _; omega)
      rw [app_tx]
      refine ⟨_, by walk_at "ss", ?_⟩
      walk_at "go"
      exact ⟨_, _, _, _, by rw [hnx, hcal, if_pos (by omega)]⟩
    · have e : ¬ c = p.1 := by simpa using h
      have h97 : ¬ 97 ≤ c := fun z => by rw [if_pos z] at hlow; exact e hlow
      refine de_meth0 PySem.F.plainAttrs_str PySem.F.slot_str_upper PySem.F.type_str_upper ?_
      walk_at "go"
      refine ⟨tyw_str, mw_upper (by show 1 ≤ 5592405; decide) ?_⟩
      rw [hu]
      walk_at "go"
      rotate_left
      · rw [len_tx]
        exact sl1 (by show _ + 1 ≤ _; omega)
      rw [app_tx]
      refine ⟨_, by walk_at "ss", ?_⟩
      walk_at "go"
      exact ⟨_, _, _, _, by rw [hnx, hcal, if_neg h97]⟩
  · rintro δ' ⟨x, y, z, u, rfl⟩
    rw [show (chars (tx r)).length = r.length by rw [chars_tx, List.length_map], List.take_length]
    walk_at "go"
    rfl
end
theorem tight_rowOf {fl : Floor} {r : List Nat} (h : RowOf fl r) : RowOf fl (tight r) := fun c hc => h c (tight_sub r c hc)
theorem all_nil {P : Da → Prop} : ∀ d ∈ ([] : List Da), P d := fun _ h => nomatch h
theorem enumD_mapL {α : Type} (l : List α) (f : α → Da) : enumD (l.map f) = l.zipIdx.map fun p => .tup [.int (p.2 : Nat), f p.1] := by
  unfold enumD
  rw [List.zipIdx_map, List.map_map]
  rfl
theorem zip_map2 {α : Type} (l : List α) (f g : α → Da) : zipD (l.map f) (l.map g) = l.map fun q => Da.tup [f q, g q] := by
  unfold zipD
  induction l with
  | nil => rfl
  | cons x l ih => rw [List.map_cons, List.map_cons, List.zip_cons_cons, List.map_cons, List.map_cons, ih]
theorem L_seven {fl : Floor} (hf : FloorOk fl) (h7 : ∀ p ∈ fl, p.2 = some 7) {r : List Nat} (hr : RowOf fl r) : ∃ (k : Int) (j : Nat), L (wF fl) r = some k ∧ 7 * (r.length : Int) - k = 14 * (j : Int) := by
  have W := wF_ok hf
  have h1 : ∀ c ∈ turnsF fl, wF fl c = some 7 := fun c hc => by
    obtain ⟨p, hp, e⟩ := turnsF_mem hc
    rw [wF_mem hf hp e, h7 p hp]
  have h2 : ∀ c x, wF fl c = some x → x = 7 := fun c x e => by
    unfold wF at e
    cases e2 : fl.find? fun p => p.1 == c || p.1 - 32 == c with
    | none => rw [e2] at e; cases e
    | some q =>
      rw [e2] at e
      have e : q.2 = some x := e
      rw [h7 q (List.mem_of_find?_eq_some e2)] at e
      cases e
      rfl
  have h3 : ∃ n, Cst (wF fl) r n := by
    clear h2
    induction r with
    | nil => exact ⟨0, .nil⟩
    | cons c r ih =>
      obtain ⟨n, hn⟩ := ih fun d hd => hr d (List.mem_cons_of_mem _ hd)
      exact ⟨7 + n, .del (turnsF_T hf (hr c (by simp))) (h1 c (hr c (by simp))) hn⟩
  obtain ⟨n, hn⟩ := h3
  obtain ⟨k, ek, _⟩ := L_le W hn
  obtain ⟨j, hj⟩ := (L_some W ek).even7 h2
  exact ⟨k, j, ek, hj⟩
theorem neI {Φ : Bool → Prop} {a b : Int} (e : a = b) (p : Φ false) : CmpW Φ .NotEq (.int a) (.int b) := by
  subst e
  exact .neS rfl (by rw [decide_eq_true rfl]; exact p)
abbrev SameC (M : Md) (k : Nat) : Prop := Cal M k "_law_same_costs" [true, true, true, true] (fun p : Floor × List Nat => [.drw, encF p.1, .str (tx p.2), encO (L (wF p.1) p.2)]) (fun p => FloorOk p.1 ∧ RowOf p.1 p.2 ∧ p.2.length ≤ 100) (fun _ d => d = .bl true)
theorem undo_of {fl : Floor} (hf : FloorOk fl) {r : List Nat} (h : RowOf fl r) : RowOf fl (r.map und) := fun c hc => RowOf.back hf h c (by unfold back; exact List.mem_reverse.mpr hc)
theorem und_in {fl : Floor} (hf : FloorOk fl) {t : Nat} (h : t ∈ turnsF fl) : und t ∈ turnsF fl := undo_of hf (r := [t]) (fun c hc => by rw [List.mem_singleton.mp hc]; exact h) _ (by simp)
def minO : Option Int → Option Int
  | none => none
  | some c => some (if c < 10 then c else 10)
section
variable {M : Md} {k : Nat}
theorem ok_lsame {f : Addr} {fd : FuncData} (F : Fun M.K "_law_same_costs" "_law_same_costs" s_lsame_costs f fd) (cD : DrawC M k) (cO : OfC M k) (cTn : TurnsC M k) (cB : BackC M k) (cU : LUndoesC M k) (cT : TightC M k) (cL : LeastC M k) (cCa : CalledC M k) (ml : M.mg "len" = none) (mt : M.mg "tuple" = none) (me : M.mg "enumerate" = none) (mn : M.mg "min" = none) :
    FnOk M.P M.w M.K M.mg M.base CX0 (k + 1) f fd ["_law_draws_here", "_law_floor_here", "_law_row_here", "_law_due"] (SpD M.K [true, true, true, true] (fun p : Floor × List Nat => [.drw, encF p.1, .str (tx p.2), encO (L (wF p.1) p.2)]) (fun p => FloorOk p.1 ∧ RowOf p.1 p.2 ∧ p.2.length ≤ 100) (fun _ d => d = .bl true)) := by
  refine fn_ok F S_lsame_costs rfl fun X S ⟨fl, r⟩ ⟨hf, hro, hrl⟩ => ?_
  dsimp only at hf hro hrl ⊢
  show DB X _ [some (.d .drw), some (.d (encF fl)), some (.d (.str (tx r))), some (.d (encO (L (wF fl) r))), none, none, none, none, none, none, none, none, none, none, none, none, none] _ _ _ _
  have hsc := S.hsc
  have hr := hro.row hf
  have W := wF_ok hf
  have h8 := hf.len
  have hp1 := hf.pos
  have hS : ∀ l : List Nat, l.length ≤ 300000 → (tx l).length ≤ sizeLine := fun l hl => by rw [len_tx]; exact sl1 (by omega)
  have htl : (turnsF fl).length = 2 * fl.length := by unfold turnsF lets; simp; omega
  walk_at "go"
  refine bw_lenS (hS r (by omega)) ?_
  rw [len_tx]
  walk_at "go"
  refine ⟨(r.length : Int) + 1, rfl, ⟨by omega, by omega⟩, ?_⟩
  rintro _ ⟨p0, rfl, hp0, hpr⟩
  obtain ⟨q, rfl⟩ : ∃ q : Nat, p0 = (q : Int) := ⟨p0.toNat, by omega⟩
  have hq : q ≤ r.length := by omega
  walk_at "go"
  refine ⟨fl, rfl, hf, ?_⟩
  rintro _ rfl
  walk_at "go"
  refine ⟨.str (tx (turnsF fl)), rfl, .inr ⟨_, rfl, by omega, by omega⟩, ?_⟩
  rintro _ ⟨_, ht⟩
  obtain ⟨t, htF, rfl⟩ := ht _ rfl
  have htT := turnsF_T hf htF
  refine ⟨_, _, by walk_at "ss", by walk_at "ss", ?_⟩
  have hdl : (r.drop q).length ≤ 100 := by rw [List.length_drop]; omega
  have htk : (r.take q).length ≤ 100 := by rw [List.length_take]; omega
  walk_at "go"
  refine ⟨r, rfl, ⟨hr, by omega⟩, ?_⟩
  rintro _ rfl
  walk_at "go"
  refine de_meth PySem.F.plainAttrs_str PySem.F.slot_str_join PySem.F.type_str_join ?_
  walk_at "go"
  refine ⟨tyw_str, ?_⟩
  walk_at "go"
  refine de_lc1 S (di_str ?_) (by walk_at "dk")
  walk_at "go"
  refine ⟨_, rfl, ?_⟩
  rw [chars_tx]
  refine lc_map (f := fun c => sg (und c)) (by walk_at "wp") (by omega) (fun X1 S1 c hc => ?_) ?_
  · refine dg_name S1 (by walk_at "dk") ⟨_, by walk_at "ss", fun X2 S2 => ?_⟩
    walk_at "go"
    exact ⟨c, rfl, hr c hc, fun d hd => hd⟩
  walk_at "go"
  rw [show r.map (fun c => sg (und c)) = (r.map und).map sg by rw [List.map_map]; rfl]
  refine joinR (r.map und) (by rw [List.length_map]; omega) ?_
  walk_at "go"
  refine .str (hS r (by omega)) ?_
  rw [show (⟨(tx r).cps.toList.reverse.toArray⟩ : Str) = tx r.reverse from rfl]
  walk_at "go"
  refine ⟨_, rfl, ?_⟩
  walk_at "go"
  refine .str (hS r (by omega)) ?_
  rw [cut_from r (by omega), Int.toNat_natCast]
  walk_at "go"
  refine ⟨_, rfl, .str (hS r (by omega)) ?_⟩
  rw [cut_to r (by omega), Int.toNat_natCast]
  walk_at "go"
  rotate_left
  · simp only [len_tx, List.length_append, List.length_cons, List.length_nil]
    exact sl1 (by omega)
  rw [app_tx]
  refine ⟨_, rfl, .str (hS r (by omega)) ?_⟩
  rw [cut_to r (by omega), Int.toNat_natCast]
  walk_at "go"
  rotate_left
  · simp only [len_tx, List.length_append, List.length_cons, List.length_nil]
    exact sl1 (by omega)
  rw [app_tx]
  refine ⟨t, rfl, htT, ?_⟩
  rintro _ rfl
  walk_at "go"
  rotate_left
  · simp only [len_tx, List.length_append, List.length_cons, List.length_nil]
    exact sl1 (by omega)
  rw [app_tx]
  refine ⟨_, rfl, ?_⟩
  walk_at "go"
  refine .str (hS r (by omega)) ?_
  rw [cut_from r (by omega), Int.toNat_natCast]
  walk_at "go"
  rotate_left
  · simp only [len_tx, List.length_append, List.length_cons, List.length_nil]
    exact sl1 (by omega)
  rw [app_tx]
  refine ⟨_, by walk_at "ss", ?_⟩
  walk_at "go"
  refine ⟨r, rfl, ⟨hr, by omega⟩, ?_⟩
  rintro _ rfl
  walk_at "go"
  rotate_left
  · simp only [len_tx, List.length_append, List.length_cons, List.length_nil]
    exact sl1 (by omega)
  rw [app_tx]
  refine ⟨t, rfl, htT, ?_⟩
  rintro _ rfl
  walk_at "go"
  rotate_left
  · simp only [len_tx, List.length_append, List.length_cons, List.length_nil]
    exact sl1 (by omega)
  rw [app_tx]
  walk_at "go"
  · rw [sizeLine_eq]
    show 5 + 2 ≤ _
    decide
  rw [app_tx]
  obtain ⟨os, eos⟩ : ∃ os : List (List Nat), os = [back r, r.map und, r.reverse, r.drop q ++ r.take q, r.take q ++ [t] ++ [und t] ++ r.drop q, tight r, [t] ++ r ++ [und t]] := ⟨_, rfl⟩
  have hO : ∀ s ∈ os, RowOf fl s ∧ s.length ≤ 300 ∧ L (wF fl) s = L (wF fl) r := by
    have hd : ∀ c ∈ r.drop q, c ∈ turnsF fl := fun c hc => hro c (List.mem_of_mem_drop hc)
    have hk : ∀ c ∈ r.take q, c ∈ turnsF fl := fun c hc => hro c (List.mem_of_mem_take hc)
    have hu := und_in hf htF
    rw [eos]
    intro s hs
    simp only [List.mem_cons, List.not_mem_nil, or_false] at hs
    rcases hs with rfl | rfl | rfl | rfl | rfl | rfl | rfl
    · exact ⟨RowOf.back hf hro, by rw [back_len]; omega, L_back W hr⟩
    · exact ⟨undo_of hf hro, by rw [List.length_map]; omega, L_undo W hr⟩
    · exact ⟨fun c hc => hro c (List.mem_reverse.mp hc), by rw [List.length_reverse]; omega, L_turned W hr⟩
    · exact ⟨fun c hc => (List.mem_append.mp hc).elim (hd c) (hk c), by rw [List.length_append]; omega, L_turnD W r q⟩
    · refine ⟨fun c hc => ?_, by simp only [List.length_append, List.length_cons, List.length_nil]; omega, ?_⟩
      · simp only [List.mem_append, List.mem_cons, List.not_mem_nil, or_false] at hc
        rcases hc with ((hc | rfl) | rfl) | hc
        · exact hk c hc
        · exact htF
        · exact hu
        · exact hd c hc
      · have := L_laid W (a := r.take q) (b := r.drop q) htT
        rw [List.take_append_drop] at this
        rw [← this]
        congr 1
        simp
    · have := tight_len r
      exact ⟨tight_rowOf hro, by omega, L_tight W hr⟩
    · refine ⟨fun c hc => ?_, by simp only [List.length_append, List.length_cons, List.length_nil]; omega, L_wrapped W htT⟩
      simp only [List.mem_append, List.mem_cons, List.not_mem_nil, or_false] at hc
      rcases hc with (rfl | hc) | rfl
      · exact htF
      · exact hro c hc
      · exact hu
  have hol : os.length = 7 := by rw [eos]; rfl
  have eO : Da.lst ([Da.str (tx (back r)), Da.str (tx (r.map und)), Da.str (tx r.reverse), Da.str (tx (r.drop q ++ r.take q)), Da.str (tx (r.take q ++ [t] ++ [und t] ++ r.drop q))] ++ [Da.str (tx (tight r)), Da.str (tx ([t] ++ r ++ [und t]))]) = Da.lst (os.map fun s => Da.str (tx s)) := by rw [eos]; rfl
  refine ⟨_, by walk_at "ss", ?_⟩
  show DB X _ [_, _, _, _, _, _, some (.d (Da.lst ([Da.str (tx (back r)), Da.str (tx (r.map und)), Da.str (tx r.reverse), Da.str (tx (r.drop q ++ r.take q)), Da.str (tx (r.take q ++ [t] ++ [und t] ++ r.drop q))] ++ [Da.str (tx (tight r)), Da.str (tx ([t] ++ r ++ [und t]))]))), _, _, _, _, _, _, _, _, _, _] _ _ _ _
  rw [eO]
  clear eO eos
  refine db_cons (ds_if (DT.imp (Φ := fun z => z = false) ?_ fun z hz => ⟨fun e => absurd (hz.symm.trans e) (by decide), fun _ => ?_⟩))
  · walk_at "go"
    refine de_lc1 S (di_lst ?_) (by walk_at "dk")
    walk_at "go"
    refine ⟨_, rfl, ?_⟩
    refine lc_filter (p := fun _ => false) (f := fun _ => Da.int 1) (by walk_at "wp") (by omega) (fun X1 S1 s hs => ?_) ?_
    · obtain ⟨h1, h2, h3⟩ := hO s hs
      refine dg_name S1 (by walk_at "dk") ⟨_, by walk_at "ss", fun X2 S2 => ?_⟩
      walk_at "go"
      refine ⟨(fl, s), rfl, ⟨hf, h1, h2⟩, ?_⟩
      rintro _ hz
      have hz : _ = encO (L (wF fl) s) := hz
      rw [h3] at hz
      subst hz
      walk_at "go"
      exact neO rfl ⟨rfl, fun z => absurd z (by decide)⟩
    rw [show (os.filter fun _ => false) = [] by simp]
    walk_at "go"
    exact cmp_neNil (n := 1) (.lst all_nil) rfl
  refine db_nil ?_
  walk_at "go"
  refine de_lc1 S (di_enumT S me (by walk_at "dk") ?_) (by walk_at "dk")
  walk_at "go"
  refine ⟨_, rfl, ?_⟩
  rw [enumD_mapL]
  refine lc_map (f := fun p => Da.tup [sg (111 + p.2), encO p.1.2]) (by walk_at "wp") (by rw [List.length_zipIdx]; omega) (fun X1 S1 p hp => ?_) ?_
  · have hj := List.mk_mem_zipIdx_iff_getElem?.mp hp
    have hjl := (List.getElem?_eq_some_iff.mp hj).1
    obtain ⟨p, j⟩ := p
    refine dg_tup S1 (dgs_cons (dg_name S1 (by walk_at "dk") ⟨_, by walk_at "ss", dgs_cons (dg_name S1 (by walk_at "dk") ⟨_, by walk_at "ss", dgs_nil fun X2 S2 => ?_⟩)⟩))
    walk_at "go"
    rw [show Str.ofString "opqrstuv" = tx [111, 112, 113, 114, 115, 116, 117, 118] by decide]
    have hat : ([111, 112, 113, 114, 115, 116, 117, 118] : List Nat)[j]? = some (111 + j) := by
      have : j < 8 := by dsimp only at hjl; omega
      match j, this with
      | 0, _ => rfl
      | 1, _ => rfl
      | 2, _ => rfl
      | 3, _ => rfl
      | 4, _ => rfl
      | 5, _ => rfl
      | 6, _ => rfl
      | 7, _ => rfl
    refine at_tx (X := X2) (by decide) rfl hat ?_
    walk_at "go"
    refine .tup (atI_nat (xs := [sg p.1, encO p.2]) (j := 1) rfl) ?_
    walk_at "go"
    rfl
  walk_at "go"
  refine bw_tupleL ?_
  rw [show Da.tup (fl.zipIdx.map fun p => Da.tup [sg (111 + p.2), encO p.1.2]) = encF (freshF fl) by unfold freshF encF; rw [List.map_map]; rfl]
  refine ⟨_, by walk_at "ss", ?_⟩
  refine db_cons (ds_if (DT.imp (Φ := fun z => z = false) ?_ fun z hz => ⟨fun e => absurd (hz.symm.trans e) (by decide), fun _ => ?_⟩))
  · walk_at "go"
    refine ⟨(fl, r), rfl, ⟨hf, hro, by show r.length ≤ 300; omega⟩, ?_⟩
    rintro _ rfl
    walk_at "go"
    refine ⟨(freshF fl, r.map (calledN fl)), rfl, ⟨fresh_ok hf, called_row hf hro, by show (r.map (calledN fl)).length ≤ 300; rw [List.length_map]; omega⟩, ?_⟩
    rintro _ hz
    have hz : _ = encO (L (wF (freshF fl)) (r.map (calledN fl))) := hz
    rw [L_called hf hro] at hz
    subst hz
    walk_at "go"
    exact neO rfl rfl
  refine db_nil ?_
  walk_at "go"
  refine ⟨9, rfl, ⟨by decide, by decide⟩, ?_⟩
  rintro _ ⟨z, rfl, hz0, hz1⟩
  walk_at "go"
  refine ⟨_, by walk_at "ss", ?_⟩
  have ht1 : 1 ≤ 1 + z := by omega
  have ht9 : 1 + z ≤ 9 := by omega
  generalize 1 + z = tm at ht1 ht9
  have hS1 : FloorOk (fl.map fun p => (p.1, minO p.2)) := floor_map hf minO fun p hp i e => by
    cases hc : p.2 with
    | none => rw [hc] at e; cases e
    | some c =>
      rw [hc] at e
      have hb := (hf.ok p hp).2.2 c hc
      have e : some (if c < 10 then c else 10) = some i := e
      injection e with e
      rw [← e]
      split <;> omega
  have hG1 : FloorOk ((fl.map fun p => (p.1, minO p.2)).map fun p => (p.1, timesO tm p.2)) := floor_map hS1 (timesO tm) fun p hp i e => by
    obtain ⟨p0, hp0, rfl⟩ := List.mem_map.mp hp
    cases hc : p0.2 with
    | none => dsimp only at e; rw [hc] at e; cases e
    | some c =>
      dsimp only at e
      rw [hc] at e
      have hb := (hf.ok p0 hp0).2.2 c hc
      have e : some (tm * (if c < 10 then c else 10)) = some i := e
      injection e with e
      have h1 : 1 ≤ (if c < 10 then c else 10) ∧ (if c < 10 then c else 10) ≤ 10 := by split <;> omega
      rw [← e]
      generalize (if c < 10 then c else 10) = y at h1
      have a1 : 1 * 1 ≤ tm * y := Int.mul_le_mul ht1 h1.1 (by decide) (by omega)
      have a2 : tm * y ≤ 9 * 10 := Int.mul_le_mul ht9 h1.2 (by omega) (by decide)
      omega
  walk_at "go"
  refine de_lc1 S (di_tup ?_) (by walk_at "dk")
  walk_at "go"
  refine ⟨_, rfl, ?_⟩
  refine lc_map (f := fun p => Da.tup [sg p.1, encO (minO p.2)]) (by walk_at "wp") (by omega) (fun X1 S1 p hp => ?_) ?_
  · refine dg_tup S1 (dgs_cons (dg_name S1 (by walk_at "dk") ⟨_, by walk_at "ss", dgs_cons (dg_name S1 (by walk_at "dk") ⟨_, by walk_at "ss", dgs_nil fun X2 S2 => ?_⟩)⟩))
    cases hc : p.2 with
    | none =>
      walk_at "go"
      refine .isN ⟨fun _ => ?_, fun z => absurd z (by decide)⟩
      walk_at "go"
      rfl
    | some c =>
      walk_at "go"
      refine .isN ⟨fun z => absurd z (by simp), fun _ => ?_⟩
      walk_at "go"
      refine bw_min S2 ?_
      walk_at "go"
      rfl
  walk_at "go"
  refine bw_tupleL ?_
  rw [show Da.tup (fl.map fun p => Da.tup [sg p.1, encO (minO p.2)]) = encF (fl.map fun p => (p.1, minO p.2)) by unfold encF; rw [List.map_map]; rfl]
  have eT : turnsF (fl.map fun p => (p.1, minO p.2)) = turnsF fl := turns_map fl minO
  have hlS : (fl.map fun p => (p.1, minO p.2)).length ≤ 8 := by rw [List.length_map]; exact h8
  generalize (fl.map fun p => (p.1, minO p.2)) = sf at hS1 hG1 eT hlS
  refine ⟨_, by walk_at "ss", ?_⟩
  walk_at "go"
  refine de_lc1 S (di_tup ?_) (by walk_at "dk")
  walk_at "go"
  refine ⟨_, rfl, ?_⟩
  refine lc_map (f := fun p => Da.tup [sg p.1, encO (timesO tm p.2)]) (by walk_at "wp") (by omega) (fun X1 S1 p hp => ?_) ?_
  · refine dg_tup S1 (dgs_cons (dg_name S1 (by walk_at "dk") ⟨_, by walk_at "ss", dgs_cons (dg_name S1 (by walk_at "dk") ⟨_, by walk_at "ss", dgs_nil fun X2 S2 => ?_⟩)⟩))
    cases hc : p.2 with
    | none =>
      walk_at "go"
      refine .isN ⟨fun _ => ?_, fun z => absurd z (by decide)⟩
      walk_at "go"
      rfl
    | some c =>
      walk_at "go"
      refine .isN ⟨fun z => absurd z (by simp), fun _ => ?_⟩
      walk_at "go"
      · rfl
      · exact .inl (.inl ⟨by omega, by omega⟩)
  walk_at "go"
  refine bw_tupleL ?_
  rw [show Da.tup (sf.map fun p => Da.tup [sg p.1, encO (timesO tm p.2)]) = encF (sf.map fun p => (p.1, timesO tm p.2)) by unfold encF; rw [List.map_map]; rfl]
  refine ⟨_, by walk_at "ss", ?_⟩
  have hroS : RowOf sf r := fun c hc => by rw [eT]; exact hro c hc
  have hroG : RowOf (sf.map fun p => (p.1, timesO tm p.2)) r := fun c hc => by rw [turns_map]; exact hroS c hc
  walk_at "go"
  refine ⟨(sf, r), rfl, ⟨hS1, hroS, by show r.length ≤ 300; omega⟩, ?_⟩
  rintro _ hz
  have hz : _ = encO (L (wF sf) r) := hz
  subst hz
  refine ⟨_, by walk_at "ss", ?_⟩
  walk_at "go"
  refine ⟨(sf.map fun p => (p.1, timesO tm p.2), r), rfl, ⟨hG1, hroG, by show r.length ≤ 300; omega⟩, ?_⟩
  rintro _ hz
  have hz : _ = encO (L (wF (sf.map fun p => (p.1, timesO tm p.2))) r) := hz
  rw [L_times (wF_ok hS1) (wF_ok hG1) ht1 (fun c => wF_map (timesO tm) rfl sf c)] at hz
  subst hz
  cases L (wF sf) r with
  | none =>
    walk_at "go"
    refine .isN ⟨fun _ => ?_, fun z => absurd z (by decide)⟩
    walk_at "go"
    exact eqOO (a := none) (b := none) rfl
  | some x =>
    walk_at "go"
    refine .isN ⟨fun z => absurd z (by simp), fun _ => ?_⟩
    walk_at "go"
    · refine eqOO (a := some (tm * x)) (b := some (tm * x)) ?_
      rw [decide_eq_true rfl]
    · exact .inl (.inl ⟨by omega, by omega⟩)
theorem ok_law {f : Addr} {fd : FuncData} (F : Fun M.K "law" "law" s_law f fd) (cDs : DrawsC M k) (cD : DrawC M k) (cF : FloorC M k) (cR : RowC M k) (cL : LeastC M k) (cS : SameC M k) (cBe : LBelowC M k) (cP : LPlusC M k) (cW : WoundC M k)
    (ml : M.mg "len" = none) (mr : M.mg "range" = none) (mn : M.mg "min" = none) (mx : M.mg "max" = none) (mt : M.mg "tuple" = none) (mz : M.mg "zip" = none) (ma : M.mg "abs" = none) :
    FnOk M.P M.w M.K M.mg M.base CX0 (k + 1) f fd ["_law_script"] (SpD M.K [true] (fun ns : List Int => [.scr ns]) (fun ns => ns.length ≤ 63) (fun _ d => d = .bl true)) := by
  refine fn_ok F S_law rfl fun X S ns hns => ?_
  show DB X _ [some (.d (.scr ns)), none, none, none, none, none, none, none, none, none, none, none, none, none, none] _ _ _ _
  have hS : ∀ l : List Nat, l.length ≤ 300000 → (tx l).length ≤ sizeLine := fun l hl => by rw [len_tx]; exact sl1 (by omega)
  refine db_cons (ds_for S (di_range1 S mr (by walk_at "dk") ?_))
  walk_at "go"
  refine bw_lenC ?_
  walk_at "go"
  refine bw_min S ?_
  walk_at "go"
  refine bw_max S ?_
  obtain ⟨n, hn, hn2⟩ : ∃ n : Nat, (if (if (ns.length : Int) < 8 then (ns.length : Int) else 8) > 1 then (if (ns.length : Int) < 8 then (ns.length : Int) else 8) else 1) = (n : Int) ∧ n ≤ 8 := by
    by_cases h1 : (ns.length : Int) < 8
    · rw [if_pos h1]
      by_cases h2 : (ns.length : Int) > 1
      · exact ⟨ns.length, by rw [if_pos h2], by omega⟩
      · exact ⟨1, by rw [if_neg h2]; rfl, by omega⟩
    · rw [if_neg h1]
      exact ⟨8, by decide, by omega⟩
  rw [hn]
  refine ⟨_, rfl, by omega, by omega, ?_⟩
  refine ⟨fun i δ => ∃ a b c d e f g h i j k l m n : Option SD, δ = [some (.d (.scr ns)), a, b, c, d, e, f, g, h, i, j, k, l, m, n], ⟨_, _, _, _, _, _, _, _, _, _, _, _, _, _, rfl⟩, ?_, ?_⟩
  · rintro i d δ' hi ⟨a1, a2, a3, a4, a5, a6, a7, a8, a9, a10, a11, a12, a13, a14, rfl⟩
    obtain ⟨hin, rfl⟩ := rangeD_get hi
    refine ⟨_, dg_name S (by walk_at "dk") ⟨_, by walk_at "ss", ?_⟩⟩
    walk_at "go"
    refine ⟨(ns, 0 + (i : Int)), rfl, ⟨hns, by omega, by omega⟩, ?_⟩
    rintro _ rfl
    refine ⟨_, by walk_at "ss", ?_⟩
    walk_at "go"
    refine ⟨5, rfl, ⟨by decide, by decide⟩, ?_⟩
    rintro _ ⟨fl, rfl, hf, _⟩
    refine ⟨_, by walk_at "ss", ?_⟩
    have W := wF_ok hf
    have h8 := hf.len
    walk_at "go"
    refine ⟨(fl, 20), rfl, ⟨hf, by show (0 : Int) ≤ 20; decide, by show (20 : Int) ≤ 1000; decide⟩, ?_⟩
    rintro _ ⟨r, rfl, hro, hrl⟩
    dsimp only at hro hrl
    have hr := hro.row hf
    walk_at "go"
    refine ⟨(fl, 16), rfl, ⟨hf, by show (0 : Int) ≤ 16; decide, by show (16 : Int) ≤ 1000; decide⟩, ?_⟩
    rintro _ ⟨s, rfl, hso, hsl⟩
    dsimp only at hso hsl
    refine ⟨_, _, by walk_at "ss", by walk_at "ss", ?_⟩
    walk_at "go"
    refine ⟨(fl, r), rfl, ⟨hf, hro, by show r.length ≤ 300; omega⟩, ?_⟩
    rintro _ hz
    have hz : _ = encO (L (wF fl) r) := hz
    subst hz
    refine ⟨_, by walk_at "ss", ?_⟩
    refine db_cons (ds_if (DT.imp (Φ := fun z => z = false) ?_ fun z hz => ⟨fun e => absurd (hz.symm.trans e) (by decide), fun _ => ?_⟩))
    · refine dt_not (dt_val ?_)
      walk_at "go"
      refine ⟨(fl, r), rfl, ⟨hf, hro, by show r.length ≤ 100; omega⟩, ?_⟩
      rintro _ rfl
      exact ⟨true, rfl, rfl⟩
    refine db_nil ?_
    refine db_cons (ds_if (DT.imp (Φ := fun z => z = false) ?_ fun z hz => ⟨fun e => absurd (hz.symm.trans e) (by decide), fun _ => ?_⟩))
    · refine dt_val ?_
      walk_at "go"
      refine ⟨(fl, s), rfl, ⟨hf, hso, by show s.length ≤ 300; omega⟩, ?_⟩
      rintro _ hz
      have hz : _ = encO (L (wF fl) s) := hz
      subst hz
      walk_at "go"
      refine ⟨(L (wF fl) r, L (wF fl) s), rfl, trivial, ?_⟩
      rintro _ hz
      have hz : _ = encO (oplus (L (wF fl) r) (L (wF fl) s)) := hz
      subst hz
      walk_at "go"
      rotate_left
      · simp only [len_tx]
        exact sl1 (by omega)
      rw [app_tx]
      refine ⟨(fl, r ++ s), rfl, ⟨hf, fun c hc => (List.mem_append.mp hc).elim (hro c) (hso c), by show (r ++ s).length ≤ 300; rw [List.length_append]; omega⟩, ?_⟩
      rintro _ hz
      have hz : _ = encO (L (wF fl) (r ++ s)) := hz
      subst hz
      walk_at "go"
      refine ⟨(oplus (L (wF fl) r) (L (wF fl) s), L (wF fl) (r ++ s)), rfl, trivial, ?_⟩
      rintro _ hz
      have hz : _ = Da.bl (belowB (oplus (L (wF fl) r) (L (wF fl) s)) (L (wF fl) (r ++ s))) := hz
      rw [below_no (L_app W r s)] at hz
      subst hz
      exact ⟨false, rfl, rfl⟩
    refine db_nil ?_
    walk_at "go"
    refine ⟨_, by walk_at "ss", ?_⟩
    refine db_cons (ds_for S (di_zip S mz (by walk_at "dk") ?_))
    walk_at "go"
    refine ⟨(fl, r), rfl, ⟨hf, hr, by show r.length ≤ 1000; omega⟩, ?_⟩
    rintro _ rfl
    refine ⟨_, _, .inr ⟨rfl, rfl⟩, ?_⟩
    dsimp only
    rw [zip_map2]
    refine ⟨fun j δ => ∃ x y z : Option SD, δ = [some (.d (.scr ns)), some (.d (.int (0 + (i : Int)))), some (.d .drw), some (.d (encF fl)), some (.d (.str (tx r))), some (.d (.str (tx s))), some (.d (encO (L (wF fl) r))), some (.d (encO (sumsO r (fl.take j)))), x, y, z, a11, a12, a13, a14], ⟨_, _, _, rfl⟩, ?_, ?_⟩
    · rintro j d δ' hj ⟨x, y, z, rfl⟩
      rw [List.getElem?_map] at hj
      obtain ⟨p, hp, rfl⟩ := Option.map_eq_some_iff.mp hj
      have hpm := List.mem_of_getElem? hp
      have hb := hf.ok p hpm
      have hsn : sumsO r (fl.take (j + 1)) = oplus (sumsO r (fl.take j)) (woundO r p) := by rw [List.take_add_one, hp]; exact sumsO_snoc _ _ _
      refine ⟨_, dg_tup S (dgs_cons (dg_tup S (dgs_cons (dg_name S (by walk_at "dk") ⟨_, by walk_at "ss", dgs_cons (dg_name S (by walk_at "dk") ⟨_, by walk_at "ss", dgs_nil (dgs_cons (dg_name S (by walk_at "dk") ⟨_, by walk_at "ss", dgs_nil ?_⟩))⟩)⟩))))⟩
      have hwb : (wd p.1 r).natAbs ≤ 1000 := by
        have key : ∀ l : List Nat, (wd p.1 l).natAbs ≤ l.length := by
          intro l
          induction l with
          | nil => exact Nat.le_refl _
          | cons c l ih =>
            show (vl p.1 c + wd p.1 l).natAbs ≤ l.length + 1
            have : (vl p.1 c).natAbs ≤ 1 := by
              unfold vl
              split
              · decide
              · split <;> decide
            omega
        have := key r
        omega
      unfold woundO at hsn
      generalize wd p.1 r = v at hsn hwb
      walk_at "go"
      refine .eqS rfl ⟨fun h => ?_, fun h => ?_⟩
      · have h : V.int v = V.int 0 := of_decide_eq_true h
        rw [if_pos (V.int.inj h)] at hsn
        walk_at "go"
        refine ⟨(sumsO r (fl.take j), some 0), rfl, trivial, ?_⟩
        rintro _ hz
        have hz : _ = encO (oplus (sumsO r (fl.take j)) (some 0)) := hz
        rw [← hsn] at hz
        subst hz
        refine ⟨_, by walk_at "ss", ?_⟩
        walk_at "go"
        exact ⟨_, _, _, rfl⟩
      · have h : ¬ V.int v = V.int 0 := of_decide_eq_false h
        rw [if_neg fun e => h (by rw [e])] at hsn
        cases hc : p.2 with
        | none =>
          rw [hc] at hsn
          have hsn : _ = oplus _ none := hsn
          walk_at "go"
          refine .isN ⟨fun _ => ?_, fun z => absurd z (by decide)⟩
          walk_at "go"
          refine ⟨(sumsO r (fl.take j), none), rfl, trivial, ?_⟩
          rintro _ hz
          have hz : _ = encO (oplus (sumsO r (fl.take j)) none) := hz
          rw [← hsn] at hz
          subst hz
          refine ⟨_, by walk_at "ss", ?_⟩
          walk_at "go"
          exact ⟨_, _, _, rfl⟩
        | some c =>
          rw [hc] at hsn
          have hsn : _ = oplus _ (some (c * (v.natAbs : Int))) := hsn
          have hcb := hb.2.2 c hc
          walk_at "go"
          refine .isN ⟨fun z => absurd z (by simp), fun _ => ?_⟩
          walk_at "go"
          refine bw_abs ?_
          rw [show (if v < 0 then -v else v) = (v.natAbs : Int) by split <;> omega]
          walk_at "go"
          · refine ⟨(sumsO r (fl.take j), some (c * (v.natAbs : Int))), rfl, trivial, ?_⟩
            rintro _ hz
            have hz : _ = encO (oplus (sumsO r (fl.take j)) (some (c * (v.natAbs : Int)))) := hz
            rw [← hsn] at hz
            subst hz
            refine ⟨_, by walk_at "ss", ?_⟩
            walk_at "go"
            exact ⟨_, _, _, rfl⟩
          · exact .inl (.inl ⟨by omega, by omega⟩)
    · rintro δ' ⟨x, y, z, rfl⟩
      rw [List.length_map, List.take_length]
      refine db_cons (ds_if (DT.imp (Φ := fun z => z = false) ?_ fun z hz => ⟨fun e => absurd (hz.symm.trans e) (by decide), fun _ => ?_⟩))
      · refine dt_val ?_
        walk_at "go"
        refine ⟨(L (wF fl) r, sumsO r fl), rfl, trivial, ?_⟩
        rintro _ hz
        have hz : _ = Da.bl (belowB (L (wF fl) r) (sumsO r fl)) := hz
        rw [below_no (sums_le hf r)] at hz
        subst hz
        exact ⟨false, rfl, rfl⟩
      refine db_nil ?_
      walk_at "go"
      refine de_lc1 S (di_tup ?_) (by walk_at "dk")
      walk_at "go"
      refine ⟨_, rfl, ?_⟩
      refine lc_map (f := fun p => Da.tup [sg p.1, .int 7]) (by walk_at "wp") (by omega) (fun X1 S1 p hp => ?_) ?_
      · refine dg_tup S1 (dgs_cons (dg_name S1 (by walk_at "dk") ⟨_, by walk_at "ss", dgs_cons (dg_name S1 (by walk_at "dk") ⟨_, by walk_at "ss", dgs_nil fun X2 S2 => ?_⟩)⟩))
        walk_at "go"
        rfl
      walk_at "go"
      refine bw_tupleL ?_
      rw [show Da.tup (fl.map fun p => Da.tup [sg p.1, .int 7]) = encF (fl.map fun p => (p.1, some 7)) by unfold encF; rw [List.map_map]; rfl]
      refine ⟨_, by walk_at "ss", ?_⟩
      have hA : FloorOk (fl.map fun p => (p.1, some 7)) := floor_map hf (fun _ => some 7) fun p hp i e => by cases e; decide
      have hroA : RowOf (fl.map fun p => (p.1, some 7)) r := fun c hc => by rw [turns_map fl (fun _ => some 7)]; exact hro c hc
      obtain ⟨kk, jj, eL, eK⟩ := L_seven hA (fun p hp => by obtain ⟨p0, _, rfl⟩ := List.mem_map.mp hp; rfl) hroA
      walk_at "go"
      refine ⟨(fl.map fun p => (p.1, some 7), r), rfl, ⟨hA, hroA, by show r.length ≤ 300; omega⟩, ?_⟩
      rintro _ hz
      have hz : _ = encO (L (wF (fl.map fun p => (p.1, some 7))) r) := hz
      rw [eL] at hz
      subst hz
      refine ⟨_, by walk_at "ss", ?_⟩
      refine db_cons (ds_if (DT.imp (Φ := fun z => z = false) ?_ fun z hz => ⟨fun e => absurd (hz.symm.trans e) (by decide), fun _ => ?_⟩))
      · walk_at "go"
        refine bw_lenS (hS r (by omega)) ?_
        rw [len_tx]
        walk_at "go"
        refine .gt ⟨fun h => ?_, fun _ => ?_⟩
        · have h := of_decide_eq_true h
          exact absurd h (by omega)
        walk_at "go"
        refine bw_lenS (hS r (by omega)) ?_
        rw [len_tx]
        walk_at "go"
        have e0 : (7 * (r.length : Int) - kk) % 14 = 0 := by omega
        rw [e0]
        exact .neS rfl rfl
      refine db_nil ?_
      walk_at "go"
      refine ⟨8, rfl, ⟨by decide, by decide⟩, ?_⟩
      rintro _ ⟨c1, rfl, hc10, hc11⟩
      walk_at "go"
      refine ⟨100, rfl, ⟨by decide, by decide⟩, ?_⟩
      rintro _ ⟨c2, rfl, hc20, hc21⟩
      walk_at "go"
      refine ⟨100, rfl, ⟨by decide, by decide⟩, ?_⟩
      rintro _ ⟨c3, rfl, hc30, hc31⟩
      walk_at "go"
      refine ⟨_, _, by walk_at "ss", by walk_at "ss", ?_⟩
      obtain ⟨q, hq⟩ : ∃ q : Nat, 1 + c1 = (q : Int) := ⟨(1 + c1).toNat, by omega⟩
      rw [hq]
      have hq8 : q ≤ 8 := by omega
      have hnn : 1 ≤ 1 + c2 ∧ 1 + c2 ≤ 100 := by omega
      have hmm : 1 ≤ 1 + c3 ∧ 1 + c3 ≤ 100 := by omega
      generalize 1 + c2 = cn at hnn
      generalize 1 + c3 = cm at hmm
      have hf2 := fl2_ok hnn hmm
      have hpow := L_pow hnn hmm q
      have t0 : atI [Da.tup [sg 97, .int cn], .tup [sg 98, .int cm]] 0 = some (.tup [sg 97, .int cn]) := at_zero _ _
      have t1 : atI [Da.tup [sg 97, .int cn], .tup [sg 98, .int cm]] 1 = some (.tup [sg 98, .int cm]) := atI_nat (xs := [Da.tup [sg 97, .int cn], .tup [sg 98, .int cm]]) (j := 1) rfl
      have u0 : atI [sg 97, Da.int cn] 1 = some (.int cn) := atI_nat (xs := [sg 97, Da.int cn]) (j := 1) rfl
      have u1 : atI [sg 98, Da.int cm] 1 = some (.int cm) := atI_nat (xs := [sg 98, Da.int cm]) (j := 1) rfl
      rw [show Str.ofString "a" = tx [97] by decide, show Str.ofString "b" = tx [98] by decide]
      refine db_cons (ds_if (DT.imp (Φ := fun z => z = false) ?_ fun z hz => ⟨fun e => absurd (hz.symm.trans e) (by decide), fun _ => ?_⟩))
      · have e1 : ∀ c, repN q [c] = List.replicate q c := fun c => by
          unfold repN
          clear hq hq8 hpow
          induction q with
          | zero => rfl
          | succ q ih => rw [List.replicate_succ, List.flatten_cons, ih]; rfl
        have el : ∀ c : Nat, (List.replicate q c).length = q := fun c => List.length_replicate
        have eP : ((List.replicate q 97 ++ [98]) ++ List.replicate q 65) ++ [66] = powR q := by simp [powR]
        walk_at "go"
        refine .str (r := [97]) (n := q) (by omega) (by decide) ?_
        rw [e1]
        walk_at "go"
        rotate_left
        · simp only [len_tx, el, List.length_cons, List.length_nil]
          exact sl1 (by omega)
        rw [app_tx, show Str.ofString "A" = tx [65] by decide]
        refine .str (r := [65]) (n := q) (by omega) (by decide) ?_
        rw [e1]
        walk_at "go"
        rotate_left
        · simp only [len_tx, el, List.length_append, List.length_cons, List.length_nil]
          exact sl1 (by omega)
        · rw [app_tx, show Str.ofString "B" = tx [66] by decide]
          simp only [len_tx, el, List.length_append, List.length_cons, List.length_nil]
          exact sl1 (by omega)
        rw [app_tx, show Str.ofString "B" = tx [66] by decide, app_tx, eP]
        have hpr : RowOf (fl2 cn cm) (powR q) := fun c hc => by
          unfold powR at hc
          simp only [List.mem_append, List.mem_cons, List.mem_replicate, List.not_mem_nil, or_false] at hc
          rcases hc with ⟨_, rfl⟩ | rfl | ⟨_, rfl⟩ | rfl <;> (show _ ∈ [97, 98, 65, 66]; decide)
        refine ⟨(fl2 cn cm, powR q), rfl, ⟨hf2, hpr, by show (powR q).length ≤ 300; simp only [powR, List.length_append, List.length_cons, List.length_nil, el]; omega⟩, ?_⟩
        rintro _ hz
        have hz : _ = encO (L (wF (fl2 cn cm)) (powR q)) := hz
        rw [hpow] at hz
        subst hz
        walk_at "go"
        refine .tup t0 ?_
        walk_at "go"
        refine .tup u0 ?_
        walk_at "go"
        rotate_left
        · exact .inl (.inl ⟨by omega, by omega⟩)
        refine .tup t1 ?_
        walk_at "go"
        refine .tup u1 ?_
        walk_at "go"
        refine bw_min S ?_
        walk_at "go"
        exact neI rfl rfl
      refine db_nil ?_
      walk_at "go"
      exact ⟨_, _, _, _, _, _, _, _, _, _, _, _, _, _, rfl⟩
  · rintro δ' ⟨a1, a2, a3, a4, a5, a6, a7, a8, a9, a10, a11, a12, a13, a14, rfl⟩
    walk_at "go"
    rfl
end

theorem ends {l : PySem.W.OpenLaw} {w : World} {K : PySem.W.Frag} {h : Heap} {mg : Str → Option Value} {fa : Addr} (X : K.In h) (G : h.Ns mainGlobals mg) (hfa : mg "law" = some (.ref fa))
    {f0 : Addr} {od0 an0 : Option Addr} {sl0 : Array (Option Value)} {oc0 kV0 dc0 pm0 cd0 ct0 : Value}
    {f1 : Addr} {od1 an1 : Option Addr} {sl1 : Array (Option Value)} {oc1 kV1 dc1 pm1 cd1 ct1 : Value}
    {f2 : Addr} {od2 an2 : Option Addr} {sl2 : Array (Option Value)} {oc2 kV2 dc2 pm2 cd2 ct2 : Value}
    {f3 : Addr} {od3 an3 : Option Addr} {sl3 : Array (Option Value)} {oc3 kV3 dc3 pm3 cd3 ct3 : Value}
    {f4 : Addr} {od4 an4 : Option Addr} {sl4 : Array (Option Value)} {oc4 kV4 dc4 pm4 cd4 ct4 : Value}
    {f5 : Addr} {od5 an5 : Option Addr} {sl5 : Array (Option Value)} {oc5 kV5 dc5 pm5 cd5 ct5 : Value}
    {f6 : Addr} {od6 an6 : Option Addr} {sl6 : Array (Option Value)} {oc6 kV6 dc6 pm6 cd6 ct6 : Value}
    {f7 : Addr} {od7 an7 : Option Addr} {sl7 : Array (Option Value)} {oc7 kV7 dc7 pm7 cd7 ct7 : Value}
    {f8 : Addr} {od8 an8 : Option Addr} {sl8 : Array (Option Value)} {oc8 kV8 dc8 pm8 cd8 ct8 : Value}
    {f9 : Addr} {od9 an9 : Option Addr} {sl9 : Array (Option Value)} {oc9 kV9 dc9 pm9 cd9 ct9 : Value}
    {f10 : Addr} {od10 an10 : Option Addr} {sl10 : Array (Option Value)} {oc10 kV10 dc10 pm10 cd10 ct10 : Value}
    {f11 : Addr} {od11 an11 : Option Addr} {sl11 : Array (Option Value)} {oc11 kV11 dc11 pm11 cd11 ct11 : Value}
    {f12 : Addr} {od12 an12 : Option Addr} {sl12 : Array (Option Value)} {oc12 kV12 dc12 pm12 cd12 ct12 : Value}
    {f13 : Addr} {od13 an13 : Option Addr} {sl13 : Array (Option Value)} {oc13 kV13 dc13 pm13 cd13 ct13 : Value}
    {f14 : Addr} {od14 an14 : Option Addr} {sl14 : Array (Option Value)} {oc14 kV14 dc14 pm14 cd14 ct14 : Value}
    {f15 : Addr} {od15 an15 : Option Addr} {sl15 : Array (Option Value)} {oc15 kV15 dc15 pm15 cd15 ct15 : Value}
    {f16 : Addr} {od16 an16 : Option Addr} {sl16 : Array (Option Value)} {oc16 kV16 dc16 pm16 cd16 ct16 : Value}
    {f17 : Addr} {od17 an17 : Option Addr} {sl17 : Array (Option Value)} {oc17 kV17 dc17 pm17 cd17 ct17 : Value}
    {f18 : Addr} {od18 an18 : Option Addr} {sl18 : Array (Option Value)} {oc18 kV18 dc18 pm18 cd18 ct18 : Value}
    {f19 : Addr} {od19 an19 : Option Addr} {sl19 : Array (Option Value)} {oc19 kV19 dc19 pm19 cd19 ct19 : Value}
    {f20 : Addr} {od20 an20 : Option Addr} {sl20 : Array (Option Value)} {oc20 kV20 dc20 pm20 cd20 ct20 : Value}
    {t0 : Tok} (g0 : PySem.W.nsIn K mainGlobals "LETTERS" = some (some (.str lettersS t0)))
    {t1 : Tok} (g1 : PySem.W.nsIn K mainGlobals "GREAT" = some (some (.str greatS t1)))
    (a0 : PySem.W.nsIn K mainGlobals "_law_draws" = some (some (.ref f0))) (l0 : K.lookup f0 = some ⟨oc0, od0, .func (PySem.W.fnOf "_law_draws" "_law_draws" (defArgs s_ldraws) (defBody s_ldraws) (defScope s_ldraws) .none kV0 dc0 pm0 an0 cd0 ct0), sl0⟩) (c0 : PySem.W.codeIn K cd0 "_law_draws" = true) (k0 : PySem.W.keepIn K (.ref f0) = true)
    (a1 : PySem.W.nsIn K mainGlobals "_law_draw" = some (some (.ref f1))) (l1 : K.lookup f1 = some ⟨oc1, od1, .func (PySem.W.fnOf "_law_draw" "_law_draw" (defArgs s_ldraw) (defBody s_ldraw) (defScope s_ldraw) .none kV1 dc1 pm1 an1 cd1 ct1), sl1⟩) (c1 : PySem.W.codeIn K cd1 "_law_draw" = true) (k1 : PySem.W.keepIn K (.ref f1) = true)
    (a2 : PySem.W.nsIn K mainGlobals "_law_of" = some (some (.ref f2))) (l2 : K.lookup f2 = some ⟨oc2, od2, .func (PySem.W.fnOf "_law_of" "_law_of" (defArgs s_lof) (defBody s_lof) (defScope s_lof) .none kV2 dc2 pm2 an2 cd2 ct2), sl2⟩) (c2 : PySem.W.codeIn K cd2 "_law_of" = true) (k2 : PySem.W.keepIn K (.ref f2) = true)
    (a3 : PySem.W.nsIn K mainGlobals "_law_floor" = some (some (.ref f3))) (l3 : K.lookup f3 = some ⟨oc3, od3, .func (PySem.W.fnOf "_law_floor" "_law_floor" (defArgs s_lfloor) (defBody s_lfloor) (defScope s_lfloor) .none kV3 dc3 pm3 an3 cd3 ct3), sl3⟩) (c3 : PySem.W.codeIn K cd3 "_law_floor" = true) (k3 : PySem.W.keepIn K (.ref f3) = true)
    (a4 : PySem.W.nsIn K mainGlobals "_law_turns" = some (some (.ref f4))) (l4 : K.lookup f4 = some ⟨oc4, od4, .func (PySem.W.fnOf "_law_turns" "_law_turns" (defArgs s_lturns) (defBody s_lturns) (defScope s_lturns) .none kV4 dc4 pm4 an4 cd4 ct4), sl4⟩) (c4 : PySem.W.codeIn K cd4 "_law_turns" = true) (k4 : PySem.W.keepIn K (.ref f4) = true)
    (a5 : PySem.W.nsIn K mainGlobals "_law_undoes" = some (some (.ref f5))) (l5 : K.lookup f5 = some ⟨oc5, od5, .func (PySem.W.fnOf "_law_undoes" "_law_undoes" (defArgs s_lundoes) (defBody s_lundoes) (defScope s_lundoes) .none kV5 dc5 pm5 an5 cd5 ct5), sl5⟩) (c5 : PySem.W.codeIn K cd5 "_law_undoes" = true) (k5 : PySem.W.keepIn K (.ref f5) = true)
    (a6 : PySem.W.nsIn K mainGlobals "_law_row" = some (some (.ref f6))) (l6 : K.lookup f6 = some ⟨oc6, od6, .func (PySem.W.fnOf "_law_row" "_law_row" (defArgs s_lrow) (defBody s_lrow) (defScope s_lrow) .none kV6 dc6 pm6 an6 cd6 ct6), sl6⟩) (c6 : PySem.W.codeIn K cd6 "_law_row" = true) (k6 : PySem.W.keepIn K (.ref f6) = true)
    (a7 : PySem.W.nsIn K mainGlobals "undoes" = some (some (.ref f7))) (l7 : K.lookup f7 = some ⟨oc7, od7, .func (PySem.W.fnOf "undoes" "undoes" (defArgs s_undoes) (defBody s_undoes) (defScope s_undoes) .none kV7 dc7 pm7 an7 cd7 ct7), sl7⟩) (c7 : PySem.W.codeIn K cd7 "undoes" = true) (k7 : PySem.W.keepIn K (.ref f7) = true)
    (a8 : PySem.W.nsIn K mainGlobals "costs_of" = some (some (.ref f8))) (l8 : K.lookup f8 = some ⟨oc8, od8, .func (PySem.W.fnOf "costs_of" "costs_of" (defArgs s_costs_of) (defBody s_costs_of) (defScope s_costs_of) .none kV8 dc8 pm8 an8 cd8 ct8), sl8⟩) (c8 : PySem.W.codeIn K cd8 "costs_of" = true) (k8 : PySem.W.keepIn K (.ref f8) = true)
    (a9 : PySem.W.nsIn K mainGlobals "plus" = some (some (.ref f9))) (l9 : K.lookup f9 = some ⟨oc9, od9, .func (PySem.W.fnOf "plus" "plus" (defArgs s_plus) (defBody s_plus) (defScope s_plus) .none kV9 dc9 pm9 an9 cd9 ct9), sl9⟩) (c9 : PySem.W.codeIn K cd9 "plus" = true) (k9 : PySem.W.keepIn K (.ref f9) = true)
    (a10 : PySem.W.nsIn K mainGlobals "ways" = some (some (.ref f10))) (l10 : K.lookup f10 = some ⟨oc10, od10, .func (PySem.W.fnOf "ways" "ways" (defArgs s_ways) (defBody s_ways) (defScope s_ways) .none kV10 dc10 pm10 an10 cd10 ct10), sl10⟩) (c10 : PySem.W.codeIn K cd10 "ways" = true) (k10 : PySem.W.keepIn K (.ref f10) = true)
    (a11 : PySem.W.nsIn K mainGlobals "best_table" = some (some (.ref f11))) (l11 : K.lookup f11 = some ⟨oc11, od11, .func (PySem.W.fnOf "best_table" "best_table" (defArgs s_best_table) (defBody s_best_table) (defScope s_best_table) .none kV11 dc11 pm11 an11 cd11 ct11), sl11⟩) (c11 : PySem.W.codeIn K cd11 "best_table" = true) (k11 : PySem.W.keepIn K (.ref f11) = true)
    (a12 : PySem.W.nsIn K mainGlobals "least" = some (some (.ref f12))) (l12 : K.lookup f12 = some ⟨oc12, od12, .func (PySem.W.fnOf "least" "least" (defArgs s_least) (defBody s_least) (defScope s_least) .none kV12 dc12 pm12 an12 cd12 ct12), sl12⟩) (c12 : PySem.W.codeIn K cd12 "least" = true) (k12 : PySem.W.keepIn K (.ref f12) = true)
    (a13 : PySem.W.nsIn K mainGlobals "back" = some (some (.ref f13))) (l13 : K.lookup f13 = some ⟨oc13, od13, .func (PySem.W.fnOf "back" "back" (defArgs s_back) (defBody s_back) (defScope s_back) .none kV13 dc13 pm13 an13 cd13 ct13), sl13⟩) (c13 : PySem.W.codeIn K cd13 "back" = true) (k13 : PySem.W.keepIn K (.ref f13) = true)
    (a14 : PySem.W.nsIn K mainGlobals "tight" = some (some (.ref f14))) (l14 : K.lookup f14 = some ⟨oc14, od14, .func (PySem.W.fnOf "tight" "tight" (defArgs s_tight) (defBody s_tight) (defScope s_tight) .none kV14 dc14 pm14 an14 cd14 ct14), sl14⟩) (c14 : PySem.W.codeIn K cd14 "tight" = true) (k14 : PySem.W.keepIn K (.ref f14) = true)
    (a15 : PySem.W.nsIn K mainGlobals "_law_called" = some (some (.ref f15))) (l15 : K.lookup f15 = some ⟨oc15, od15, .func (PySem.W.fnOf "_law_called" "_law_called" (defArgs s_lcalled) (defBody s_lcalled) (defScope s_lcalled) .none kV15 dc15 pm15 an15 cd15 ct15), sl15⟩) (c15 : PySem.W.codeIn K cd15 "_law_called" = true) (k15 : PySem.W.keepIn K (.ref f15) = true)
    (a16 : PySem.W.nsIn K mainGlobals "_law_same_costs" = some (some (.ref f16))) (l16 : K.lookup f16 = some ⟨oc16, od16, .func (PySem.W.fnOf "_law_same_costs" "_law_same_costs" (defArgs s_lsame_costs) (defBody s_lsame_costs) (defScope s_lsame_costs) .none kV16 dc16 pm16 an16 cd16 ct16), sl16⟩) (c16 : PySem.W.codeIn K cd16 "_law_same_costs" = true) (k16 : PySem.W.keepIn K (.ref f16) = true)
    (a17 : PySem.W.nsIn K mainGlobals "_law_below" = some (some (.ref f17))) (l17 : K.lookup f17 = some ⟨oc17, od17, .func (PySem.W.fnOf "_law_below" "_law_below" (defArgs s_lbelow) (defBody s_lbelow) (defScope s_lbelow) .none kV17 dc17 pm17 an17 cd17 ct17), sl17⟩) (c17 : PySem.W.codeIn K cd17 "_law_below" = true) (k17 : PySem.W.keepIn K (.ref f17) = true)
    (a18 : PySem.W.nsIn K mainGlobals "_law_plus" = some (some (.ref f18))) (l18 : K.lookup f18 = some ⟨oc18, od18, .func (PySem.W.fnOf "_law_plus" "_law_plus" (defArgs s_lplus) (defBody s_lplus) (defScope s_lplus) .none kV18 dc18 pm18 an18 cd18 ct18), sl18⟩) (c18 : PySem.W.codeIn K cd18 "_law_plus" = true) (k18 : PySem.W.keepIn K (.ref f18) = true)
    (a19 : PySem.W.nsIn K mainGlobals "wound" = some (some (.ref f19))) (l19 : K.lookup f19 = some ⟨oc19, od19, .func (PySem.W.fnOf "wound" "wound" (defArgs s_wound) (defBody s_wound) (defScope s_wound) .none kV19 dc19 pm19 an19 cd19 ct19), sl19⟩) (c19 : PySem.W.codeIn K cd19 "wound" = true) (k19 : PySem.W.keepIn K (.ref f19) = true)
    (a20 : PySem.W.nsIn K mainGlobals "law" = some (some (.ref f20))) (l20 : K.lookup f20 = some ⟨oc20, od20, .func (PySem.W.fnOf "law" "law" (defArgs s_law) (defBody s_law) (defScope s_law) .none kV20 dc20 pm20 an20 cd20 ct20), sl20⟩) (c20 : PySem.W.codeIn K cd20 "law" = true) (k20 : PySem.W.keepIn K (.ref f20) = true)
    (z0 : PySem.W.nsIn K mainGlobals "len" = some none)
    (z1 : PySem.W.nsIn K mainGlobals "range" = some none)
    (z2 : PySem.W.nsIn K mainGlobals "min" = some none)
    (z3 : PySem.W.nsIn K mainGlobals "max" = some none)
    (z4 : PySem.W.nsIn K mainGlobals "tuple" = some none)
    (z5 : PySem.W.nsIn K mainGlobals "int" = some none)
    (z6 : PySem.W.nsIn K mainGlobals "enumerate" = some none)
    (z7 : PySem.W.nsIn K mainGlobals "zip" = some none)
    (z8 : PySem.W.nsIn K mainGlobals "abs" = some none)
    : ∃ fd : FuncData, (∀ (s : Shared) (v : Value), BindsTo s fd ⟨[v], []⟩ [("_law_script", v)]) ∧ ∀ base : Heap, K.In base → base.Ns mainGlobals mg → FnOk l.prog w K mg base CX0 6 fa fd ["_law_script"]
        (fun vs H Q _ => ∃ (a : Addr) (ns : List Int), vs = [.ref a] ∧ SqL K H a (ns.map V.int) ∧ ns.length ≤ 63 ∧ ∀ H1, Q (.bl true) H1) := by
  have e := hfa.symm.trans (PySem.W.mg_of X G a20)
  cases e
  have F0 := fun_mk (st := s_ldraws) l0 c0 k0
  have b0 := F0.binds (ps := ["_law_script", "_law_k"]) fun _ _ _ _ _ _ us hl => match us, hl with | [_, _], _ => rfl
  have m0 := PySem.W.mg_of X G a0
  have F1 := fun_mk (st := s_ldraw) l1 c1 k1
  have b1 := F1.binds (ps := ["_law_draws_here", "_law_many"]) fun _ _ _ _ _ _ us hl => match us, hl with | [_, _], _ => rfl
  have m1 := PySem.W.mg_of X G a1
  have F2 := fun_mk (st := s_lof) l2 c2 k2
  have b2 := F2.binds (ps := ["_law_draws_here", "_law_some"]) fun _ _ _ _ _ _ us hl => match us, hl with | [_, _], _ => rfl
  have m2 := PySem.W.mg_of X G a2
  have F3 := fun_mk (st := s_lfloor) l3 c3 k3
  have b3 := F3.binds (ps := ["_law_draws_here", "_law_many"]) fun _ _ _ _ _ _ us hl => match us, hl with | [_, _], _ => rfl
  have m3 := PySem.W.mg_of X G a3
  have F4 := fun_mk (st := s_lturns) l4 c4 k4
  have b4 := F4.binds (ps := ["_law_floor_here"]) fun _ _ _ _ _ _ us hl => match us, hl with | [_], _ => rfl
  have m4 := PySem.W.mg_of X G a4
  have F5 := fun_mk (st := s_lundoes) l5 c5 k5
  have b5 := F5.binds (ps := ["_law_turn"]) fun _ _ _ _ _ _ us hl => match us, hl with | [_], _ => rfl
  have m5 := PySem.W.mg_of X G a5
  have F6 := fun_mk (st := s_lrow) l6 c6 k6
  have b6 := F6.binds (ps := ["_law_draws_here", "_law_floor_here", "_law_many"]) fun _ _ _ _ _ _ us hl => match us, hl with | [_, _, _], _ => rfl
  have m6 := PySem.W.mg_of X G a6
  have F7 := fun_mk (st := s_undoes) l7 c7 k7
  have b7 := F7.binds (ps := ["turn"]) fun _ _ _ _ _ _ us hl => match us, hl with | [_], _ => rfl
  have m7 := PySem.W.mg_of X G a7
  have F8 := fun_mk (st := s_costs_of) l8 c8 k8
  have b8 := F8.binds (ps := ["floor"]) fun _ _ _ _ _ _ us hl => match us, hl with | [_], _ => rfl
  have m8 := PySem.W.mg_of X G a8
  have F9 := fun_mk (st := s_plus) l9 c9 k9
  have b9 := F9.binds (ps := ["one", "other"]) fun _ _ _ _ _ _ us hl => match us, hl with | [_, _], _ => rfl
  have m9 := PySem.W.mg_of X G a9
  have F10 := fun_mk (st := s_ways) l10 c10 k10
  have b10 := F10.binds (ps := ["row", "costs", "table", "begin", "long"]) fun _ _ _ _ _ _ us hl => match us, hl with | [_, _, _, _, _], _ => rfl
  have m10 := PySem.W.mg_of X G a10
  have F11 := fun_mk (st := s_best_table) l11 c11 k11
  have b11 := F11.binds (ps := ["floor", "row"]) fun _ _ _ _ _ _ us hl => match us, hl with | [_, _], _ => rfl
  have m11 := PySem.W.mg_of X G a11
  have F12 := fun_mk (st := s_least) l12 c12 k12
  have b12 := F12.binds (ps := ["floor", "row"]) fun _ _ _ _ _ _ us hl => match us, hl with | [_, _], _ => rfl
  have m12 := PySem.W.mg_of X G a12
  have F13 := fun_mk (st := s_back) l13 c13 k13
  have b13 := F13.binds (ps := ["row"]) fun _ _ _ _ _ _ us hl => match us, hl with | [_], _ => rfl
  have m13 := PySem.W.mg_of X G a13
  have F14 := fun_mk (st := s_tight) l14 c14 k14
  have b14 := F14.binds (ps := ["row"]) fun _ _ _ _ _ _ us hl => match us, hl with | [_], _ => rfl
  have m14 := PySem.W.mg_of X G a14
  have F15 := fun_mk (st := s_lcalled) l15 c15 k15
  have b15 := F15.binds (ps := ["_law_row_here", "_law_floor_here"]) fun _ _ _ _ _ _ us hl => match us, hl with | [_, _], _ => rfl
  have m15 := PySem.W.mg_of X G a15
  have F16 := fun_mk (st := s_lsame_costs) l16 c16 k16
  have b16 := F16.binds (ps := ["_law_draws_here", "_law_floor_here", "_law_row_here", "_law_due"]) fun _ _ _ _ _ _ us hl => match us, hl with | [_, _, _, _], _ => rfl
  have m16 := PySem.W.mg_of X G a16
  have F17 := fun_mk (st := s_lbelow) l17 c17 k17
  have b17 := F17.binds (ps := ["_law_one", "_law_other"]) fun _ _ _ _ _ _ us hl => match us, hl with | [_, _], _ => rfl
  have m17 := PySem.W.mg_of X G a17
  have F18 := fun_mk (st := s_lplus) l18 c18 k18
  have b18 := F18.binds (ps := ["_law_one", "_law_other"]) fun _ _ _ _ _ _ us hl => match us, hl with | [_, _], _ => rfl
  have m18 := PySem.W.mg_of X G a18
  have F19 := fun_mk (st := s_wound) l19 c19 k19
  have b19 := F19.binds (ps := ["floor", "row"]) fun _ _ _ _ _ _ us hl => match us, hl with | [_, _], _ => rfl
  have m19 := PySem.W.mg_of X G a19
  have F20 := fun_mk (st := s_law) l20 c20 k20
  have n_len := PySem.W.mg_none_of X G z0
  have n_range := PySem.W.mg_none_of X G z1
  have n_min := PySem.W.mg_none_of X G z2
  have n_max := PySem.W.mg_none_of X G z3
  have n_tuple := PySem.W.mg_none_of X G z4
  have n_int := PySem.W.mg_none_of X G z5
  have n_enumerate := PySem.W.mg_none_of X G z6
  have n_zip := PySem.W.mg_none_of X G z7
  have n_abs := PySem.W.mg_none_of X G z8
  have s_LETTERS := PySem.W.mg_of X G g0
  have s_GREAT := PySem.W.mg_of X G g1
  refine ⟨PySem.W.fnOf "law" "law" (defArgs s_law) (defBody s_law) (defScope s_law) .none kV20 dc20 pm20 an20 cd20 ct20, fun s v => .of_eq rfl, fun base _ _ => ?_⟩
  let M : Md := ⟨l.prog, w, K, mg, base⟩
  have k_cDs := ok_ldraws (M := M) (k := 0) F0  n_len n_int
  have cDs : DrawsC M 1 := cal_mk k_cDs m0 k0 b0
  have k_cD := ok_ldraw (M := M) (k := 0) F1  
  have cD : DrawC M 1 := cal_mk k_cD m1 k1 b1
  have k_cO := ok_lof (M := M) (k := 1) F2 (cD.mono (by decide)) n_len
  have cO : OfC M 2 := cal_mk k_cO m2 k2 b2
  have k_cF := ok_lfloor (M := M) (k := 2) F3 (cD.mono (by decide)) (cO.mono (by decide)) n_tuple
  have cF : FloorC M 3 := cal_mk k_cF m3 k3 b3
  have k_cTn := ok_lturns (M := M) (k := 0) F4  
  have cTn : TurnsC M 1 := cal_mk k_cTn m4 k4 b4
  have k_cLU := ok_lundoes (M := M) (k := 0) F5  
  have cLU : LUndoesC M 1 := cal_mk k_cLU m5 k5 b5
  have k_cR := ok_lrow (M := M) (k := 2) F6 (cD.mono (by decide)) (cO.mono (by decide)) (cTn.mono (by decide)) (cLU.mono (by decide)) n_len n_range
  have cR : RowC M 3 := cal_mk k_cR m6 k6 b6
  have k_cU := ok_undoes (M := M) (k := 0) F7  ⟨_, s_LETTERS⟩ ⟨_, s_GREAT⟩
  have cU : UndoesC M 1 := cal_mk k_cU m7 k7 b7
  have k_cC := ok_costs (M := M) (k := 1) F8 (cU.mono (by decide)) 
  have cC : CostsC M 2 := cal_mk k_cC m8 k8 b8
  have k_cP := ok_plus (M := M) (k := 0) F9  
  have cP : PlusC M 1 := cal_mk k_cP m9 k9 b9
  have k_cW := ok_ways (M := M) (k := 1) F10 (cU.mono (by decide)) (cP.mono (by decide)) n_range
  have cW : WaysC M 2 := cal_mk k_cW m10 k10 b10
  have k_cBt := ok_best (M := M) (k := 2) F11 (cC.mono (by decide)) (cW.mono (by decide)) n_len n_range n_min
  have cBt : BestC M 3 := cal_mk k_cBt m11 k11 b11
  have k_cLt := ok_least (M := M) (k := 3) F12 (cBt.mono (by decide)) n_len
  have cLt : LeastC M 4 := cal_mk k_cLt m12 k12 b12
  have k_cB := ok_back (M := M) (k := 1) F13 (cU.mono (by decide)) 
  have cB : BackC M 2 := cal_mk k_cB m13 k13 b13
  have k_cT := ok_tight (M := M) (k := 1) F14 (cU.mono (by decide)) 
  have cT : TightC M 2 := cal_mk k_cT m14 k14 b14
  have k_cLCa := ok_lcalled (M := M) (k := 0) F15  
  have cLCa : CalledC M 1 := cal_mk k_cLCa m15 k15 b15
  have k_cLSa := ok_lsame (M := M) (k := 4) F16 (cD.mono (by decide)) (cO.mono (by decide)) (cTn.mono (by decide)) (cB.mono (by decide)) (cLU.mono (by decide)) (cT.mono (by decide)) (cLt.mono (by decide)) (cLCa.mono (by decide)) n_len n_tuple n_enumerate n_min
  have cLSa : SameC M 5 := cal_mk k_cLSa m16 k16 b16
  have k_lB := ok_lbelow (M := M) (k := 0) F17  
  have lB : LBelowC M 1 := cal_mk k_lB m17 k17 b17
  have k_lP := ok_lplus (M := M) (k := 0) F18  
  have lP : LPlusC M 1 := cal_mk k_lP m18 k18 b18
  have k_cWn := ok_wound (M := M) (k := 1) F19 (cU.mono (by decide)) n_tuple
  have cWn : WoundC M 2 := cal_mk k_cWn m19 k19 b19
  exact law_imp (α := Unit) (M := M) (ok_law (M := M) (k := 5) F20 (cDs.mono (by decide)) (cD.mono (by decide)) (cF.mono (by decide)) (cR.mono (by decide)) (cLt.mono (by decide)) (cLSa.mono (by decide)) (lB.mono (by decide)) (lP.mono (by decide)) (cWn.mono (by decide)) n_len n_range n_min n_max n_tuple n_zip n_abs) fun _ _ h => h
end My
open PySem PySem.W PyProof.Rows
set_option maxHeartbeats 0 in
theorem PySem.Challenge.cw_liftcord_k21_whole_what_changes_no_cost_holds : PySem.Challenge.rw_liftcord_k21_whole_what_changes_no_cost.Holds := by
  w_on; o_law; k_head; (case hw => w_witness2)
  k_fill
  refine L2.walk_of (l := PySem.Challenge.rw_liftcord_k21_whole_what_changes_no_cost) (n := 63) (k := 6) (x := "_law_script") (CX := fun _ => L2.CX0) (sp := fun w => fun vs H Q _ => ∃ (a : Addr) (ns : List Int), vs = [.ref a] ∧ L2.SqL _ H a (ns.map L2.V.int) ∧ ns.length ≤ 63 ∧ ∀ H1, Q (.bl true) H1) rfl (by decide) rfl ⟨rfl, by decide, by decide⟩ (fun w h Y => PySem.W.kIn_of Y) ?F (fun _ _ a ns hl _ hS => ⟨a, ns, rfl, hS, hl, fun _ => rfl⟩) (fun _ _ _ _ _ h => h)
  case F =>
    intro w mg fa h KX G hmg
    refine' My.ends KX G hmg ?my_g0 ?my_g1 ?my_a0 ?my_l0 ?my_c0 ?my_k0 ?my_a1 ?my_l1 ?my_c1 ?my_k1 ?my_a2 ?my_l2 ?my_c2 ?my_k2 ?my_a3 ?my_l3 ?my_c3 ?my_k3 ?my_a4 ?my_l4 ?my_c4 ?my_k4 ?my_a5 ?my_l5 ?my_c5 ?my_k5 ?my_a6 ?my_l6 ?my_c6 ?my_k6 ?my_a7 ?my_l7 ?my_c7 ?my_k7 ?my_a8 ?my_l8 ?my_c8 ?my_k8 ?my_a9 ?my_l9 ?my_c9 ?my_k9 ?my_a10 ?my_l10 ?my_c10 ?my_k10 ?my_a11 ?my_l11 ?my_c11 ?my_k11 ?my_a12 ?my_l12 ?my_c12 ?my_k12 ?my_a13 ?my_l13 ?my_c13 ?my_k13 ?my_a14 ?my_l14 ?my_c14 ?my_k14 ?my_a15 ?my_l15 ?my_c15 ?my_k15 ?my_a16 ?my_l16 ?my_c16 ?my_k16 ?my_a17 ?my_l17 ?my_c17 ?my_k17 ?my_a18 ?my_l18 ?my_c18 ?my_k18 ?my_a19 ?my_l19 ?my_c19 ?my_k19 ?my_a20 ?my_l20 ?my_c20 ?my_k20 ?my_z0 ?my_z1 ?my_z2 ?my_z3 ?my_z4 ?my_z5 ?my_z6 ?my_z7 ?my_z8
    (case my_g0 => k_is)
    (case my_g1 => k_is)
    (case my_a0 => k_is)
    (case my_l0 => k_is)
    (case my_c0 => k_is)
    (case my_k0 => k_is)
    (case my_a1 => k_is)
    (case my_l1 => k_is)
    (case my_c1 => k_is)
    (case my_k1 => k_is)
    (case my_a2 => k_is)
    (case my_l2 => k_is)
    (case my_c2 => k_is)
    (case my_k2 => k_is)
    (case my_a3 => k_is)
    (case my_l3 => k_is)
    (case my_c3 => k_is)
    (case my_k3 => k_is)
    (case my_a4 => k_is)
    (case my_l4 => k_is)
    (case my_c4 => k_is)
    (case my_k4 => k_is)
    (case my_a5 => k_is)
    (case my_l5 => k_is)
    (case my_c5 => k_is)
    (case my_k5 => k_is)
    (case my_a6 => k_is)
    (case my_l6 => k_is)
    (case my_c6 => k_is)
    (case my_k6 => k_is)
    (case my_a7 => k_is)
    (case my_l7 => k_is)
    (case my_c7 => k_is)
    (case my_k7 => k_is)
    (case my_a8 => k_is)
    (case my_l8 => k_is)
    (case my_c8 => k_is)
    (case my_k8 => k_is)
    (case my_a9 => k_is)
    (case my_l9 => k_is)
    (case my_c9 => k_is)
    (case my_k9 => k_is)
    (case my_a10 => k_is)
    (case my_l10 => k_is)
    (case my_c10 => k_is)
    (case my_k10 => k_is)
    (case my_a11 => k_is)
    (case my_l11 => k_is)
    (case my_c11 => k_is)
    (case my_k11 => k_is)
    (case my_a12 => k_is)
    (case my_l12 => k_is)
    (case my_c12 => k_is)
    (case my_k12 => k_is)
    (case my_a13 => k_is)
    (case my_l13 => k_is)
    (case my_c13 => k_is)
    (case my_k13 => k_is)
    (case my_a14 => k_is)
    (case my_l14 => k_is)
    (case my_c14 => k_is)
    (case my_k14 => k_is)
    (case my_a15 => k_is)
    (case my_l15 => k_is)
    (case my_c15 => k_is)
    (case my_k15 => k_is)
    (case my_a16 => k_is)
    (case my_l16 => k_is)
    (case my_c16 => k_is)
    (case my_k16 => k_is)
    (case my_a17 => k_is)
    (case my_l17 => k_is)
    (case my_c17 => k_is)
    (case my_k17 => k_is)
    (case my_a18 => k_is)
    (case my_l18 => k_is)
    (case my_c18 => k_is)
    (case my_k18 => k_is)
    (case my_a19 => k_is)
    (case my_l19 => k_is)
    (case my_c19 => k_is)
    (case my_k19 => k_is)
    (case my_a20 => k_is)
    (case my_l20 => k_is)
    (case my_c20 => k_is)
    (case my_k20 => k_is)
    (case my_z0 => k_is)
    (case my_z1 => k_is)
    (case my_z2 => k_is)
    (case my_z3 => k_is)
    (case my_z4 => k_is)
    (case my_z5 => k_is)
    (case my_z6 => k_is)
    (case my_z7 => k_is)
    (case my_z8 => k_is)
