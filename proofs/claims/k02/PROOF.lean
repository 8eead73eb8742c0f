import PyProof.Rows.All
import Wide.All
import OpenK.AllK
import Wide.FinOn
import HandS.ForMost
import HandS.Walk
import HandS.IsInst
import HandS.Flow
import HandS.Replace
import HandS.TupAny
import HandS.Style
import HandS.Zip
import HandS.Wide
import KE.GoesNew
import PySem.Challenge.RW_liftcord_k02_whole_drawn_tight_whichever
set_option Elab.async false
set_option linter.all false
set_option maxRecDepth 100000
set_option maxHeartbeats 4000000

/-! DL1: data trees, the stable part of the heap, judgments over data. -/
namespace DL
open PySem PySem.Spec PyProof.Rows L2

/-- data -/
inductive Da where
  | a (v : V) | lst (l : List Da) | tup (l : List Da) | dk (l : List (Key × V)) | dt (l : List (List Key × V)) | drw | scr (ns : List Int)
abbrev tx (l : List Nat) : Str := ⟨l.toArray⟩
abbrev Da.int (i : Int) : Da := .a (.int i)
abbrev Da.bl (b : Bool) : Da := .a (.bl b)
abbrev Da.non : Da := .a .non
abbrev Da.str (x : Str) : Da := .a (.str x)

/-- the list of draws, whatever it holds -/
def Drw (p : Addr) (h : Heap) : Prop := ∃ (n : Nat) (x y : Int) (t u : Tok), h.get? p = some { cls := .type "list", data := .seq #[.int x t, .int y u] n } ∧ 0 ≤ y ∧ y < 2147483648

mutual
inductive Rp (K : PySem.W.Frag) (H : Hp) : Da → V → Prop
  | a (v : V) : Rp K H (.a v) v
  | lst {p : Addr} {vs : List V} {ds : List Da} : H p = some (.lst vs) → RpAll K H ds vs → Rp K H (.lst ds) (.ref p)
  | tup {p : Addr} {vs : List V} {ds : List Da} : H p = some (.tup vs) → RpAll K H ds vs → Rp K H (.tup ds) (.ref p)
  | dk {p : Addr} {kvs : List (Key × V)} : H p = some (.dK kvs) → Rp K H (.dk kvs) (.ref p)
  | dt {p : Addr} {kvs : List (List Key × V)} : H p = some (.dT kvs) → Rp K H (.dt kvs) (.ref p)
  | drw {p : Addr} : H p = some (.ext (Drw p)) → Rp K H .drw (.ref p)
  | scr {p : Addr} {ns : List Int} : SqL K H p (ns.map V.int) → Rp K H (.scr ns) (.ref p)
inductive RpAll (K : PySem.W.Frag) (H : Hp) : List Da → List V → Prop
  | nil : RpAll K H [] []
  | cons {d : Da} {ds : List Da} {v : V} {vs : List V} : Rp K H d v → RpAll K H ds vs → RpAll K H (d :: ds) (v :: vs)
end

section
variable {K : PySem.W.Frag} {H H' : Hp}
theorem rdS {p : Addr} {u : HO} (e : Same H H') (h : Rd H p u) : Rd H' p u := by
  rcases h with h | ⟨o, h⟩
  · exact .inl (e _ _ h)
  · exact .inr ⟨o, e _ _ h⟩
theorem sqlS {p : Addr} {xs : List V} (e : Same H H') (h : SqL K H p xs) : SqL K H' p xs := e.seq h
theorem sqtS {p : Addr} {xs : List V} (e : Same H H') (h : SqT K H p xs) : SqT K H' p xs := by
  rcases h with h | h
  · exact .inl (rdS e h)
  · exact .inr h
mutual
theorem Rp.mono (e : Same H H') : ∀ {d : Da} {v : V}, Rp K H d v → Rp K H' d v
  | _, _, .a v => .a v
  | _, _, .lst h r => .lst (e _ _ h) (RpAll.mono e r)
  | _, _, .tup h r => .tup (e _ _ h) (RpAll.mono e r)
  | _, _, .dk h => .dk (e _ _ h)
  | _, _, .dt h => .dt (e _ _ h)
  | _, _, .drw h => .drw (e _ _ h)
  | _, _, .scr h => .scr (sqlS e h)
theorem RpAll.mono (e : Same H H') : ∀ {ds : List Da} {vs : List V}, RpAll K H ds vs → RpAll K H' ds vs
  | _, _, .nil => .nil
  | _, _, .cons r t => .cons (Rp.mono e r) (RpAll.mono e t)
end
theorem RpAll.len : ∀ {ds : List Da} {vs : List V}, RpAll K H ds vs → ds.length = vs.length
  | _, _, .nil => rfl
  | _, _, .cons _ t => congrArg (· + 1) (RpAll.len t)
theorem RpAll.get : ∀ {ds : List Da} {vs : List V} {i : Nat} {d : Da}, RpAll K H ds vs → ds[i]? = some d → ∃ v, vs[i]? = some v ∧ Rp K H d v
  | _, _, _, _, .nil, e => by simp at e
  | _, _, 0, _, .cons r _, e => by simp at e; subst e; exact ⟨_, rfl, r⟩
  | _, _, i + 1, d, .cons _ t, e => by
    obtain ⟨v, h1, h2⟩ := RpAll.get (i := i) (d := d) t (by simpa using e)
    exact ⟨v, by simpa using h1, h2⟩
theorem RpAll.getV : ∀ {ds : List Da} {vs : List V} {i : Nat} {v : V}, RpAll K H ds vs → vs[i]? = some v → ∃ d, ds[i]? = some d ∧ Rp K H d v
  | _, _, _, _, .nil, e => by simp at e
  | _, _, 0, _, .cons r _, e => by simp at e; subst e; exact ⟨_, rfl, r⟩
  | _, _, i + 1, d, .cons _ t, e => by
    obtain ⟨v, h1, h2⟩ := RpAll.getV (i := i) (v := d) t (by simpa using e)
    exact ⟨v, by simpa using h1, h2⟩
theorem RpAll.app : ∀ {ds es : List Da} {vs ws : List V}, RpAll K H ds vs → RpAll K H es ws → RpAll K H (ds ++ es) (vs ++ ws)
  | _, _, _, _, .nil, s => s
  | _, _, _, _, .cons r t, s => .cons r (RpAll.app t s)
theorem RpAll.take : ∀ {ds : List Da} {vs : List V} (n : Nat), RpAll K H ds vs → RpAll K H (ds.take n) (vs.take n)
  | _, _, 0, _ => by simpa using RpAll.nil
  | _, _, _ + 1, .nil => .nil
  | _, _, n + 1, .cons r t => .cons r (RpAll.take n t)
theorem RpAll.drop : ∀ {ds : List Da} {vs : List V} (n : Nat), RpAll K H ds vs → RpAll K H (ds.drop n) (vs.drop n)
  | _, _, 0, h => by simpa using h
  | _, _, _ + 1, .nil => .nil
  | _, _, n + 1, .cons r t => RpAll.drop n t
theorem RpAll.rev : ∀ {ds : List Da} {vs : List V}, RpAll K H ds vs → RpAll K H ds.reverse vs.reverse
  | _, _, .nil => .nil
  | _, _, .cons r t => by
    rw [List.reverse_cons, List.reverse_cons]
    exact (RpAll.rev t).app (.cons r .nil)
theorem RpAll.dropLast {ds : List Da} {vs : List V} (h : RpAll K H ds vs) : RpAll K H ds.dropLast vs.dropLast := by
  rw [List.dropLast_eq_take, List.dropLast_eq_take, ← h.len]
  exact h.take _
theorem RpAll.set : ∀ {ds : List Da} {vs : List V} (n : Nat) {d : Da} {v : V}, RpAll K H ds vs → Rp K H d v → RpAll K H (ds.set n d) (vs.set n v)
  | _, _, _, _, _, .nil, _ => .nil
  | _, _, 0, _, _, .cons _ t, r => .cons r t
  | _, _, n + 1, _, _, .cons r t, q => .cons r (RpAll.set n t q)
theorem RpAll.atoms : ∀ {xs vs : List V}, RpAll K H (xs.map Da.a) vs → vs = xs
  | [], _, .nil => rfl
  | x :: xs, _, .cons r t => by
    cases r
    rw [RpAll.atoms t]
theorem RpAll.ofAtoms : ∀ (xs : List V), RpAll K H (xs.map Da.a) xs
  | [] => .nil
  | x :: xs => .cons (.a x) (RpAll.ofAtoms xs)
theorem Rp.atom {x v : V} (h : Rp K H (.a x) v) : v = x := by
  cases h
  rfl
theorem Rp.lst_inv {ds : List Da} {v : V} (h : Rp K H (.lst ds) v) : ∃ p vs, v = .ref p ∧ H p = some (.lst vs) ∧ RpAll K H ds vs := by
  cases h with
  | lst h r => exact ⟨_, _, rfl, h, r⟩
theorem Rp.tup_inv {ds : List Da} {v : V} (h : Rp K H (.tup ds) v) : ∃ p vs, v = .ref p ∧ H p = some (.tup vs) ∧ RpAll K H ds vs := by
  cases h with
  | tup h r => exact ⟨_, _, rfl, h, r⟩
theorem Rp.dk_inv {kvs : List (Key × V)} {v : V} (h : Rp K H (.dk kvs) v) : ∃ p, v = .ref p ∧ H p = some (.dK kvs) := by
  cases h with
  | dk h => exact ⟨_, rfl, h⟩
theorem Rp.dt_inv {kvs : List (List Key × V)} {v : V} (h : Rp K H (.dt kvs) v) : ∃ p, v = .ref p ∧ H p = some (.dT kvs) := by
  cases h with
  | dt h => exact ⟨_, rfl, h⟩
theorem Rp.drw_inv {v : V} (h : Rp K H .drw v) : ∃ p, v = .ref p ∧ H p = some (.ext (Drw p)) := by
  cases h with
  | drw h => exact ⟨_, rfl, h⟩
end

/-! ### the stable part of the heap -/
structure Go (Hs H Hs' H' : Hp) : Prop where
  ss : Same Hs Hs'
  hh : Same H H'
  sub : Same Hs' H'
  no : ∀ p, H p ≠ none → Hs p = none → Hs' p = none
section
variable {Hs H Hs1 H1 Hs2 H2 : Hp}
theorem Go.refl (h : Same Hs H) : Go Hs H Hs H := ⟨Same.refl _, Same.refl _, h, fun _ _ h => h⟩
theorem same_ne {H H' : Hp} (e : Same H H') {p : Addr} (h : H p ≠ none) : H' p ≠ none := by
  cases q : H p with
  | none => exact absurd q h
  | some o => rw [e p o q]; exact fun z => nomatch z
theorem Go.trans (a : Go Hs H Hs1 H1) (b : Go Hs1 H1 Hs2 H2) : Go Hs H Hs2 H2 :=
  ⟨a.ss.trans b.ss, a.hh.trans b.hh, b.sub, fun p hp hs => b.no p (same_ne a.hh hp) (a.no p hp hs)⟩
theorem same_upd {H : Hp} {p : Addr} {o : HO} (h : H p = none) : Same H (upd H p o) := fun b x e => by
  rw [upd_ne (ne_of_none e h)]
  exact e
theorem same_upd2 {H H' : Hp} {p : Addr} {o : HO} (e : Same H H') : Same (upd H p o) (upd H' p o) := fun b x q => by
  by_cases hb : b = p
  · subst hb; rw [upd_same] at q ⊢; exact q
  · rw [upd_ne hb] at q ⊢; exact e b x q
/-- a new object, stable -/
theorem Go.new (h : Same Hs H) {p : Addr} {o : HO} (hp : H p = none) : Go Hs H (upd Hs p o) (upd H p o) :=
  ⟨same_upd (h.free hp), same_upd hp, same_upd2 h, fun q hq hs => by
    rw [upd_ne (fun z => by rw [z] at hq; exact hq hp)]
    exact hs⟩
/-- a new object, not stable -/
theorem Go.own (h : Same Hs H) {p : Addr} {o : HO} (hp : H p = none) : Go Hs H Hs (upd H p o) :=
  ⟨Same.refl _, same_upd hp, h.trans (same_upd hp), fun _ _ hs => hs⟩
/-- an object that is not of the stable part, nor of the base, changes -/
theorem Go.mut (g : Go Hs H Hs1 H1) {p : Addr} {o : HO} (hp : H p = none) (hs : Hs1 p = none) : Go Hs H Hs1 (upd H1 p o) :=
  ⟨g.ss, fun b x e => by rw [upd_ne (ne_of_none e hp)]; exact g.hh b x e, fun b x e => by rw [upd_ne (ne_of_none e hs)]; exact g.sub b x e, g.no⟩
/-- .. becomes stable -/
theorem Go.freeze (g : Go Hs H Hs1 H1) {p : Addr} {o : HO} (hp : H p = none) (hs : Hs1 p = none) (h1 : H1 p = some o) : Go Hs H (upd Hs1 p o) H1 :=
  ⟨g.ss.trans (same_upd hs), g.hh, fun b x e => by
    by_cases hb : b = p
    · subst hb; rw [upd_same] at e; rw [h1]; exact e
    · rw [upd_ne hb] at e; exact g.sub b x e, fun q hq hn => by
    rw [upd_ne (fun z => by rw [z] at hq; exact hq hp)]
    exact g.no q hq hn⟩
end

/-! ### slots -/
inductive SD where
  | d (d : Da) | b (d : Da) | ol (l : List Da) | ok (l : List (Key × V)) | ot (l : List (List Key × V))
abbrev Sg := List (Option SD)
def SD.own : SD → Bool
  | .ol _ => true
  | .ok _ => true
  | .ot _ => true
  | _ => false
/-- what stands in a slot: data of the stable part, borrowed data (of the base), an own list or dict -/
def SlotOk (K : PySem.W.Frag) (B Hs H : Hp) : SD → V → Prop
  | .d d, v => Rp K Hs d v
  | .b d, v => Rp K B d v
  | .ol l, v => ∃ p vs, v = .ref p ∧ Hs p = none ∧ H p = some (.lst vs) ∧ RpAll K Hs l vs
  | .ok l, v => ∃ p, v = .ref p ∧ Hs p = none ∧ H p = some (.dK l)
  | .ot l, v => ∃ p, v = .ref p ∧ Hs p = none ∧ H p = some (.dT l)
structure Ok (K : PySem.W.Frag) (Bs B Hs H : Hp) (σ : L2.St) (δ : Sg) : Prop where
  go : Go Bs B Hs H
  slot : ∀ (i : Nat) (s : SD), δ[i]? = some (some s) → ∃ v, σ[i]? = some (some v) ∧ SlotOk K B Hs H s v
  len : σ.length = δ.length
  fr : ∀ (i : Nat) (s : SD) (p : Addr), δ[i]? = some (some s) → s.own = true → σ[i]? = some (some (.ref p)) → B p = none
  ap : ∀ (i j : Nat) (s t : SD) (p : Addr), δ[i]? = some (some s) → δ[j]? = some (some t) → s.own = true → t.own = true → σ[i]? = some (some (.ref p)) → σ[j]? = some (some (.ref p)) → i = j
section
variable {K : PySem.W.Frag} {Bs B Hs H Hs' H' : Hp} {σ : L2.St} {δ : Sg}
theorem Ok.sub (o : Ok K Bs B Hs H σ δ) : Same Hs H := o.go.sub
theorem Ok.mono (o : Ok K Bs B Hs H σ δ) (g : Go Hs H Hs' H') : Ok K Bs B Hs' H' σ δ := by
  refine ⟨o.go.trans g, fun i s e => ?_, o.len, o.fr, o.ap⟩
  obtain ⟨v, h1, h2⟩ := o.slot i s e
  refine ⟨v, h1, ?_⟩
  cases s with
  | d d => exact Rp.mono g.ss h2
  | b d => exact h2
  | ol l =>
    obtain ⟨p, vs, e1, e2, e3, e4⟩ := h2
    exact ⟨p, vs, e1, g.no p (by rw [e3]; exact fun z => nomatch z) e2, g.hh p _ e3, e4.mono g.ss⟩
  | ok l =>
    obtain ⟨p, e1, e2, e3⟩ := h2
    exact ⟨p, e1, g.no p (by rw [e3]; exact fun z => nomatch z) e2, g.hh p _ e3⟩
  | ot l =>
    obtain ⟨p, e1, e2, e3⟩ := h2
    exact ⟨p, e1, g.no p (by rw [e3]; exact fun z => nomatch z) e2, g.hh p _ e3⟩
theorem set_none_key {i j : Nat} {s : SD} (e : (δ.set i none)[j]? = some (some s)) : j ≠ i ∧ δ[j]? = some (some s) := by
  by_cases hj : j = i
  · subst hj
    rw [List.getElem?_set] at e
    simp at e
  · rw [List.getElem?_set_ne (Ne.symm hj)] at e
    exact ⟨hj, e⟩
theorem set_some_key {i j : Nat} {s s0 : SD} (e : (δ.set i (some s0))[j]? = some (some s)) : (j ≠ i ∧ δ[j]? = some (some s)) ∨ (j = i ∧ s = s0 ∧ i < δ.length) := by
  by_cases hj : j = i
  · subst hj
    rw [List.getElem?_set] at e
    simp at e
    exact .inr ⟨rfl, e.2.symm, e.1⟩
  · rw [List.getElem?_set_ne (Ne.symm hj)] at e
    exact .inl ⟨hj, e⟩
/-- a slot forgotten -/
theorem Ok.wipe1 (o : Ok K Bs B Hs H σ δ) (i : Nat) (w : Option V) : Ok K Bs B Hs H (σ.set i w) (δ.set i none) := by
  refine ⟨o.go, fun j s e => ?_, by simp [o.len], fun j s p e q e2 => ?_, fun j k s t p e1 e2 q1 q2 e3 e4 => ?_⟩
  · obtain ⟨hj, e⟩ := set_none_key e
    rw [List.getElem?_set_ne (Ne.symm hj)]
    exact o.slot j s e
  · obtain ⟨hj, e⟩ := set_none_key e
    rw [List.getElem?_set_ne (Ne.symm hj)] at e2
    exact o.fr j s p e q e2
  · obtain ⟨hj, e1⟩ := set_none_key e1
    obtain ⟨hk, e2⟩ := set_none_key e2
    rw [List.getElem?_set_ne (Ne.symm hj)] at e3
    rw [List.getElem?_set_ne (Ne.symm hk)] at e4
    exact o.ap j k s t p e1 e2 q1 q2 e3 e4
/-- data stored -/
theorem Ok.setD (o : Ok K Bs B Hs H σ δ) (i : Nat) {d : Da} {v : V} (r : Rp K Hs d v) : Ok K Bs B Hs H (σ.set i (some v)) (δ.set i (some (.d d))) := by
  refine ⟨o.go, fun j s e => ?_, by simp [o.len], fun j s p e q e2 => ?_, fun j k s t p e1 e2 q1 q2 e3 e4 => ?_⟩
  · rcases set_some_key e with ⟨hj, e⟩ | ⟨rfl, rfl, hl⟩
    · rw [List.getElem?_set_ne (Ne.symm hj)]
      exact o.slot j s e
    · exact ⟨v, by rw [List.getElem?_set_self (by rw [o.len]; exact hl)], r⟩
  · rcases set_some_key e with ⟨hj, e⟩ | ⟨rfl, rfl, hl⟩
    · rw [List.getElem?_set_ne (Ne.symm hj)] at e2
      exact o.fr j s p e q e2
    · cases q
  · rcases set_some_key e1 with ⟨hj, e1⟩ | ⟨rfl, rfl, hl⟩
    · rcases set_some_key e2 with ⟨hk, e2⟩ | ⟨rfl, rfl, hl⟩
      · rw [List.getElem?_set_ne (Ne.symm hj)] at e3
        rw [List.getElem?_set_ne (Ne.symm hk)] at e4
        exact o.ap j k s t p e1 e2 q1 q2 e3 e4
      · cases q2
    · cases q1
/-- an own object stored: new at p -/
theorem Ok.setO (o : Ok K Bs B Hs H σ δ) (i : Nat) {s0 : SD} {ho : HO} {p : Addr} (hp : H p = none) (r : SlotOk K B Hs (upd H p ho) s0 (.ref p)) :
    Ok K Bs B Hs (upd H p ho) (σ.set i (some (.ref p))) (δ.set i (some s0)) := by
  have o1 : Ok K Bs B Hs (upd H p ho) σ δ := o.mono (Go.own o.sub hp)
  -- an own slot of before is not at p
  have np : ∀ {j : Nat} {s : SD}, δ[j]? = some (some s) → s.own = true → σ[j]? ≠ some (some (V.ref p)) := fun {j s} e q z => by
    obtain ⟨v, h1, h2⟩ := o.slot j s e
    rw [z] at h1
    cases h1
    cases s with
    | d d => cases q
    | b d => cases q
    | ol l => obtain ⟨_, _, e1, _, e3, _⟩ := h2; cases e1; rw [hp] at e3; cases e3
    | ok l => obtain ⟨_, e1, _, e3⟩ := h2; cases e1; rw [hp] at e3; cases e3
    | ot l => obtain ⟨_, e1, _, e3⟩ := h2; cases e1; rw [hp] at e3; cases e3
  refine ⟨o1.go, fun j s e => ?_, by simp [o.len], fun j s q e w e2 => ?_, fun j k s t q e1 e2 q1 q2 e3 e4 => ?_⟩
  · rcases set_some_key e with ⟨hj, e⟩ | ⟨rfl, rfl, hl⟩
    · rw [List.getElem?_set_ne (Ne.symm hj)]
      exact o1.slot j s e
    · exact ⟨_, by rw [List.getElem?_set_self (by rw [o.len]; exact hl)], r⟩
  · rcases set_some_key e with ⟨hj, e⟩ | ⟨rfl, rfl, hl⟩
    · rw [List.getElem?_set_ne (Ne.symm hj)] at e2
      exact o.fr j s q e w e2
    · rw [List.getElem?_set_self (by rw [o.len]; exact hl)] at e2
      cases e2
      exact o.go.hh.free hp
  · rcases set_some_key e1 with ⟨hj, f1⟩ | ⟨rfl, rfl, hl⟩
    · rw [List.getElem?_set_ne (Ne.symm hj)] at e3
      rcases set_some_key e2 with ⟨hk, e2⟩ | ⟨rfl, rfl, hl⟩
      · rw [List.getElem?_set_ne (Ne.symm hk)] at e4
        exact o.ap j k s t q f1 e2 q1 q2 e3 e4
      · rw [List.getElem?_set_self (by rw [o.len]; exact hl)] at e4
        cases e4
        exact absurd e3 (np f1 q1)
    · rw [List.getElem?_set_self (by rw [o.len]; exact hl)] at e3
      cases e3
      rcases set_some_key e2 with ⟨hk, e2⟩ | ⟨rfl, rfl, hl⟩
      · rw [List.getElem?_set_ne (Ne.symm hk)] at e4
        exact absurd e4 (np e2 q2)
      · rfl
/-- an own object changed: the content at p, held by slot i -/
theorem Ok.chg (o : Ok K Bs B Hs H σ δ) {i : Nat} {s0 s1 : SD} {ho : HO} {p : Addr} (hi : δ[i]? = some (some s0)) (ow : s0.own = true) (ow1 : s1.own = true) (hv : σ[i]? = some (some (.ref p))) (hs : Hs p = none)
    (r : SlotOk K B Hs (upd H p ho) s1 (.ref p)) : Ok K Bs B Hs (upd H p ho) σ (δ.set i (some s1)) := by
  have bp := o.fr i s0 p hi ow hv
  refine ⟨o.go.mut bp hs, fun j s e => ?_, by simp [o.len], fun j s q e w e2 => ?_, fun j k s t q e1 e2 q1 q2 e3 e4 => ?_⟩
  · rcases set_some_key e with ⟨hj, e⟩ | ⟨rfl, rfl, hl⟩
    · obtain ⟨v, h1, h2⟩ := o.slot j s e
      refine ⟨v, h1, ?_⟩
      cases s with
      | d d => exact h2
      | b d => exact h2
      | ol l =>
        obtain ⟨q, vs, e1, e2, e3, e4⟩ := h2
        subst e1
        have nq : q ≠ p := fun z => hj (o.ap j i _ _ p e hi rfl ow (by rw [← z]; exact h1) hv)
        exact ⟨q, vs, rfl, e2, by rw [upd_ne nq]; exact e3, e4⟩
      | ok l =>
        obtain ⟨q, e1, e2, e3⟩ := h2
        subst e1
        have nq : q ≠ p := fun z => hj (o.ap j i _ _ p e hi rfl ow (by rw [← z]; exact h1) hv)
        exact ⟨q, rfl, e2, by rw [upd_ne nq]; exact e3⟩
      | ot l =>
        obtain ⟨q, e1, e2, e3⟩ := h2
        subst e1
        have nq : q ≠ p := fun z => hj (o.ap j i _ _ p e hi rfl ow (by rw [← z]; exact h1) hv)
        exact ⟨q, rfl, e2, by rw [upd_ne nq]; exact e3⟩
    · exact ⟨_, hv, r⟩
  · rcases set_some_key e with ⟨hj, e⟩ | ⟨rfl, rfl, hl⟩
    · exact o.fr j s q e w e2
    · exact o.fr j s0 q hi ow e2
  · rcases set_some_key e1 with ⟨hj, f1⟩ | ⟨rfl, rfl, hl⟩
    · rcases set_some_key e2 with ⟨hk, e2⟩ | ⟨rfl, rfl, hl⟩
      · exact o.ap j k s t q f1 e2 q1 q2 e3 e4
      · exact o.ap j _ s s0 q f1 hi q1 ow e3 e4
    · rcases set_some_key e2 with ⟨hk, e2⟩ | ⟨rfl, rfl, hl⟩
      · exact o.ap _ k s0 t q hi e2 ow q2 e3 e4
      · rfl
/-- an object that no slot holds changes -/
theorem Ok.other (o : Ok K Bs B Hs H σ δ) {p : Addr} {ho : HO} (hs : Hs p = none) (hb : B p = none) (hn : ∀ (i : Nat) (s : SD) (q : Addr), δ[i]? = some (some s) → s.own = true → σ[i]? = some (some (.ref q)) → q ≠ p) :
    Ok K Bs B Hs (upd H p ho) σ δ := by
  refine ⟨o.go.mut hb hs, fun j s e => ?_, o.len, o.fr, o.ap⟩
  obtain ⟨v, h1, h2⟩ := o.slot j s e
  refine ⟨v, h1, ?_⟩
  cases s with
  | d d => exact h2
  | b d => exact h2
  | ol l =>
    obtain ⟨q, vs, e1, e2, e3, e4⟩ := h2
    subst e1
    exact ⟨q, vs, rfl, e2, by rw [upd_ne (hn j _ q e rfl h1)]; exact e3, e4⟩
  | ok l =>
    obtain ⟨q, e1, e2, e3⟩ := h2
    subst e1
    exact ⟨q, rfl, e2, by rw [upd_ne (hn j _ q e rfl h1)]; exact e3⟩
  | ot l =>
    obtain ⟨q, e1, e2, e3⟩ := h2
    subst e1
    exact ⟨q, rfl, e2, by rw [upd_ne (hn j _ q e rfl h1)]; exact e3⟩
theorem Ok.ownAt (o : Ok K Bs B Hs H σ δ) {i : Nat} {s : SD} {q : Addr} (e : δ[i]? = some (some s)) (w : s.own = true) (h : σ[i]? = some (some (.ref q))) : H q ≠ none := by
  obtain ⟨v, h1, h2⟩ := o.slot i s e
  rw [h] at h1
  cases h1
  cases s with
  | d d => cases w
  | b d => cases w
  | ol l => obtain ⟨_, _, e1, _, e3, _⟩ := h2; cases e1; rw [e3]; exact fun z => nomatch z
  | ok l => obtain ⟨_, e1, _, e3⟩ := h2; cases e1; rw [e3]; exact fun z => nomatch z
  | ot l => obtain ⟨_, e1, _, e3⟩ := h2; cases e1; rw [e3]; exact fun z => nomatch z
/-- an own list becomes data -/
def SD.frozen : SD → Option Da
  | .ol l => some (.lst l)
  | .ok l => some (.dk l)
  | .ot l => some (.dt l)
  | _ => none
theorem Ok.freeze (o : Ok K Bs B Hs H σ δ) {i : Nat} {s0 : SD} {d : Da} (hi : δ[i]? = some (some s0)) (hf : s0.frozen = some d) : ∃ Hs', Same Hs Hs' ∧ Ok K Bs B Hs' H σ (δ.set i (some (.d d))) := by
  obtain ⟨v, hv, r⟩ := o.slot i s0 hi
  have ow : s0.own = true := by cases s0 <;> first | rfl | cases hf
  have main : ∃ p ho, v = .ref p ∧ Hs p = none ∧ H p = some ho ∧ Rp K (upd Hs p ho) d (.ref p) := by
    cases s0 with
    | d d => cases hf
    | b d => cases hf
    | ol l =>
      obtain ⟨p, vs, e1, e2, e3, e4⟩ := r
      cases hf
      exact ⟨p, _, e1, e2, e3, .lst upd_same (e4.mono (same_upd e2))⟩
    | ok l =>
      obtain ⟨p, e1, e2, e3⟩ := r
      cases hf
      exact ⟨p, _, e1, e2, e3, .dk upd_same⟩
    | ot l =>
      obtain ⟨p, e1, e2, e3⟩ := r
      cases hf
      exact ⟨p, _, e1, e2, e3, .dt upd_same⟩
  obtain ⟨p, ho, rfl, hs, hH, rp⟩ := main
  have bp := o.fr i s0 p hi ow hv
  refine ⟨upd Hs p ho, same_upd hs, o.go.freeze bp hs hH, fun j s e => ?_, by simp [o.len], fun j s q e w e2 => ?_, fun j k s t q e1 e2 q1 q2 e3 e4 => ?_⟩
  · rcases set_some_key e with ⟨hj, e⟩ | ⟨rfl, rfl, hl⟩
    · obtain ⟨v, h1, h2⟩ := o.slot j s e
      refine ⟨v, h1, ?_⟩
      cases s with
      | d d => exact Rp.mono (same_upd hs) h2
      | b d => exact h2
      | ol l =>
        obtain ⟨q, vs, e1, e2, e3, e4⟩ := h2
        subst e1
        have nq : q ≠ p := fun z => hj (o.ap j i _ _ p e hi rfl ow (by rw [← z]; exact h1) hv)
        exact ⟨q, vs, rfl, by rw [upd_ne nq]; exact e2, e3, e4.mono (same_upd hs)⟩
      | ok l =>
        obtain ⟨q, e1, e2, e3⟩ := h2
        subst e1
        have nq : q ≠ p := fun z => hj (o.ap j i _ _ p e hi rfl ow (by rw [← z]; exact h1) hv)
        exact ⟨q, rfl, by rw [upd_ne nq]; exact e2, e3⟩
      | ot l =>
        obtain ⟨q, e1, e2, e3⟩ := h2
        subst e1
        have nq : q ≠ p := fun z => hj (o.ap j i _ _ p e hi rfl ow (by rw [← z]; exact h1) hv)
        exact ⟨q, rfl, by rw [upd_ne nq]; exact e2, e3⟩
    · exact ⟨_, hv, rp⟩
  · rcases set_some_key e with ⟨hj, e⟩ | ⟨rfl, rfl, hl⟩
    · exact o.fr j s q e w e2
    · cases w
  · rcases set_some_key e1 with ⟨hj, e1⟩ | ⟨rfl, rfl, hl⟩
    · rcases set_some_key e2 with ⟨hk, e2⟩ | ⟨rfl, rfl, hl⟩
      · exact o.ap j k s t q e1 e2 q1 q2 e3 e4
      · cases q2
    · cases q1
end

/-! ### the weakest readings -/
section
variable (X : Cx)
def WE (e : Expr) : TE := fun σ H Q => ∀ pins s, Inv X pins σ H s → wpAny (model X.prog X.w) X.A (eval e X.env) (EP X pins σ Q) X.xe s
def WT (e : Expr) : TT := fun σ H Q => ∀ pins s, Inv X pins σ H s → wpAny (model X.prog X.w) X.A (isTrue e X.env (eval e X.env)) (TP X pins σ Q) X.xe s
def WW (e : Expr) : TT := fun σ H Q => ∀ whole pins s, Inv X pins σ H s → wpAny (model X.prog X.w) X.A (isTrue e X.env whole) (TP X pins σ Q) X.xe s
def WA (es : List Expr) : TA := fun σ H Q => ∀ pos pins s, Inv X pins σ H s → wpAny (model X.prog X.w) X.A (spliced (backTo pos (starEach es X.env))) (AP X pins σ Q) X.xe s
def WS (st : Stmt) : TS := fun D σ H => ∀ pins s, Inv X pins σ H s → wpAny (model X.prog X.w) X.A (exec st X.env) (SP X pins D) X.xe s
def WB (st : List Stmt) : TS := fun D σ H => ∀ pins s, Inv X pins σ H s → wpAny (model X.prog X.w) X.A (execs st X.env) (SP X pins D) X.xe s
def WG (tg : Expr) : TG := fun v σ H Q => ∀ pins s u, Inv X pins σ H s → RelV v u → wpAny (model X.prog X.w) X.A (assign tg X.env u) (fun _ s' => ∃ σ' H', Inv X pins σ' H' s' ∧ Q σ' H') X.xe s
def WGs (ts : List Expr) : TGs := fun vs σ H Q => ∀ pins s us, Inv X pins σ H s → Vals vs us → wpAny (model X.prog X.w) X.A (assignInOrder ((assignEach ts X.env).map (·.2)) us) (fun _ s' => ∃ σ' H', Inv X pins σ' H' s' ∧ Q σ' H') X.xe s
def WI (tg iter : Expr) : TI := fun σ H R => ∀ pins s, Inv X pins σ H s →
    wpAny (model X.prog X.w) X.A (eval iter X.env) (fun v s1 => wpAny (model X.prog X.w) X.A (pyIter v) (PIE X pins σ tg R) X.xe s1) X.xe s
def WO (o : Option Expr) (b : TO) : Prop := True
def WTs (ifs : List Expr) : TT := fun σ H Q => ∀ pins s, Inv X pins σ H s →
    wpAny (model X.prog X.w) X.A (forIn ifs true fun c r => if r = true then do let ok ← isTrue c X.env (eval c X.env); pure (ForInStep.yield ok) else pure (ForInStep.yield r)) (TP X pins σ Q) X.xe s
def WK (kws : List Keyword) : TA := fun σ H Q => ∀ pos pins s, Inv X pins σ H s → wpAny (model X.prog X.w) X.A (evalAll ((backToKw pos (keywordEach kws X.env)).map (·.2))) (AP X pins σ Q) X.xe s
end
section
variable {X : Cx} {e tg it : Expr} {es : List Expr} {st : Stmt} {sts : List Stmt} {kws : List Keyword}
theorem pe_W : PE X e (WE X e) := ⟨fun pins s σ H Q I h => h pins s I⟩
theorem pt_W : PT X e (WT X e) := ⟨fun pins s σ H Q I h => h pins s I⟩
theorem pw_W : PW X e (WW X e) := ⟨fun wh pins s σ H Q I h => h wh pins s I⟩
theorem pa_W : PA X es (WA X es) := ⟨fun pos pins s σ H Q I h => h pos pins s I⟩
theorem ps_W : PS X st (WS X st) := ⟨fun pins s σ H D I h => h pins s I⟩
theorem pb_W : PSs X sts (WB X sts) := ⟨fun pins s σ H D I h => h pins s I⟩
theorem pg_W : PG X tg (WG X tg) := ⟨fun pins s σ H v u Q I r h => h pins s u I r⟩
theorem pgs_W : PGs X es (WGs X es) := ⟨fun pins s σ H vs us Q I r h => h pins s us I r⟩
theorem pi_W : PI X tg it (WI X tg it) := ⟨fun pins s σ H R I h => h pins s I⟩
theorem pts_W : PTs X es (WTs X es) := ⟨fun pins s σ H Q I h => h pins s I⟩
theorem pk_W : PK X kws (WK X kws) := ⟨fun pos pins s σ H Q I h => h pos pins s I⟩
theorem WE.of {t : TE} (p : PE X e t) {σ : L2.St} {H : Hp} {Q : VK} (h : t σ H Q) : WE X e σ H Q := fun pins s I => p.run pins s σ H Q I h
theorem WT.of {t : TT} (p : PT X e t) {σ : L2.St} {H : Hp} {Q : Bool → Hp → Prop} (h : t σ H Q) : WT X e σ H Q := fun pins s I => p.run pins s σ H Q I h
theorem WW.of {t : TT} (p : PW X e t) {σ : L2.St} {H : Hp} {Q : Bool → Hp → Prop} (h : t σ H Q) : WW X e σ H Q := fun wh pins s I => p.run wh pins s σ H Q I h
theorem WA.of {t : TA} (p : PA X es t) {σ : L2.St} {H : Hp} {Q : List V → Hp → Prop} (h : t σ H Q) : WA X es σ H Q := fun pos pins s I => p.run pos pins s σ H Q I h
theorem WS.of {t : TS} (p : PS X st t) {D : Ends} {σ : L2.St} {H : Hp} (h : t D σ H) : WS X st D σ H := fun pins s I => p.run pins s σ H D I h
theorem WB.of {t : TS} (p : PSs X sts t) {D : Ends} {σ : L2.St} {H : Hp} (h : t D σ H) : WB X sts D σ H := fun pins s I => p.run pins s σ H D I h
theorem WG.of {t : TG} (p : PG X tg t) {v : V} {σ : L2.St} {H : Hp} {Q : L2.St → Hp → Prop} (h : t v σ H Q) : WG X tg v σ H Q := fun pins s u I r => p.run pins s σ H v u Q I r h
theorem WGs.of {t : TGs} (p : PGs X es t) {vs : List V} {σ : L2.St} {H : Hp} {Q : L2.St → Hp → Prop} (h : t vs σ H Q) : WGs X es vs σ H Q := fun pins s us I r => p.run pins s σ H vs us Q I r h
theorem WI.of {t : TI} (p : PI X tg it t) {σ : L2.St} {H : Hp} {R : It → Hp → Prop} (h : t σ H R) : WI X tg it σ H R := fun pins s I => p.run pins s σ H R I h
theorem WTs.of {t : TT} (p : PTs X es t) {σ : L2.St} {H : Hp} {Q : Bool → Hp → Prop} (h : t σ H Q) : WTs X es σ H Q := fun pins s I => p.run pins s σ H Q I h
theorem WK.of {t : TA} (p : PK X kws t) {σ : L2.St} {H : Hp} {Q : List V → Hp → Prop} (h : t σ H Q) : WK X kws σ H Q := fun pos pins s I => p.run pos pins s σ H Q I h
end

/-! ### judgments over data -/
/-- stable or not -/
def RpM (m : Bool) (K : PySem.W.Frag) (Hs H : Hp) (d : Da) (v : V) : Prop := Rp K (if m then Hs else H) d v
section
variable {K : PySem.W.Frag} {Hs H Hs' H' : Hp} {d : Da} {v : V} {m : Bool}
theorem RpM.mono (g : Go Hs H Hs' H') (h : RpM m K Hs H d v) : RpM m K Hs' H' d v := by
  cases m with
  | true => exact Rp.mono g.ss h
  | false => exact Rp.mono g.hh h
theorem RpM.of (e : Same Hs H) (h : Rp K Hs d v) : RpM m K Hs H d v := by
  cases m with
  | true => exact h
  | false => exact Rp.mono e h
theorem RpM.full (e : Same Hs H) (h : RpM m K Hs H d v) : Rp K H d v := by
  cases m with
  | true => exact Rp.mono e h
  | false => exact h
end
structure DM (X : Cx) (m : Bool) (e : Expr) (δ : Sg) (Φ : Da → Prop) : Prop where
  run : ∀ Bs B Hs H σ, Ok X.K Bs B Hs H σ δ → ∀ Q : VK, (∀ d v Hs' H', Go Hs H Hs' H' → Φ d → RpM m X.K Hs' H' d v → Q v H') → WE X e σ H Q
abbrev DE (X : Cx) (e : Expr) (δ : Sg) (Φ : Da → Prop) : Prop := DM X true e δ Φ
abbrev DV (X : Cx) (e : Expr) (δ : Sg) (Φ : Da → Prop) : Prop := DM X false e δ Φ
structure DT (X : Cx) (e : Expr) (δ : Sg) (Φ : Bool → Prop) : Prop where
  run : ∀ Bs B Hs H σ, Ok X.K Bs B Hs H σ δ → ∀ Q : Bool → Hp → Prop, (∀ b Hs' H', Go Hs H Hs' H' → Φ b → Q b H') → WT X e σ H Q
structure DW (X : Cx) (e : Expr) (δ : Sg) (Φ : Bool → Prop) : Prop where
  run : ∀ Bs B Hs H σ, Ok X.K Bs B Hs H σ δ → ∀ Q : Bool → Hp → Prop, (∀ b Hs' H', Go Hs H Hs' H' → Φ b → Q b H') → WW X e σ H Q
/-- a comprehension's tests -/
structure DTs (X : Cx) (es : List Expr) (δ : Sg) (Φ : Bool → Prop) : Prop where
  run : ∀ Bs B Hs H σ, Ok X.K Bs B Hs H σ δ → ∀ Q : Bool → Hp → Prop, (∀ b Hs' H', Go Hs H Hs' H' → Φ b → Q b H') → WTs X es σ H Q
inductive RpL (K : PySem.W.Frag) (Hs H : Hp) : List Bool → List Da → List V → Prop
  | nil : RpL K Hs H [] [] []
  | cons {m : Bool} {ms : List Bool} {d : Da} {ds : List Da} {v : V} {vs : List V} : RpM m K Hs H d v → RpL K Hs H ms ds vs → RpL K Hs H (m :: ms) (d :: ds) (v :: vs)
theorem RpL.mono {K : PySem.W.Frag} {Hs H Hs' H' : Hp} (g : Go Hs H Hs' H') : ∀ {ms : List Bool} {ds : List Da} {vs : List V}, RpL K Hs H ms ds vs → RpL K Hs' H' ms ds vs
  | _, _, _, .nil => .nil
  | _, _, _, .cons r t => .cons (r.mono g) (RpL.mono g t)
theorem RpL.lens {K : PySem.W.Frag} {Hs H : Hp} : ∀ {ms : List Bool} {ds : List Da} {vs : List V}, RpL K Hs H ms ds vs → vs.length = ms.length
  | _, _, _, .nil => rfl
  | _, _, _, .cons _ t => congrArg (· + 1) t.lens
theorem RpL.all {K : PySem.W.Frag} {Hs H : Hp} (e : Same Hs H) : ∀ {ms : List Bool} {ds : List Da} {vs : List V}, RpL K Hs H ms ds vs → RpAll K H ds vs
  | _, _, _, .nil => .nil
  | _, _, _, .cons r t => .cons (r.full e) (RpL.all e t)
theorem RpL.stab {K : PySem.W.Frag} {Hs H : Hp} : ∀ {ms : List Bool} {ds : List Da} {vs : List V}, RpL K Hs H ms ds vs → ms.all id = true → RpAll K Hs ds vs
  | _, _, _, .nil, _ => .nil
  | m :: ms, _, _, .cons r t, h => by
    have h1 : m = true ∧ ms.all id = true := by simpa using h
    obtain ⟨rfl, h2⟩ := h1
    exact .cons r (RpL.stab t h2)
structure DA (X : Cx) (ms : List Bool) (es : List Expr) (δ : Sg) (Φ : List Da → Prop) : Prop where
  run : ∀ Bs B Hs H σ, Ok X.K Bs B Hs H σ δ → ∀ Q : List V → Hp → Prop,
  (∀ ds vs Hs' H', Go Hs H Hs' H' → Φ ds → RpL X.K Hs' H' ms ds vs → Q vs H') → WA X es σ H Q
structure DK (X : Cx) (ms : List Bool) (kws : List Keyword) (δ : Sg) (Φ : List Da → Prop) : Prop where
  run : ∀ Bs B Hs H σ, Ok X.K Bs B Hs H σ δ → ∀ Q : List V → Hp → Prop,
  (∀ ds vs Hs' H', Go Hs H Hs' H' → Φ ds → RpL X.K Hs' H' ms ds vs → Q vs H') → WK X kws σ H Q
/-- ends over data, from a stable part on -/
structure Fits (K : PySem.W.Frag) (Bs B Hs : Hp) (nx : Sg → Prop) (rt : Da → Prop) (bk ct : Sg → Prop) (D : Ends) : Prop where
  nx : ∀ δ σ Hs' H, Ok K Bs B Hs' H σ δ → Same Hs Hs' → nx δ → D.nx σ H
  rt : ∀ d v Hs' H, Go Bs B Hs' H → rt d → Rp K Hs' d v → D.rt v H
  bk : ∀ δ σ Hs' H, Ok K Bs B Hs' H σ δ → Same Hs Hs' → bk δ → D.bk σ H
  ct : ∀ δ σ Hs' H, Ok K Bs B Hs' H σ δ → Same Hs Hs' → ct δ → D.ct σ H
theorem Fits.frm {K : PySem.W.Frag} {Bs B Hs Hs1 : Hp} {nx : Sg → Prop} {rt : Da → Prop} {bk ct : Sg → Prop} {D : Ends} (f : Fits K Bs B Hs nx rt bk ct D) (e : Same Hs Hs1) : Fits K Bs B Hs1 nx rt bk ct D :=
  ⟨fun δ σ Hs' H o s h => f.nx δ σ Hs' H o (e.trans s) h, f.rt, fun δ σ Hs' H o s h => f.bk δ σ Hs' H o (e.trans s) h, fun δ σ Hs' H o s h => f.ct δ σ Hs' H o (e.trans s) h⟩
structure DS (X : Cx) (st : Stmt) (δ : Sg) (nx : Sg → Prop) (rt : Da → Prop) (bk ct : Sg → Prop) : Prop where
  run : ∀ Bs B Hs H σ, Ok X.K Bs B Hs H σ δ → ∀ D, Fits X.K Bs B Hs nx rt bk ct D → WS X st D σ H
structure DB (X : Cx) (sts : List Stmt) (δ : Sg) (nx : Sg → Prop) (rt : Da → Prop) (bk ct : Sg → Prop) : Prop where
  run : ∀ Bs B Hs H σ, Ok X.K Bs B Hs H σ δ → ∀ D, Fits X.K Bs B Hs nx rt bk ct D → WB X sts D σ H
/-- slots of other names stay -/
def Keep (N nm : List Str) (σ σ' : L2.St) : Prop := σ'.length = σ.length ∧ ∀ i : Nat, (∀ x, N[i]? = some x → x ∉ nm) → σ'[i]? = σ[i]?
theorem Keep.refl (N nm : List Str) (σ : L2.St) : Keep N nm σ σ := ⟨rfl, fun _ _ => rfl⟩
theorem Keep.trans {N nm nm2 : List Str} {σ σ1 σ2 : L2.St} (a : Keep N nm σ σ1) (b : Keep N nm2 σ1 σ2) : Keep N (nm ++ nm2) σ σ2 :=
  ⟨b.1.trans a.1, fun i h => (b.2 i fun x e z => h x e (List.mem_append_right _ z)).trans (a.2 i fun x e z => h x e (List.mem_append_left _ z))⟩
/-- a target (of these names) takes a (stable) thing -/
structure DG (X : Cx) (tg : Expr) (nm : List Str) (d : Da) (δ : Sg) (Φ : Sg → Prop) : Prop where
  run : ∀ Bs B Hs H σ v, Ok X.K Bs B Hs H σ δ → Rp X.K Hs d v → ∀ Q : L2.St → Hp → Prop,
  (∀ δ' σ' Hs' H', Ok X.K Bs B Hs' H' σ' δ' → Go Hs H Hs' H' → Keep X.N nm σ σ' → Φ δ' → Q σ' H') → WG X tg v σ H Q
structure DGs (X : Cx) (ts : List Expr) (nm : List Str) (ds : List Da) (δ : Sg) (Φ : Sg → Prop) : Prop where
  run : ∀ Bs B Hs H σ vs, Ok X.K Bs B Hs H σ δ → RpAll X.K Hs ds vs → ∀ Q : L2.St → Hp → Prop,
  (∀ δ' σ' Hs' H', Ok X.K Bs B Hs' H' σ' δ' → Go Hs H Hs' H' → Keep X.N nm σ σ' → Φ δ' → Q σ' H') → WGs X ts vs σ H Q
/-- what a loop walks: the items, each a stable thing when it comes -/
structure DI (X : Cx) (tg it : Expr) (δ : Sg) (Φ : List Da → Prop) : Prop where
  run : ∀ Bs B Hs H σ, Ok X.K Bs B Hs H σ δ → ∀ R : It → Hp → Prop,
  (∀ (ds : List Da) (J : It) (G : Hp → Prop) (Y : Nat → Hp → V → Hp → Prop) (Hs' H' : Hp), Go Hs H Hs' H' → Φ ds → Walk J ds.length G Y → (∀ Hs2 H2, Same Hs' Hs2 → Same Hs2 H2 → G H2) →
    (∀ i d Hs2 H2 v H3, Same Hs' Hs2 → Same Hs2 H2 → ds[i]? = some d → Y i H2 v H3 → ∃ Hs3, Go Hs2 H2 Hs3 H3 ∧ Rp X.K Hs3 d v) → R J H') → WI X tg it σ H R
section
variable {X : Cx} {K : PySem.W.Frag}
instance {X : Cx} {m : Bool} {e : Expr} {δ : Sg} {Φ : Da → Prop} : CoeFun (DM X m e δ Φ) (fun _ => ∀ Bs B Hs H σ, Ok X.K Bs B Hs H σ δ → ∀ Q : VK, (∀ d v Hs' H', Go Hs H Hs' H' → Φ d → RpM m X.K Hs' H' d v → Q v H') → WE X e σ H Q) := ⟨fun h => h.run⟩
instance {X : Cx} {e : Expr} {δ : Sg} {Φ : Bool → Prop} : CoeFun (DT X e δ Φ) (fun _ => ∀ Bs B Hs H σ, Ok X.K Bs B Hs H σ δ → ∀ Q : Bool → Hp → Prop, (∀ b Hs' H', Go Hs H Hs' H' → Φ b → Q b H') → WT X e σ H Q) := ⟨fun h => h.run⟩
instance {X : Cx} {e : Expr} {δ : Sg} {Φ : Bool → Prop} : CoeFun (DW X e δ Φ) (fun _ => ∀ Bs B Hs H σ, Ok X.K Bs B Hs H σ δ → ∀ Q : Bool → Hp → Prop, (∀ b Hs' H', Go Hs H Hs' H' → Φ b → Q b H') → WW X e σ H Q) := ⟨fun h => h.run⟩
instance {X : Cx} {es : List Expr} {δ : Sg} {Φ : Bool → Prop} : CoeFun (DTs X es δ Φ) (fun _ => ∀ Bs B Hs H σ, Ok X.K Bs B Hs H σ δ → ∀ Q : Bool → Hp → Prop, (∀ b Hs' H', Go Hs H Hs' H' → Φ b → Q b H') → WTs X es σ H Q) := ⟨fun h => h.run⟩
instance {X : Cx} {ms : List Bool} {es : List Expr} {δ : Sg} {Φ : List Da → Prop} : CoeFun (DA X ms es δ Φ) (fun _ => ∀ Bs B Hs H σ, Ok X.K Bs B Hs H σ δ → ∀ Q : List V → Hp → Prop,
  (∀ ds vs Hs' H', Go Hs H Hs' H' → Φ ds → RpL X.K Hs' H' ms ds vs → Q vs H') → WA X es σ H Q) := ⟨fun h => h.run⟩
instance {X : Cx} {ms : List Bool} {kws : List Keyword} {δ : Sg} {Φ : List Da → Prop} : CoeFun (DK X ms kws δ Φ) (fun _ => ∀ Bs B Hs H σ, Ok X.K Bs B Hs H σ δ → ∀ Q : List V → Hp → Prop,
  (∀ ds vs Hs' H', Go Hs H Hs' H' → Φ ds → RpL X.K Hs' H' ms ds vs → Q vs H') → WK X kws σ H Q) := ⟨fun h => h.run⟩
instance {X : Cx} {st : Stmt} {δ : Sg} {nx : Sg → Prop} {rt : Da → Prop} {bk ct : Sg → Prop} : CoeFun (DS X st δ nx rt bk ct) (fun _ => ∀ Bs B Hs H σ, Ok X.K Bs B Hs H σ δ → ∀ D, Fits X.K Bs B Hs nx rt bk ct D → WS X st D σ H) := ⟨fun h => h.run⟩
instance {X : Cx} {sts : List Stmt} {δ : Sg} {nx : Sg → Prop} {rt : Da → Prop} {bk ct : Sg → Prop} : CoeFun (DB X sts δ nx rt bk ct) (fun _ => ∀ Bs B Hs H σ, Ok X.K Bs B Hs H σ δ → ∀ D, Fits X.K Bs B Hs nx rt bk ct D → WB X sts D σ H) := ⟨fun h => h.run⟩
instance {X : Cx} {tg : Expr} {nm : List Str} {d : Da} {δ : Sg} {Φ : Sg → Prop} : CoeFun (DG X tg nm d δ Φ) (fun _ => ∀ Bs B Hs H σ v, Ok X.K Bs B Hs H σ δ → Rp X.K Hs d v → ∀ Q : L2.St → Hp → Prop,
  (∀ δ' σ' Hs' H', Ok X.K Bs B Hs' H' σ' δ' → Go Hs H Hs' H' → Keep X.N nm σ σ' → Φ δ' → Q σ' H') → WG X tg v σ H Q) := ⟨fun h => h.run⟩
instance {X : Cx} {ts : List Expr} {nm : List Str} {ds : List Da} {δ : Sg} {Φ : Sg → Prop} : CoeFun (DGs X ts nm ds δ Φ) (fun _ => ∀ Bs B Hs H σ vs, Ok X.K Bs B Hs H σ δ → RpAll X.K Hs ds vs → ∀ Q : L2.St → Hp → Prop,
  (∀ δ' σ' Hs' H', Ok X.K Bs B Hs' H' σ' δ' → Go Hs H Hs' H' → Keep X.N nm σ σ' → Φ δ' → Q σ' H') → WGs X ts vs σ H Q) := ⟨fun h => h.run⟩
instance {X : Cx} {tg it : Expr} {δ : Sg} {Φ : List Da → Prop} : CoeFun (DI X tg it δ Φ) (fun _ => ∀ Bs B Hs H σ, Ok X.K Bs B Hs H σ δ → ∀ R : It → Hp → Prop,
  (∀ (ds : List Da) (J : It) (G : Hp → Prop) (Y : Nat → Hp → V → Hp → Prop) (Hs' H' : Hp), Go Hs H Hs' H' → Φ ds → Walk J ds.length G Y → (∀ Hs2 H2, Same Hs' Hs2 → Same Hs2 H2 → G H2) →
    (∀ i d Hs2 H2 v H3, Same Hs' Hs2 → Same Hs2 H2 → ds[i]? = some d → Y i H2 v H3 → ∃ Hs3, Go Hs2 H2 Hs3 H3 ∧ Rp X.K Hs3 d v) → R J H') → WI X tg it σ H R) := ⟨fun h => h.run⟩
end
end DL

/-! DL2: the rules of expressions, statements, defs. -/
namespace DL
open PySem PySem.Spec PyProof.Rows L2

/-- the module -/
structure Md where
  P : Program
  w : World
  K : PySem.W.Frag
  mg : Str → Option Value
  base : Heap
def visB (sc : Scope) (x : Str) : Bool := (match sc.names.lookup x with | some .local => true | some .cell => true | some .free => true | _ => false) && !(x == ("__debug__" : Str)) && !(x == ("__classdict__" : Str))
def locB (sc : Scope) (x : Str) : Bool := match sc.names.lookup x with | some .local => true | some .cell => true | _ => false
def glB (sc : Scope) (x : Str) : Bool := (match sc.names.lookup x with | some .globalImplicit => true | _ => false) && !(x == ("__debug__" : Str)) && !(x == ("__name__" : Str))
theorem visB_ok {sc : Scope} {x : Str} (h : visB sc x = true) : Vis sc x ∧ (x == ("__debug__" : Str)) = false ∧ (x == ("__classdict__" : Str)) = false := by
  unfold visB at h
  simp only [Bool.and_eq_true, Bool.not_eq_true'] at h
  obtain ⟨⟨h1, h2⟩, h3⟩ := h
  refine ⟨?_, h2, h3⟩
  unfold Vis
  split at h1 <;> first | (left; assumption) | (right; left; assumption) | (right; right; assumption) | cases h1
theorem locB_ok {sc : Scope} {x : Str} (h : locB sc x = true) : L2.Loc sc x := by
  unfold locB at h
  unfold L2.Loc
  split at h <;> first | (left; assumption) | (right; assumption) | cases h
theorem glB_ok {sc : Scope} {x : Str} (h : glB sc x = true) : sc.names.lookup x = some .globalImplicit ∧ (x == ("__debug__" : Str)) = false ∧ x ≠ ("__name__" : Str) := by
  unfold glB at h
  simp only [Bool.and_eq_true, Bool.not_eq_true'] at h
  obtain ⟨⟨h1, h2⟩, h3⟩ := h
  refine ⟨?_, h2, fun e => by simp [e] at h3⟩
  split at h1 <;> first | assumption | cases h1
/-- what is known of where one stands -/
structure Sc (M : Md) (X : Cx) (k : Nat) (N : List Str) (sc cs : Scope) : Prop where
  hP : X.prog = M.P
  hw : X.w = M.w
  hK : X.K = M.K
  hmg : X.mg = M.mg
  hb : X.base = M.base
  n : X.N = N
  nd : N.Nodup
  calm : X.calm = true
  room : Room k X.A
  kind : sc.kind = .function
  po : PassesOwn (model X.prog X.w) X.A X.env X.xe
  hsc : X.env.scope = sc
  fn : ∀ x, locB cs x = true → L2.Loc X.env.scope x ∧ (X.fn x = true ∨ X.env.scope.names.lookup x = some .local)
inductive Gt : List Str → Sg → Str → SD → Prop
  | z {x : Str} {N : List Str} {s : SD} {δ : Sg} : Gt (x :: N) (some s :: δ) x s
  | s {x y : Str} {N : List Str} {s : SD} {t : Option SD} {δ : Sg} : Gt N δ x s → Gt (y :: N) (t :: δ) x s
theorem Gt.at : ∀ {N : List Str} {δ : Sg} {x : Str} {s : SD}, Gt N δ x s → ∃ i : Nat, N[i]? = some x ∧ δ[i]? = some (some s)
  | _, _, _, _, .z => ⟨0, rfl, rfl⟩
  | _, _, _, _, .s h => let ⟨i, h1, h2⟩ := h.at; ⟨i + 1, h1, h2⟩
inductive Ss : List Str → Sg → Str → Option SD → Sg → Prop
  | z {x : Str} {N : List Str} {s t : Option SD} {δ : Sg} : Ss (x :: N) (t :: δ) x s (s :: δ)
  | s {x y : Str} {N : List Str} {s t : Option SD} {δ δ' : Sg} : Ss N δ x s δ' → Ss (y :: N) (t :: δ) x s (t :: δ')
theorem Ss.at : ∀ {N : List Str} {δ δ' : Sg} {x : Str} {s : Option SD}, Ss N δ x s δ' → ∃ i : Nat, N[i]? = some x ∧ δ' = δ.set i s
  | _, _, _, _, _, .z => ⟨0, rfl, rfl⟩
  | _, _, _, _, _, .s h => let ⟨i, h1, h2⟩ := h.at; ⟨i + 1, h1, by rw [h2]; rfl⟩

section
variable {M : Md} {X : Cx} {k : Nat} {N : List Str} {sc cs : Scope} {δ δ' : Sg} {m : Bool} {Φ Ψ : Da → Prop} {x : Str} {pos p2 : Pos} {e a b : Expr} {es : List Expr}

theorem DM.imp (h : DM X m e δ Φ) (hi : ∀ d, Φ d → Ψ d) : DM X m e δ Ψ := .mk fun Bs B Hs H σ o Q q => h Bs B Hs H σ o Q fun d v Hs' H' g p r => q d v Hs' H' g (hi d p) r
theorem dv_of (h : DE X e δ Φ) : DV X e δ Φ := .mk fun Bs B Hs H σ o Q q => h Bs B Hs H σ o Q fun d v Hs' H' g p r => q d v Hs' H' g p (Rp.mono g.sub r)
theorem DM.of (h : DE X e δ Φ) : DM X m e δ Φ := by
  cases m with
  | true => exact h
  | false => exact dv_of h
/-- atoms -/
theorem dm_atom (h : ∀ Bs B Hs H σ, Ok X.K Bs B Hs H σ δ → ∀ Q : VK, (∀ v Hs' H', Go Hs H Hs' H' → Φ (.a v) → Q v H') → WE X e σ H Q) : DM X m e δ Φ :=
  .mk fun Bs B Hs H σ o Q q => h Bs B Hs H σ o Q fun v Hs' H' g p => q (.a v) v Hs' H' g p (.of g.sub (.a v))

/-! ### names, constants -/
theorem de_name (S : Sc M X k N sc cs) {d : Da} (hs : Gt N δ x (.d d)) (hv : visB sc x = true) (h : Φ d) : DM X m (.Name x pos) δ Φ := .mk fun Bs B Hs H σ o Q q => by
  obtain ⟨i, h1, h2⟩ := hs.at
  obtain ⟨v, h3, h4⟩ := o.slot i _ h2
  obtain ⟨v1, v2, v3⟩ := visB_ok hv
  exact WE.of (pe_var (i := i) (by rw [S.n]; exact h1) (by rw [S.hsc]; exact v1) v2 v3) ⟨v, h3, q d v Hs H (Go.refl o.sub) h (RpM.of o.sub h4)⟩
theorem dv_nameB (S : Sc M X k N sc cs) {d : Da} (hs : Gt N δ x (.b d)) (hv : visB sc x = true) (h : Φ d) : DV X (.Name x pos) δ Φ := .mk fun Bs B Hs H σ o Q q => by
  obtain ⟨i, h1, h2⟩ := hs.at
  obtain ⟨v, h3, h4⟩ := o.slot i _ h2
  obtain ⟨v1, v2, v3⟩ := visB_ok hv
  exact WE.of (pe_var (i := i) (by rw [S.n]; exact h1) (by rw [S.hsc]; exact v1) v2 v3) ⟨v, h3, q d v Hs H (Go.refl o.sub) h (Rp.mono o.go.hh h4)⟩
theorem dv_nameO (S : Sc M X k N sc cs) {s : SD} {d : Da} (hs : Gt N δ x s) (hf : s.frozen = some d) (hv : visB sc x = true) (h : Φ d) : DV X (.Name x pos) δ Φ := .mk fun Bs B Hs H σ o Q q => by
  obtain ⟨i, h1, h2⟩ := hs.at
  obtain ⟨v, h3, h4⟩ := o.slot i _ h2
  obtain ⟨v1, v2, v3⟩ := visB_ok hv
  refine WE.of (pe_var (i := i) (by rw [S.n]; exact h1) (by rw [S.hsc]; exact v1) v2 v3) ⟨v, h3, q d v Hs H (Go.refl o.sub) h ?_⟩
  show Rp X.K H d v
  cases s with
  | d d => cases hf
  | b d => cases hf
  | ol l => obtain ⟨p, vs, rfl, _, e, r⟩ := h4; cases hf; exact .lst e (r.mono o.sub)
  | ok l => obtain ⟨p, rfl, _, e⟩ := h4; cases hf; exact .dk e
  | ot l => obtain ⟨p, rfl, _, e⟩ := h4; cases hf; exact .dt e
theorem de_int {i j} (h : Φ (.int i)) : DM X m (.Constant (.int i) j pos) δ Φ := dm_atom fun Bs B Hs H σ o Q q => WE.of pe_int (q (.int i) Hs H (Go.refl o.sub) h)
theorem de_bl {i j} (h : Φ (.bl i)) : DM X m (.Constant (.bool i) j pos) δ Φ := dm_atom fun Bs B Hs H σ o Q q => WE.of pe_bl (q (.bl i) Hs H (Go.refl o.sub) h)
theorem de_non {j} (h : Φ .non) : DM X m (.Constant .none j pos) δ Φ := dm_atom fun Bs B Hs H σ o Q q => WE.of pe_non (q .non Hs H (Go.refl o.sub) h)
theorem de_str {i j} (h : Φ (.str i)) : DM X m (.Constant (.str i) j pos) δ Φ := dm_atom fun Bs B Hs H σ o Q q => WE.of pe_str (q (.str i) Hs H (Go.refl o.sub) h)
theorem de_glob (S : Sc M X k N sc cs) {v : V} {u : Value} (hg : glB sc x = true) (hm : M.mg x = some u) (r : RelV v u) (h : Φ (.a v)) : DM X m (.Name x pos) δ Φ := dm_atom fun Bs B Hs H σ o Q q => by
  obtain ⟨g1, g2, g3⟩ := glB_ok hg
  exact WE.of (pe_glob (by show X.env.scope.names.lookup x = _; rw [S.hsc]; exact g1) (by rw [S.hmg]; exact hm) r g2) (q v Hs H (Go.refl o.sub) h)
theorem de_bltn (S : Sc M X k N sc cs) {v : V} {u : Value} (hg : glB sc x = true) (hm : M.mg x = none) (hv : bootBuiltins x = some u) (r : RelV v u) (h : Φ (.a v)) : DM X m (.Name x pos) δ Φ := dm_atom fun Bs B Hs H σ o Q q => by
  obtain ⟨g1, g2, g3⟩ := glB_ok hg
  exact WE.of (pe_bltn (by show X.env.scope.names.lookup x = _; rw [S.hsc]; exact g1) (by rw [S.hmg]; exact hm) hv r g3 g2) (q v Hs H (Go.refl o.sub) h)

/-! ### operators -/
/-- the weakest reading of an operator -/
def rW (X : Cx) (f : Value → Value → Sem Value) : R2 := fun x y H Q => ∀ pins s σ v u, Inv X pins σ H s → RelV x v → RelV y u → wpAny (model X.prog X.w) X.A (f v u) (EP X pins σ Q) X.xe s
theorem rW_ok {f : Value → Value → Sem Value} : OpR X f (rW X f) := fun pins s σ H x y v u Q I rx ry h => h pins s σ v u I rx ry
theorem rW_of {f : Value → Value → Sem Value} {r : R2} (h : OpR X f r) {x y : V} {H : Hp} {Q : VK} (q : r x y H Q) : rW X f x y H Q := fun pins s σ v u I rx ry => h pins s σ H x y v u Q I rx ry q
/-- an operation on values: operands stable, the result too -/
def OW (X : Cx) (f : Value → Value → Sem Value) (x y : Da) (Φ : Da → Prop) : Prop := ∀ Hs H v w, Same Hs H → Rp X.K Hs x v → Rp X.K Hs y w → ∀ Q : VK, (∀ d z Hs' H', Go Hs H Hs' H' → Φ d → Rp X.K Hs' d z → Q z H') → rW X f v w H Q
theorem de_bin {op : Operator} (h : DE X a δ fun x => DE X b δ fun y => OW X (binaryOp op) x y Φ) : DM X m (.BinOp a op b pos) δ Φ := DM.of <| .mk fun Bs B Hs H σ o Q q =>
  WE.of (pe_op rW_ok pe_W pe_W) (h Bs B Hs H σ o _ fun x v Hs1 H1 g1 hb r1 => hb Bs B Hs1 H1 σ (o.mono g1) _ fun y w Hs2 H2 g2 hc r2 =>
    hc Hs2 H2 v w g2.sub (Rp.mono g2.ss r1) r2 Q fun d z Hs3 H3 g3 p r3 => q d z Hs3 H3 ((g1.trans g2).trans g3) p r3)
/-- .. that gives an atom and leaves the heap -/
theorem ow_atom {f : Value → Value → Sem Value} {r : R2} (hr : OpR X f r) {v w z : V} (hq : ∀ (H : Hp) (Q : VK), Q z H → r v w H Q) (h : Φ (.a z)) : OW X f (.a v) (.a w) Φ := fun Hs H v' w' e r1 r2 Q q => by
  cases r1.atom
  cases r2.atom
  exact rW_of hr (hq H Q (q (.a z) z Hs H (Go.refl e) h (.a z)))
inductive AddW (Φ : Da → Prop) : Da → Da → Prop
  | int {i j : Int} : Φ (.int (i + j)) → AddW Φ (.int i) (.int j)
  | str {i j : Str} : i.length + j.length ≤ sizeLine → Φ (.str (i ++ j)) → AddW Φ (.str i) (.str j)
  | lst {l r : List Da} : l.length + r.length ≤ sizeLine → Φ (.lst (l ++ r)) → AddW Φ (.lst l) (.lst r)
  | tup {l r : List Da} : l.length + r.length ≤ sizeLine → Φ (.tup (l ++ r)) → AddW Φ (.tup l) (.tup r)
theorem de_add (h : DE X a δ fun x => DE X b δ fun y => AddW Φ x y) : DM X m (.BinOp a .Add b pos) δ Φ := de_bin (h.imp fun x hx => hx.imp fun y hy => by
  cases hy with
  | int h => exact ow_atom op_add (fun H Q q => ⟨_, _, rfl, rfl, q⟩) h
  | str hl h => exact ow_atom op_add_str (fun H Q q => ⟨_, _, rfl, rfl, hl, q⟩) h
  | lst hl h =>
    intro Hs H v w e r1 r2 Q q
    obtain ⟨p1, vs, rfl, h1, a1⟩ := r1.lst_inv
    obtain ⟨p2, ws, rfl, h2, a2⟩ := r2.lst_inv
    refine rW_of op_cat ⟨p1, p2, vs, ws, rfl, rfl, e _ _ h1, e _ _ h2, by rw [← a1.len, ← a2.len]; exact hl, fun p hp => q _ _ _ _ (Go.new e hp) h ?_⟩
    exact .lst upd_same ((a1.app a2).mono (same_upd (e.free hp)))
  | tup hl h =>
    intro Hs H v w e r1 r2 Q q
    obtain ⟨p1, vs, rfl, h1, a1⟩ := r1.tup_inv
    obtain ⟨p2, ws, rfl, h2, a2⟩ := r2.tup_inv
    refine rW_of op_catA ⟨p1, p2, vs, ws, rfl, rfl, .of (e _ _ h1), .of (e _ _ h2), by rw [← a1.len, ← a2.len]; exact hl, fun z => ?_, fun _ z => ?_, fun _ _ p hp => q _ _ _ _ (Go.new e hp) h ?_⟩
    · subst z
      cases a1
      exact q _ _ _ _ (Go.refl e) h r2
    · subst z
      cases a2
      rw [List.append_nil] at h
      exact q _ _ _ _ (Go.refl e) h r1
    · exact .tup upd_same ((a1.app a2).mono (same_upd (e.free hp))))
/-- two numbers, what is asked of them, what comes -/
inductive IntW (C : Int → Int → Prop) (g : Int → Int → Int) (Φ : Da → Prop) : Da → Da → Prop
  | mk {i j : Int} : C i j → Φ (.int (g i j)) → IntW C g Φ (.int i) (.int j)
theorem de_sub (h : DE X a δ fun x => DE X b δ fun y => IntW (fun _ _ => True) (fun i j => i - j) Φ x y) : DM X m (.BinOp a .Sub b pos) δ Φ := de_bin (h.imp fun x hx => hx.imp fun y hy => by
  cases hy with
  | mk hc h => exact ow_atom op_sub (fun H Q q => ⟨_, _, rfl, rfl, q⟩) h)
theorem de_mul (h : DE X a δ fun x => DE X b δ fun y => IntW (fun i j => CMul i j ∨ CMulW i j) (fun i j => i * j) Φ x y) : DM X m (.BinOp a .Mult b pos) δ Φ := de_bin (h.imp fun x hx => hx.imp fun y hy => by
  cases hy with
  | mk hc h =>
    rcases hc with hc | hc
    · exact ow_atom op_mul (fun H Q q => ⟨_, _, rfl, rfl, hc, q⟩) h
    · exact ow_atom op_mulW (fun H Q q => ⟨_, _, rfl, rfl, hc, q⟩) h)
theorem de_mod (h : DE X a δ fun x => DE X b δ fun y => IntW (fun _ j => 0 < j) (fun i j => i % j) Φ x y) : DM X m (.BinOp a .Mod b pos) δ Φ := de_bin (h.imp fun x hx => hx.imp fun y hy => by
  cases hy with
  | mk hc h => exact ow_atom op_mod (fun H Q q => ⟨_, _, rfl, rfl, hc, q⟩) h)
theorem de_fdiv (h : DE X a δ fun x => DE X b δ fun y => IntW (fun _ j => 0 < j ∧ j < 1073741824) (fun i j => i / j) Φ x y) : DM X m (.BinOp a .FloorDiv b pos) δ Φ := de_bin (h.imp fun x hx => hx.imp fun y hy => by
  cases hy with
  | mk hc h => exact ow_atom op_fdiv (fun H Q q => ⟨_, _, rfl, rfl, hc, q⟩) h)
theorem de_pow (h : DE X a δ fun x => DE X b δ fun y => IntW CPow (fun i j => i ^ j.toNat) Φ x y) : DM X m (.BinOp a .Pow b pos) δ Φ := de_bin (h.imp fun x hx => hx.imp fun y hy => by
  cases hy with
  | mk hc h => exact ow_atom op_pow (fun H Q q => ⟨_, _, rfl, rfl, hc, q⟩) h)
theorem de_neg (h : DE X a δ fun x => ∃ i, x = .int i ∧ Φ (.int (-i))) : DM X m (.UnaryOp .USub a pos) δ Φ := DM.of <| .mk fun Bs B Hs H σ o Q q =>
  WE.of (pe_un un_neg pe_W) (h Bs B Hs H σ o _ fun x v Hs1 H1 g1 ⟨i, e, hb⟩ r1 => by
    subst e
    cases r1.atom
    exact ⟨i, rfl, q _ _ Hs1 H1 g1 hb (.a _)⟩)

/-! ### comparisons -/
/-- data that == tells -/
def Da.py : Da → PyData
  | .a .non => .none
  | .a (.bl b) => .bool b
  | .a (.int i) => .int i
  | .a (.str x) => .str x
  | .lst l => .list (l.map Da.py)
  | .tup l => .tuple (l.map Da.py)
  | _ => .none
mutual
inductive Pl : Da → Prop
  | non : Pl .non
  | bl (b : Bool) : Pl (.bl b)
  | int (i : Int) : Pl (.int i)
  | str (x : Str) : Pl (.str x)
  | lst {l : List Da} : PlAll l → Pl (.lst l)
  | tup {l : List Da} : PlAll l → Pl (.tup l)
inductive PlAll : List Da → Prop
  | nil : PlAll []
  | cons {d : Da} {l : List Da} : Pl d → PlAll l → PlAll (d :: l)
end
mutual
theorem Rp.dp {K : PySem.W.Frag} {H : Hp} : ∀ {d : Da} {v : V}, Pl d → Rp K H d v → Dp K H v d.py
  | _, _, .non, .a _ => by rw [Da.py]; exact .non
  | _, _, .bl b, .a _ => by rw [Da.py]; exact .bl b
  | _, _, .int i, .a _ => by rw [Da.py]; exact .int i
  | _, _, .str x, .a _ => by rw [Da.py]; exact .str x
  | _, _, .lst p, .lst h r => by rw [Da.py]; exact .lst (.of h) (RpAll.dp p r)
  | _, _, .tup p, .tup h r => by rw [Da.py]; exact .tup (.of h) (RpAll.dp p r)
theorem RpAll.dp {K : PySem.W.Frag} {H : Hp} : ∀ {ds : List Da} {vs : List V}, PlAll ds → RpAll K H ds vs → DpAll K H vs (ds.map Da.py)
  | _, _, .nil, .nil => .nil
  | _, _, .cons p ps, .cons r rs => .cons (Rp.dp p r) (RpAll.dp ps rs)
end
inductive CmpW (Φ : Bool → Prop) : CmpOp → Da → Da → Prop
  | eqS {x y : V} : scal x y = true → Φ (decide (x = y)) → CmpW Φ .Eq (.a x) (.a y)
  | neS {x y : V} : scal x y = true → Φ (!decide (x = y)) → CmpW Φ .NotEq (.a x) (.a y)
  | eqD {x y : Da} : Pl x → Pl y → SeqAt.shaped x.py = true → SeqAt.shaped y.py = true → Φ (PyData.eqv x.py y.py) → CmpW Φ .Eq x y
  | neD {x y : Da} : Pl x → Pl y → SeqAt.shaped x.py = true → SeqAt.shaped y.py = true → Φ (!PyData.eqv x.py y.py) → CmpW Φ .NotEq x y
  | lt {i j : Int} : Φ (decide (i < j)) → CmpW Φ .Lt (.int i) (.int j)
  | le {i j : Int} : Φ (decide (i ≤ j)) → CmpW Φ .LtE (.int i) (.int j)
  | gt {i j : Int} : Φ (decide (j < i)) → CmpW Φ .Gt (.int i) (.int j)
  | ge {i j : Int} : Φ (decide (j ≤ i)) → CmpW Φ .GtE (.int i) (.int j)
  | ltS {i j : Str} : Φ (decide (i.cps.toList < j.cps.toList)) → CmpW Φ .Lt (.str i) (.str j)
  | inS {c : Nat} {z : Str} : Φ (decide (c ∈ z.cps.toList)) → CmpW Φ .In (.str ⟨#[c]⟩) (.str z)
  | notInS {c : Nat} {z : Str} : Φ (!decide (c ∈ z.cps.toList)) → CmpW Φ .NotIn (.str ⟨#[c]⟩) (.str z)
  | isN {x : V} : Φ (decide (x = .non)) → CmpW Φ .Is (.a x) .non
  | notN {x : V} : Φ (!decide (x = .non)) → CmpW Φ .IsNot (.a x) .non
theorem cmp_run (S : Sc M X k N sc cs) {Φ : Bool → Prop} {op : CmpOp} {x y : Da} {H : Hp} {v w : V} (h : CmpW Φ op x y) (rx : Rp X.K H x v) (ry : Rp X.K H y w) {Q : VK} (q : ∀ c, Φ c → Q (.bl c) H) : rW X (compareOp op) v w H Q := by
  cases h with
  | eqS hs h => cases rx.atom; cases ry.atom; exact rW_of op_eq ⟨hs, q _ h⟩
  | neS hs h => cases rx.atom; cases ry.atom; exact rW_of op_ne ⟨hs, q _ h⟩
  | eqD p1 p2 s1 s2 h => exact rW_of (op_eqD S.room.units) ⟨_, _, rx.dp p1, ry.dp p2, s1, s2, q _ h⟩
  | neD p1 p2 s1 s2 h => exact rW_of (op_neD S.room.units) ⟨_, _, rx.dp p1, ry.dp p2, s1, s2, q _ h⟩
  | lt h => cases rx.atom; cases ry.atom; exact rW_of op_lt ⟨_, _, rfl, rfl, q _ h⟩
  | le h => cases rx.atom; cases ry.atom; exact rW_of op_le ⟨_, _, rfl, rfl, q _ h⟩
  | gt h => cases rx.atom; cases ry.atom; exact rW_of op_gt ⟨_, _, rfl, rfl, q _ h⟩
  | ge h => cases rx.atom; cases ry.atom; exact rW_of op_ge ⟨_, _, rfl, rfl, q _ h⟩
  | ltS h => cases rx.atom; cases ry.atom; exact rW_of op_lt_str ⟨_, _, rfl, rfl, q _ h⟩
  | inS h => cases rx.atom; cases ry.atom; exact rW_of op_in_sign ⟨_, _, rfl, rfl, q _ h⟩
  | notInS h => cases rx.atom; cases ry.atom; exact rW_of op_notIn_sign ⟨_, _, rfl, rfl, q _ h⟩
  | isN h => cases rx.atom; cases ry.atom; exact rW_of op_isN ⟨rfl, q _ h⟩
  | notN h => cases rx.atom; cases ry.atom; exact rW_of op_notN ⟨rfl, q _ h⟩
theorem de_cmp (S : Sc M X k N sc cs) {op : CmpOp} (hm : behindInMarks op b = false) (h : DV X a δ fun x => DV X b δ fun y => CmpW (fun c => Φ (.bl c)) op x y) : DM X m (.Compare a [op] [b] pos) δ Φ := DM.of <| .mk fun Bs B Hs H σ o Q q =>
  WE.of (pe_cmpR rW_ok pe_W pe_W hm) (h Bs B Hs H σ o _ fun x v Hs1 H1 g1 hb r1 => hb Bs B Hs1 H1 σ (o.mono g1) _ fun y w Hs2 H2 g2 hc r2 =>
    cmp_run S hc (Rp.mono g2.hh r1) r2 fun c p => q (.bl c) (.bl c) Hs2 H2 (g1.trans g2) p (.a _))
theorem dt_cmp (S : Sc M X k N sc cs) {Φ : Bool → Prop} {op : CmpOp} (hm : behindInMarks op b = false) (h : DV X a δ fun x => DV X b δ fun y => CmpW Φ op x y) : DT X (.Compare a [op] [b] pos) δ Φ := .mk fun Bs B Hs H σ o Q q =>
  WT.of (pt_cmpR rW_ok pe_W pe_W hm) (h Bs B Hs H σ o _ fun x v Hs1 H1 g1 hb r1 => hb Bs B Hs1 H1 σ (o.mono g1) _ fun y w Hs2 H2 g2 hc r2 =>
    cmp_run S hc (Rp.mono g2.hh r1) r2 fun c p => ⟨c, rfl, q c Hs2 H2 (g1.trans g2) p⟩)
theorem de_chain (S : Sc M X k N sc cs) {op op' : CmpOp} {c : Expr} (h : DV X a δ fun x => DV X b δ fun y => CmpW (fun z => (z = true → DV X c δ fun y' => CmpW (fun c => Φ (.bl c)) op' y y') ∧ (z = false → Φ (.bl false))) op x y)
    (hm : lastMarks [op, op'] [b, c] = false := by with_unfolding_all rfl) : DM X m (.Compare a [op, op'] [b, c] pos) δ Φ := DM.of <| .mk fun Bs B Hs H σ o Q q =>
  WE.of (pe_chain rW_ok rW_ok pe_W pe_W pe_W hm) (h Bs B Hs H σ o _ fun x v Hs1 H1 g1 hb r1 => hb Bs B Hs1 H1 σ (o.mono g1) _ fun y w Hs2 H2 g2 hc r2 =>
    cmp_run S hc (Rp.mono g2.hh r1) r2 fun z p => ⟨z, rfl, by
      cases z with
      | true => exact iteT (p.1 rfl Bs B Hs2 H2 σ ((o.mono g1).mono g2) _ fun y' w' Hs3 H3 g3 hd r3 => cmp_run S hd (Rp.mono g3.hh r2) r3 fun c p => q (.bl c) (.bl c) Hs3 H3 ((g1.trans g2).trans g3) p (.a _))
      | false => exact iteF (q (.bl false) (.bl false) Hs2 H2 (g1.trans g2) (p.2 rfl) (.a _))⟩)
theorem dt_chain (S : Sc M X k N sc cs) {Φ : Bool → Prop} {op op' : CmpOp} {c : Expr} (h : DV X a δ fun x => DV X b δ fun y => CmpW (fun z => (z = true → DV X c δ fun y' => CmpW Φ op' y y') ∧ (z = false → Φ false)) op x y)
    (hm : lastMarks [op, op'] [b, c] = false := by with_unfolding_all rfl) : DT X (.Compare a [op, op'] [b, c] pos) δ Φ := .mk fun Bs B Hs H σ o Q q =>
  WT.of (pt_chain rW_ok rW_ok pe_W pe_W pe_W hm) (h Bs B Hs H σ o _ fun x v Hs1 H1 g1 hb r1 => hb Bs B Hs1 H1 σ (o.mono g1) _ fun y w Hs2 H2 g2 hc r2 =>
    cmp_run S hc (Rp.mono g2.hh r1) r2 fun z p => ⟨z, rfl, by
      cases z with
      | true => exact iteT (p.1 rfl Bs B Hs2 H2 σ ((o.mono g1).mono g2) _ fun y' w' Hs3 H3 g3 hd r3 => cmp_run S hd (Rp.mono g3.hh r2) r3 fun c p => ⟨c, rfl, q c Hs3 H3 ((g1.trans g2).trans g3) p⟩)
      | false => exact iteF ⟨false, rfl, q false Hs2 H2 (g1.trans g2) (p.2 rfl)⟩⟩)

/-! ### tests -/
theorem DT.imp {Φ Ψ : Bool → Prop} (h : DT X e δ Φ) (hi : ∀ c, Φ c → Ψ c) : DT X e δ Ψ := .mk fun Bs B Hs H σ o Q q => h Bs B Hs H σ o Q fun c Hs' H' g p => q c Hs' H' g (hi c p)
theorem dt_val {Φ : Bool → Prop} (h : DV X e δ fun d => ∃ c, d = .bl c ∧ Φ c) (he : ∀ whole, isTrue e X.env whole = (do let v ← whole; standAt e.pos; holding [v] (truthy v)) := by intro _; rfl) : DT X e δ Φ := .mk fun Bs B Hs H σ o Q q =>
  WT.of (pt_val pe_W he) (h Bs B Hs H σ o _ fun d v Hs' H' g ⟨c, e1, p⟩ r => by
    subst e1
    cases r.atom
    exact ⟨c, rfl, q c Hs' H' g p⟩)
theorem dt_w {Φ : Bool → Prop} (h : DW X e δ Φ) : DT X e δ Φ := .mk fun Bs B Hs H σ o Q q => WT.of (pw_W.pt) (h Bs B Hs H σ o Q q)
theorem dw_and1 {Φ : Bool → Prop} (h : DT X a δ Φ) : DW X (.BoolOp .And [a] pos) δ Φ := .mk fun Bs B Hs H σ o Q q => WW.of (pw_and1 pt_W) (h Bs B Hs H σ o Q q)
theorem dw_or1 {Φ : Bool → Prop} (h : DT X a δ Φ) : DW X (.BoolOp .Or [a] pos) δ Φ := .mk fun Bs B Hs H σ o Q q => WW.of (pw_or1 pt_W) (h Bs B Hs H σ o Q q)
theorem dw_and {Φ : Bool → Prop} (h : DT X a δ fun c => (c = true → DW X (.BoolOp .And (b :: es) pos) δ Φ) ∧ (c = false → Φ false)) : DW X (.BoolOp .And (a :: b :: es) pos) δ Φ := .mk fun Bs B Hs H σ o Q q =>
  WW.of (pw_and pt_W pw_W) (h Bs B Hs H σ o _ fun c Hs' H' g p => by
    cases c with
    | true => exact iteT (p.1 rfl Bs B Hs' H' σ (o.mono g) Q fun c Hs2 H2 g2 p => q c Hs2 H2 (g.trans g2) p)
    | false => exact iteF (q false Hs' H' g (p.2 rfl)))
theorem dw_or {Φ : Bool → Prop} (h : DT X a δ fun c => (c = true → Φ true) ∧ (c = false → DW X (.BoolOp .Or (b :: es) pos) δ Φ)) : DW X (.BoolOp .Or (a :: b :: es) pos) δ Φ := .mk fun Bs B Hs H σ o Q q =>
  WW.of (pw_or pt_W pw_W) (h Bs B Hs H σ o _ fun c Hs' H' g p => by
    cases c with
    | true => exact iteT (q true Hs' H' g (p.1 rfl))
    | false => exact iteF (p.2 rfl Bs B Hs' H' σ (o.mono g) Q fun c Hs2 H2 g2 p => q c Hs2 H2 (g.trans g2) p))
theorem dt_not {Φ : Bool → Prop} (h : DT X a δ fun c => Φ (!c)) : DT X (.UnaryOp .Not a pos) δ Φ := .mk fun Bs B Hs H σ o Q q => WT.of (pt_not pt_W) (h Bs B Hs H σ o _ fun c Hs' H' g p => q (!c) Hs' H' g p)
/-- .. as values -/
theorem de_one {op} (h : DM X m a δ Φ) : DM X m (.BoolOp op [a] pos) δ Φ := .mk fun Bs B Hs H σ o Q q => WE.of (pe_one pe_W) (h Bs B Hs H σ o Q q)
theorem de_and (h : DV X a δ fun d => ∃ c, d = .bl c ∧ (c = true → DM X m (.BoolOp .And (b :: es) pos) δ Φ) ∧ (c = false → Φ (.bl false))) : DM X m (.BoolOp .And (a :: b :: es) pos) δ Φ := .mk fun Bs B Hs H σ o Q q =>
  WE.of (pe_and pe_W pe_W) (h Bs B Hs H σ o _ fun d v Hs' H' g ⟨c, e1, p1, p2⟩ r => by
    subst e1
    cases r.atom
    refine ⟨c, rfl, ?_⟩
    cases c with
    | true => exact iteT (p1 rfl Bs B Hs' H' σ (o.mono g) Q fun d v Hs2 H2 g2 p r => q d v Hs2 H2 (g.trans g2) p r)
    | false => exact iteF (q (.bl false) _ Hs' H' g (p2 rfl) (.of g.sub (.a _))))
theorem de_or (h : DV X a δ fun d => ∃ c, d = .bl c ∧ (c = true → Φ (.bl true)) ∧ (c = false → DM X m (.BoolOp .Or (b :: es) pos) δ Φ)) : DM X m (.BoolOp .Or (a :: b :: es) pos) δ Φ := .mk fun Bs B Hs H σ o Q q =>
  WE.of (pe_or pe_W pe_W) (h Bs B Hs H σ o _ fun d v Hs' H' g ⟨c, e1, p1, p2⟩ r => by
    subst e1
    cases r.atom
    refine ⟨c, rfl, ?_⟩
    cases c with
    | true => exact iteT (q (.bl true) _ Hs' H' g (p1 rfl) (.of g.sub (.a _)))
    | false => exact iteF (p2 rfl Bs B Hs' H' σ (o.mono g) Q fun d v Hs2 H2 g2 p r => q d v Hs2 H2 (g.trans g2) p r))
theorem de_not (h : DV X a δ fun d => ∃ c, d = .bl c ∧ Φ (.bl (!c))) : DM X m (.UnaryOp .Not a pos) δ Φ := DM.of <| .mk fun Bs B Hs H σ o Q q =>
  WE.of (pe_not pe_W) (h Bs B Hs H σ o _ fun d v Hs' H' g ⟨c, e1, p⟩ r => by
    subst e1
    cases r.atom
    exact ⟨c, rfl, q _ _ Hs' H' g p (.a _)⟩)
theorem de_ifE {c : Expr} (h : DT X c δ fun z => (z = true → DM X m a δ Φ) ∧ (z = false → DM X m b δ Φ)) : DM X m (.IfExp c a b pos) δ Φ := .mk fun Bs B Hs H σ o Q q =>
  WE.of (pe_ifExp pt_W pe_W pe_W) (h Bs B Hs H σ o _ fun z Hs' H' g p => by
    cases z with
    | true => exact iteT (p.1 rfl Bs B Hs' H' σ (o.mono g) Q fun d v Hs2 H2 g2 p r => q d v Hs2 H2 (g.trans g2) p r)
    | false => exact iteF (p.2 rfl Bs B Hs' H' σ (o.mono g) Q fun d v Hs2 H2 g2 p r => q d v Hs2 H2 (g.trans g2) p r))
end
end DL

/-! DL3: arguments, displays, places, slices, calls, methods, loops, comprehensions, statements, defs. -/
namespace DL
open PySem PySem.Spec PyProof.Rows L2
section
variable {M : Md} {X : Cx} {k : Nat} {N : List Str} {sc cs : Scope} {δ δ' : Sg} {m : Bool} {Φ Ψ : Da → Prop} {x : Str} {pos p2 p3 apos : Pos} {e a b o : Expr} {es : List Expr}

/-! ### argument lists -/
theorem da_nil {Φ : List Da → Prop} (h : Φ []) : DA X [] [] δ Φ := .mk fun Bs B Hs H σ o Q q => WA.of pa_nil (q [] [] Hs H (Go.refl o.sub) h .nil)
theorem da_cons {ms : List Bool} {Φ : List Da → Prop} (h : DM X m e δ fun d => DA X ms es δ fun ds => Φ (d :: ds)) (hs : starEach (e :: es) X.env = (false, eval e X.env) :: starEach es X.env := by rfl) : DA X (m :: ms) (e :: es) δ Φ := .mk fun Bs B Hs H σ o Q q =>
  WA.of (pa_cons pe_W pa_W hs) (h Bs B Hs H σ o _ fun d v Hs1 H1 g1 hb r1 => hb Bs B Hs1 H1 σ (o.mono g1) _ fun ds vs Hs2 H2 g2 p r2 => q _ _ Hs2 H2 (g1.trans g2) p (.cons (r1.mono g2) r2))
/-- .. all stable -/
structure DAt (X : Cx) (es : List Expr) (δ : Sg) (Φ : List Da → Prop) : Prop where
  run : ∀ Bs B Hs H σ, Ok X.K Bs B Hs H σ δ → ∀ Q : List V → Hp → Prop, (∀ ds vs Hs' H', Go Hs H Hs' H' → Φ ds → RpAll X.K Hs' ds vs → ds.length = es.length → Q vs H') → WA X es σ H Q
instance {X : Cx} {es : List Expr} {δ : Sg} {Φ : List Da → Prop} : CoeFun (DAt X es δ Φ) (fun _ => ∀ Bs B Hs H σ, Ok X.K Bs B Hs H σ δ → ∀ Q : List V → Hp → Prop, (∀ ds vs Hs' H', Go Hs H Hs' H' → Φ ds → RpAll X.K Hs' ds vs → ds.length = es.length → Q vs H') → WA X es σ H Q) := ⟨fun h => h.run⟩
theorem dat_nil {Φ : List Da → Prop} (h : Φ []) : DAt X [] δ Φ := .mk fun Bs B Hs H σ o Q q => WA.of pa_nil (q [] [] Hs H (Go.refl o.sub) h .nil rfl)
theorem dat_cons {Φ : List Da → Prop} (h : DE X e δ fun d => DAt X es δ fun ds => Φ (d :: ds)) (hs : starEach (e :: es) X.env = (false, eval e X.env) :: starEach es X.env := by rfl) : DAt X (e :: es) δ Φ := .mk fun Bs B Hs H σ o Q q =>
  WA.of (pa_cons pe_W pa_W hs) (h Bs B Hs H σ o _ fun d v Hs1 H1 g1 hb r1 => hb Bs B Hs1 H1 σ (o.mono g1) _ fun ds vs Hs2 H2 g2 p r2 hl => q _ _ Hs2 H2 (g1.trans g2) p (.cons (Rp.mono g2.ss r1) r2) (by simp [hl]))
/-! ### displays -/
theorem de_tup {j} (h : DAt X es δ fun ds => Φ (.tup ds)) (hl : es.length ≤ sizeLine := by decide) : DM X m (.Tuple es j pos) δ Φ := DM.of <| .mk fun Bs B Hs H σ o Q q =>
  WE.of (pe_tup pa_W) (h Bs B Hs H σ o _ fun ds vs Hs1 H1 g1 p r hd => ⟨by rw [← r.len, hd]; exact hl, fun a ha => q _ _ _ _ (g1.trans (Go.new g1.sub ha)) p (.tup upd_same (r.mono (same_upd (g1.sub.free ha))))⟩)
theorem de_lst (h : DAt X es δ fun ds => Φ (.lst ds)) (hl : es.length ≤ sizeLine := by decide) : DM X m (.List es pos) δ Φ := DM.of <| .mk fun Bs B Hs H σ o Q q =>
  WE.of (pe_lst pa_W) (h Bs B Hs H σ o _ fun ds vs Hs1 H1 g1 p r hd => ⟨by rw [← r.len, hd]; exact hl, fun a ha => q _ _ _ _ (g1.trans (Go.new g1.sub ha)) p (.lst upd_same (r.mono (same_upd (g1.sub.free ha))))⟩)

/-! ### a[b] -/
def rIW (X : Cx) (f : Expr → Expr → Prop) : R2 := fun x y H Q => ∀ (value slice : Expr) pins s σ v u, Inv X pins σ H s → RelV x v → RelV y u →
  subscripted slice false v u = operate [v, u] (getItem v u) → wpAny (model X.prog X.w) X.A (subscriptTail value slice v u) (EP X pins σ Q) X.xe s
abbrev rIx0 (X : Cx) : R2 := rIW X fun _ _ => True
theorem rIx0_ok : IxR X (rIx0 X) := fun value slice pins s σ H x y v u Q I rx ry h hs => h value slice pins s σ v u I rx ry hs
theorem rIx0_of {r : R2} (h : IxR X r) {x y : V} {H : Hp} {Q : VK} (q : r x y H Q) : rIx0 X x y H Q := fun value slice pins s σ v u I rx ry hs => h value slice pins s σ H x y v u Q I rx ry q hs
theorem ix_dict (hu : X.A.units + 1 < cLine) : IxR X (fun x y H Q => ∃ a v, x = .ref a ∧ DGet H a y (some v) ∧ Q v H) := by
  rintro value slice pins s σ H x y _ u Q I rx ry ⟨a, z, rfl, g, q⟩ hs
  cases rx
  have hT := dict_typeIs I g
  unfold subscriptTail
  apply wpAny_bind
  rw [getitemInPython_of_ne (hT.not_modules)]
  refine wpAny_bind (wpAny_specialOf hT PySem.F.slot_dict_getitem.lookup ?_)
  have fin : wpAny (model X.prog X.w) X.A (subscripted slice false (.ref a) u) (fun r s₃ => wpAny (model X.prog X.w) X.A (letTemporaryGo value (.ref a) r >>= fun _ => pure r) (EP X pins σ Q) X.xe s₃) X.xe s := by
    rw [hs]
    exact wpAny_operating (wpAny_mono (d_getItem hu I g ry fun w' s3 I3 rw' => (⟨z, H, I3, rw', q⟩ : EP X pins σ Q w' s3)) (fun r s₃ h₃ => wpAny_bind (wpAny_letTemporaryGo (wpAny_pure h₃))) fun _ _ x => x)
  have fin2 := wpAny_bind fin
  first | exact wpAny_pure fin2 | exact wpAny_bind (wpAny_pure fin2) | exact fin2
/-- draws[0], draws[1]: a whole number -/
theorem ix_drw : IxR X (fun x y H Q => ∃ p i, x = .ref p ∧ H p = some (.ext (Drw p)) ∧ y = .int i ∧ (i = 0 ∨ i = 1) ∧ ∀ z, (i = 1 → 0 ≤ z ∧ z < 2147483648) → Q (.int z) H) := by
  rintro value slice pins s σ H x y v u Q I rx ry ⟨p, i, rfl, hp, rfl, hi, q⟩ hs
  cases rx
  obtain ⟨t, rfl⟩ := ry
  obtain ⟨⟨n, a, b, ta, tb, ho, hb⟩, _, _⟩ := I.hok p _ hp
  have hl : s.heap.IsList p #[.int a ta, .int b tb] := ⟨_, ho, rfl, n, rfl⟩
  rcases hi with rfl | rfl
  · exact item_listR hl (by decide) (by decide) rfl ⟨.int a, H, I, ⟨_, rfl⟩, q a (fun z => nomatch z)⟩ hs
  · exact item_listR hl (by decide) (by decide) rfl ⟨.int b, H, I, ⟨_, rfl⟩, q b (fun _ => hb)⟩ hs
inductive IxW (Φ : Da → Prop) : Da → Da → Prop
  | lst {l : List Da} {i : Int} {d : Da} : atI l i = some d → Φ d → IxW Φ (.lst l) (.int i)
  | tup {l : List Da} {i : Int} {d : Da} : atI l i = some d → Φ d → IxW Φ (.tup l) (.int i)
  | str {z : Str} {i : Int} {c : Nat} : z.length ≤ sizeLine → atI z.cps.toList i = some c → Φ (.str ⟨#[c]⟩) → IxW Φ (.str z) (.int i)
  | drw {i : Int} : (i = 0 ∨ i = 1) → (∀ z, (i = 1 → 0 ≤ z ∧ z < 2147483648) → Φ (.int z)) → IxW Φ .drw (.int i)
  | scr {ns : List Int} {i z : Int} : atI ns i = some z → Φ (.int z) → IxW Φ (.scr ns) (.int i)
  | dk {kvs : List (Key × V)} {y : V} {q : Key} {v : V} : y = kV q → valV kvs q = some v → Φ (.a v) → IxW Φ (.dk kvs) (.a y)
  | dt {kvs : List (List Key × V)} {ks : List Da} {q : List Key} {v : V} : ks = (q.map kV).map Da.a → valV kvs q = some v → Φ (.a v) → IxW Φ (.dt kvs) (.tup ks)
theorem atI_rp {K : PySem.W.Frag} {H : Hp} {l : List Da} {vs : List V} {i : Int} {d : Da} (r : RpAll K H l vs) (h : atI l i = some d) : ∃ v, atI vs i = some v ∧ Rp K H d v := by
  unfold atI at h ⊢
  rw [← r.len]
  cases e : ixN l.length i with
  | none => rw [e] at h; cases h
  | some j =>
    rw [e] at h
    exact r.get h
theorem ix_run (S : Sc M X k N sc cs) {x y : Da} {Hc Hs H : Hp} {v w : V} (h : IxW Φ x y) (e1 : Same Hc H) (e2 : Same Hs H) (rx : Rp X.K Hc x v) (ry : Rp X.K Hs y w) {Q : VK} (q : ∀ d z, Φ d → Rp X.K Hc d z → Q z H) : rIx0 X v w H Q := by
  have hu : X.A.units + 1 < cLine := by have := S.room.units; omega
  cases h with
  | lst h p =>
    obtain ⟨a, vs, rfl, ha, r⟩ := rx.lst_inv
    cases ry.atom
    obtain ⟨z, hz, rz⟩ := atI_rp r h
    exact rIx0_of ix_list ⟨a, vs, _, z, rfl, rfl, .of (e1 _ _ ha), hz, q _ _ p rz⟩
  | tup h p =>
    obtain ⟨a, vs, rfl, ha, r⟩ := rx.tup_inv
    cases ry.atom
    obtain ⟨z, hz, rz⟩ := atI_rp r h
    exact rIx0_of ix_tup ⟨a, vs, _, z, rfl, rfl, .of (e1 _ _ ha), hz, q _ _ p rz⟩
  | str hl h p =>
    cases rx.atom
    cases ry.atom
    exact rIx0_of ix_str ⟨_, _, _, rfl, rfl, hl, h, q _ _ p (.a _)⟩
  | scr hz p =>
    cases ry.atom
    cases rx with
    | scr ha =>
      refine rIx0_of ix_list ⟨_, _, _, .int _, rfl, rfl, sqlS e1 ha, ?_, q _ _ p (.a _)⟩
      unfold atI at hz ⊢
      rw [List.length_map]
      cases hh : ixN _ _ with
      | none => rw [hh] at hz; cases hz
      | some j =>
        rw [hh] at hz
        have hz' : _ = _ := hz
        show (List.map V.int _)[j]? = _
        rw [List.getElem?_map]
        have hz2 := hz
        simp only [Option.bind_some] at hz2
        rw [hz2]
        rfl
  | drw hi p =>
    obtain ⟨a, rfl, ha⟩ := rx.drw_inv
    cases ry.atom
    exact rIx0_of ix_drw ⟨a, _, rfl, e1 _ _ ha, rfl, hi, fun z hz => q _ _ (p z hz) (.a _)⟩
  | dk ey h p =>
    obtain ⟨a, rfl, ha⟩ := rx.dk_inv
    cases ry.atom
    subst ey
    exact rIx0_of (ix_dict hu) ⟨a, _, rfl, .inl ⟨_, _, .inl (e1 _ _ ha), rfl, h.symm⟩, q _ _ p (.a _)⟩
  | dt ey h p =>
    obtain ⟨a, rfl, ha⟩ := rx.dt_inv
    obtain ⟨b, vs, rfl, hb, r⟩ := ry.tup_inv
    subst ey
    rw [r.atoms] at hb
    exact rIx0_of (ix_dict hu) ⟨a, _, rfl, .inr ⟨_, _, b, .inl (e1 _ _ ha), rfl, e2 _ _ hb, h.symm⟩, q _ _ p (.a _)⟩
theorem de_ix (S : Sc M X k N sc cs) (h : DM X m a δ fun x => DE X b δ fun y => IxW Φ x y) (hs : PlainIx b := by intro _ _; rfl) : DM X m (.Subscript a b pos) δ Φ := .mk fun Bs B Hs H σ o Q q =>
  WE.of (pe_ix rIx0_ok pe_W pe_W hs) (h Bs B Hs H σ o _ fun x v Hs1 H1 g1 hb r1 => hb Bs B Hs1 H1 σ (o.mono g1) _ fun y w Hs2 H2 g2 p r2 => by
    cases m with
    | true => exact ix_run S p g2.sub g2.sub (Rp.mono g2.ss r1) r2 fun d z pd rd => q d z Hs2 H2 (g1.trans g2) pd rd
    | false => exact ix_run S p (Same.refl _) g2.sub (Rp.mono g2.hh r1) r2 fun d z pd rd => q d z Hs2 H2 (g1.trans g2) pd rd)
/-- of an own object, an atom -/
theorem de_ixA (S : Sc M X k N sc cs) (h : DV X a δ fun x => DE X b δ fun y => IxW (fun d => ∃ v, d = .a v ∧ Φ (.a v)) x y) (hs : PlainIx b := by intro _ _; rfl) : DM X m (.Subscript a b pos) δ Φ := DM.of <| .mk fun Bs B Hs H σ o Q q =>
  WE.of (pe_ix rIx0_ok pe_W pe_W hs) (h Bs B Hs H σ o _ fun x v Hs1 H1 g1 hb r1 => hb Bs B Hs1 H1 σ (o.mono g1) _ fun y w Hs2 H2 g2 p r2 =>
    ix_run S p (Same.refl _) g2.sub (Rp.mono g2.hh r1) r2 fun d z ⟨v, e1, pd⟩ rd => by
      subst e1
      cases rd.atom
      exact q _ _ Hs2 H2 (g1.trans g2) pd (.a _))
/-- an item of an own list -/
theorem de_ixO (S : Sc M X k N sc cs) {l : List Da} (hg : Gt N δ x (.ol l)) (hv : visB sc x = true) (h : DE X b δ fun y => ∃ i d, y = .int i ∧ atI l i = some d ∧ Φ d) (hs : PlainIx b := by intro _ _; rfl) : DM X m (.Subscript (.Name x p2) b pos) δ Φ := DM.of <| .mk fun Bs B Hs H σ o Q q => by
  obtain ⟨i, h1, h2⟩ := hg.at
  obtain ⟨v, h3, p, vs, rfl, e1, e2, r⟩ := o.slot i _ h2
  obtain ⟨v1, v2, v3⟩ := visB_ok hv
  refine WE.of (pe_ix rIx0_ok (pe_var (i := i) (by rw [S.n]; exact h1) (by rw [S.hsc]; exact v1) v2 v3) pe_W hs) ⟨_, h3, h Bs B Hs H σ o _ fun y w Hs2 H2 g2 ⟨j, d, ey, hj, pd⟩ r2 => ?_⟩
  subst ey
  cases r2.atom
  obtain ⟨z, hz, rz⟩ := atI_rp r hj
  exact rIx0_of ix_list ⟨p, vs, _, z, rfl, rfl, .of (g2.hh _ _ e2), hz, q d z Hs2 H2 g2 pd (Rp.mono g2.ss rz)⟩

/-! ### slices -/
def DP (X : Cx) (o : Option Expr) (δ : Sg) (Φ : Option Int → Prop) : Prop := match o with
  | none => Φ none
  | some e => DE X e δ fun d => ∃ i, d = .int i ∧ Φ (some i)
def WP (X : Cx) (o : Option Expr) : TO := match o with
  | none => tNoPart
  | some e => tPart (WE X e)
theorem po_W {o : Option Expr} : PO X o (WP X o) := by
  cases o with
  | none => exact po_none
  | some e => exact po_some pe_W
theorem DP.run {oo : Option Expr} {Φ : Option Int → Prop} (h : DP X oo δ Φ) {Bs B Hs H : Hp} {σ : L2.St} (o : Ok X.K Bs B Hs H σ δ) {Q : Option Int → Hp → Prop} (q : ∀ i Hs' H', Go Hs H Hs' H' → Φ i → Q i H') : WP X oo σ H Q := by
  cases oo with
  | none => exact q none Hs H (Go.refl o.sub) h
  | some e =>
    refine (show DE X e δ _ from h) Bs B Hs H σ o _ fun d v Hs' H' g ⟨i, e1, p⟩ r => ?_
    subst e1
    cases r.atom
    exact ⟨i, rfl, q _ Hs' H' g p⟩
def cutL {α : Type} (xs : List α) (lo hi : Option Int) : List α := (xs.drop (HT.sIx xs.length 0 lo)).take (HT.sIx xs.length xs.length hi - HT.sIx xs.length 0 lo)
def rSW (X : Cx) : V → Option Int → Option Int → Hp → VK → Prop := fun x lo hi H Q => ∀ pins s σ v vl vu sl, Inv X pins σ H s → RelV x v → s.heap.IsSliceOf sl vl vu .none → IsPart vl lo → IsPart vu hi →
    ∃ T id, typeLookup (.type T) "__getitem__" = pure (some (.builtin id)) ∧ s.TypeIs v T ∧ wpAny (model X.prog X.w) X.A (getItem v (.ref sl)) (EP X pins σ Q) X.xe s
theorem rSW_ok : SlR X (rSW X) := fun pins s σ H x v vl vu lo hi sl Q I rx hs pl pu h => h pins s σ v vl vu sl I rx hs pl pu
theorem rSW_of {r : V → Option Int → Option Int → Hp → VK → Prop} (h : SlR X r) {x : V} {lo hi : Option Int} {H : Hp} {Q : VK} (q : r x lo hi H Q) : rSW X x lo hi H Q := fun pins s σ v vl vu sl I rx hs pl pu => h pins s σ H x v vl vu lo hi sl Q I rx hs pl pu q
inductive SlW (Φ : Da → Prop) (lo hi : Option Int) : Da → Prop
  | str {z : Str} : z.length ≤ sizeLine → Φ (.str (cutS z lo hi)) → SlW Φ lo hi (.str z)
  | lst {l : List Da} : Φ (.lst (cutL l lo hi)) → SlW Φ lo hi (.lst l)
  | tup {l : List Da} : Φ (.tup (cutL l lo hi)) → SlW Φ lo hi (.tup l)
theorem cutL_rp {K : PySem.W.Frag} {H : Hp} {l : List Da} {vs : List V} {lo hi : Option Int} (r : RpAll K H l vs) : RpAll K H (cutL l lo hi) (cutV vs lo hi) := by
  unfold cutL cutV
  rw [r.len]
  exact (r.drop _).take _
theorem de_slice {lo hi : Option Expr} (h : DE X a δ fun x => DP X lo δ fun l => DP X hi δ fun u => SlW Φ l u x) : DM X m (.Subscript a (.Slice lo hi none p2) pos) δ Φ := DM.of <| .mk fun Bs B Hs H σ o Q q =>
  WE.of (pe_slice rSW_ok pe_W po_W po_W) (h Bs B Hs H σ o _ fun x v Hs1 H1 g1 h1 r1 => h1.run (o.mono g1) fun l Hs2 H2 g2 h2 => h2.run ((o.mono g1).mono g2) fun u Hs3 H3 g3 h3 => by
    have r := Rp.mono (g2.trans g3).ss r1
    have g := (g1.trans g2).trans g3
    cases h3 with
    | str hl p => cases r.atom; exact rSW_of sl_str ⟨_, rfl, hl, q _ _ Hs3 H3 g p (.a _)⟩
    | lst p =>
      obtain ⟨a, vs, rfl, ha, ra⟩ := r.lst_inv
      exact rSW_of sl_list ⟨a, vs, rfl, .of (g3.sub _ _ ha), fun b hb => q _ _ _ _ (g.trans (Go.new g.sub hb)) p (.lst upd_same ((cutL_rp ra).mono (same_upd (g.sub.free hb))))⟩
    | @tup l' p =>
      obtain ⟨a, vs, rfl, ha, ra⟩ := r.tup_inv
      refine rSW_of sl_tupA ⟨a, vs, rfl, .of (g3.sub _ _ ha), fun z => q _ _ Hs3 H3 g p ?_, fun _ b hb => q _ _ _ _ (g.trans (Go.new g.sub hb)) p (.tup upd_same ((cutL_rp ra).mono (same_upd (g.sub.free hb))))⟩
      have e : cutL l' l u = l' := by
        unfold cutL
        rw [ra.len, z.1, z.2, Nat.sub_zero, List.drop_zero, ← ra.len, List.take_length]
      rw [e]
      exact .tup ha ra)

/-! ### calls of built-in functions -/
def rCW (X : Cx) (f : Value) : List V → Hp → VK → Prop := fun xs H Q => ∀ pins s σ us, Inv X pins σ H s → Vals xs us → wpAny (model X.prog X.w) X.A (call f us) (EP X pins σ Q) X.xe s
theorem rCW_ok {f : Value} : CallR X f (rCW X f) := fun pins s σ H xs us Q I r h => h pins s σ us I r
theorem rCW_of {f : Value} {r : List V → Hp → VK → Prop} (h : CallR X f r) {xs : List V} {H : Hp} {Q : VK} (q : r xs H Q) : rCW X f xs H Q := fun pins s σ us I rr => h pins s σ H xs us Q I rr q
def BW (X : Cx) (f : Value) (ds : List Da) (Φ : Da → Prop) : Prop := ∀ Hs H vs, Same Hs H → RpAll X.K Hs ds vs → ∀ Q : VK, (∀ d z Hs' H', Go Hs H Hs' H' → Φ d → Rp X.K Hs' d z → Q z H') → rCW X f vs H Q
theorem de_callB (S : Sc M X k N sc cs) {id : String} (hm : M.mg x = none) (hv : bootBuiltins x = some (.builtin id)) (hg : glB sc x = true) (h : DAt X (e :: es) δ fun ds => BW X (.builtin id) ds Φ)
    (he : starEach (e :: es) X.env = (false, eval e X.env) :: starEach es X.env := by rfl) (hpl : (backTo pos (starEach es X.env)).any (·.1) = false := by rfl) : DM X m (.Call (.Name x p2) (e :: es) [] pos) δ Φ := DM.of <| .mk fun Bs B Hs H σ o Q q => by
  obtain ⟨g1, g2, g3⟩ := glB_ok hg
  exact WE.of (pe_callB rCW_ok (by show X.env.scope.names.lookup x = _; rw [S.hsc]; exact g1) (by rw [S.hmg]; exact hm) hv pa_W g3 g2 he hpl) (h Bs B Hs H σ o _ fun ds vs Hs1 H1 gg p r _ => p Hs1 H1 vs gg.sub r Q fun d z Hs' H' g' pd rd => q d z Hs' H' (gg.trans g') pd rd)
theorem de_callTy (S : Sc M X k N sc cs) {T : String} (hm : M.mg x = none) (hv : bootBuiltins x = some (.type T)) (hg : glB sc x = true) (h : DAt X (e :: es) δ fun ds => BW X (.type T) ds Φ)
    (he : starEach (e :: es) X.env = (false, eval e X.env) :: starEach es X.env := by rfl) (hpl : (backTo pos (starEach es X.env)).any (·.1) = false := by rfl) : DM X m (.Call (.Name x p2) (e :: es) [] pos) δ Φ := DM.of <| .mk fun Bs B Hs H σ o Q q => by
  obtain ⟨g1, g2, g3⟩ := glB_ok hg
  exact WE.of (pe_callTy rCW_ok (by show X.env.scope.names.lookup x = _; rw [S.hsc]; exact g1) (by rw [S.hmg]; exact hm) hv pa_W g3 g2 he hpl) (h Bs B Hs H σ o _ fun ds vs Hs1 H1 gg p r _ => p Hs1 H1 vs gg.sub r Q fun d z Hs' H' g' pd rd => q d z Hs' H' (gg.trans g') pd rd)
theorem bw_atoms {f : Value} {r : List V → Hp → VK → Prop} (hr : CallR X f r) {xs : List V} {z : V} (hq : ∀ (H : Hp) (Q : VK), Q z H → r xs H Q) (h : Φ (.a z)) : BW X f (xs.map Da.a) Φ := fun Hs H vs e rr Q q => by
  rw [rr.atoms]
  exact rCW_of hr (hq H Q (q _ _ Hs H (Go.refl e) h (.a _)))
theorem bw_lenS {z : Str} (hl : z.length ≤ sizeLine) (h : Φ (.int z.length)) : BW X (.builtin "len") [.str z] Φ := bw_atoms (xs := [.str z]) call_len_str (fun H Q q => ⟨z, rfl, hl, q⟩) h
theorem bw_lenL {l : List Da} (h : Φ (.int l.length)) : BW X (.builtin "len") [.lst l] Φ := fun Hs H vs e rr Q q => by
  cases rr with
  | cons r t =>
    cases t
    obtain ⟨a, ws, rfl, ha, ra⟩ := r.lst_inv
    exact rCW_of call_len_seq ⟨a, ws, rfl, .inl (.of (e _ _ ha)), q _ _ Hs H (Go.refl e) h (by rw [ra.len]; exact .a _)⟩
theorem bw_lenT {l : List Da} (h : Φ (.int l.length)) : BW X (.builtin "len") [.tup l] Φ := fun Hs H vs e rr Q q => by
  cases rr with
  | cons r t =>
    cases t
    obtain ⟨a, ws, rfl, ha, ra⟩ := r.tup_inv
    exact rCW_of call_len_seq ⟨a, ws, rfl, .inr (.of (e _ _ ha)), q _ _ Hs H (Go.refl e) h (by rw [ra.len]; exact .a _)⟩
theorem bw_lenC {l : List Int} (h : Φ (.int l.length)) : BW X (.builtin "len") [.scr l] Φ := fun Hs H vs e rr Q q => by
  cases rr with
  | cons r t =>
    cases t
    cases r with
    | scr ha =>
      exact rCW_of call_len_seq ⟨_, _, rfl, .inl (sqlS e ha), q _ _ Hs H (Go.refl e) h (by rw [List.length_map]; exact .a _)⟩
theorem bw_max (S : Sc M X k N sc cs) {i j : Int} (h : Φ (.int (if j > i then j else i))) : BW X (.builtin "max") [.int i, .int j] Φ := bw_atoms (xs := [.int i, .int j]) (call_max2 S.calm) (fun H Q q => ⟨_, _, rfl, q⟩) h
theorem bw_min (S : Sc M X k N sc cs) {i j : Int} (h : Φ (.int (if j < i then j else i))) : BW X (.builtin "min") [.int i, .int j] Φ := bw_atoms (xs := [.int i, .int j]) (call_min2 S.calm) (fun H Q q => ⟨_, _, rfl, q⟩) h
theorem bw_abs {i : Int} (h : Φ (.int (if i < 0 then -i else i))) : BW X (.builtin "abs") [.int i] Φ := bw_atoms (xs := [.int i]) call_abs (fun H Q q => ⟨_, rfl, q⟩) h
theorem bw_intB {c : Bool} (h : Φ (.int (if c then 1 else 0))) : BW X (.type "int") [.bl c] Φ := bw_atoms (xs := [.bl c]) call_int1 (fun H Q q => .inr ⟨_, rfl, q⟩) h
theorem bw_tupleL {l : List Da} (h : Φ (.tup l)) : BW X (.type "tuple") [.lst l] Φ := fun Hs H vs e rr Q q => by
  cases rr with
  | cons r t =>
    cases t
    obtain ⟨a, ws, rfl, ha, ra⟩ := r.lst_inv
    exact rCW_of call_tuple_of ⟨a, ws, rfl, .inl ⟨.of (e _ _ ha), fun b hb => q _ _ _ _ (Go.new e hb) h (.tup upd_same (ra.mono (same_upd (e.free hb))))⟩⟩
theorem bw_tupleT {l : List Da} (h : Φ (.tup l)) : BW X (.type "tuple") [.tup l] Φ := fun Hs H vs e rr Q q => by
  cases rr with
  | cons r t =>
    cases t
    obtain ⟨a, ws, rfl, ha, ra⟩ := r.tup_inv
    exact rCW_of call_tuple_of ⟨a, ws, rfl, .inr ⟨.of (e _ _ ha), q _ _ Hs H (Go.refl e) h r⟩⟩
theorem bw_listL {l : List Da} (h : Φ (.lst l)) : BW X (.type "list") [.lst l] Φ := fun Hs H vs e rr Q q => by
  cases rr with
  | cons r t =>
    cases t
    obtain ⟨a, ws, rfl, ha, ra⟩ := r.lst_inv
    exact rCW_of call_list_of ⟨a, ws, rfl, .inl (.of (e _ _ ha)), fun b hb => q _ _ _ _ (Go.new e hb) h (.lst upd_same (ra.mono (same_upd (e.free hb))))⟩
theorem bw_listT {l : List Da} (h : Φ (.lst l)) : BW X (.type "list") [.tup l] Φ := fun Hs H vs e rr Q q => by
  cases rr with
  | cons r t =>
    cases t
    obtain ⟨a, ws, rfl, ha, ra⟩ := r.tup_inv
    exact rCW_of call_list_of ⟨a, ws, rfl, .inr (.of (e _ _ ha)), fun b hb => q _ _ _ _ (Go.new e hb) h (.lst upd_same (ra.mono (same_upd (e.free hb))))⟩
theorem bw_all (S : Sc M X k N sc cs) {bs : List Bool} (h : Φ (.bl (bs.all id))) : BW X (.builtin "all") [.lst (bs.map Da.bl)] Φ := fun Hs H vs e rr Q q => by
  cases rr with
  | cons r t =>
    cases t
    obtain ⟨a, ws, rfl, ha, ra⟩ := r.lst_inv
    have e1 : bs.map Da.bl = (bs.map V.bl).map Da.a := by rw [List.map_map]; rfl
    rw [e1] at ra
    rw [ra.atoms] at ha
    exact rCW_of (cr_all S.calm) ⟨a, bs, rfl, .of (e _ _ ha), q _ _ Hs H (Go.refl e) h (.a _)⟩
theorem bw_any (S : Sc M X k N sc cs) {bs : List Bool} (h : Φ (.bl (bs.any id))) : BW X (.builtin "any") [.lst (bs.map Da.bl)] Φ := fun Hs H vs e rr Q q => by
  cases rr with
  | cons r t =>
    cases t
    obtain ⟨a, ws, rfl, ha, ra⟩ := r.lst_inv
    have e1 : bs.map Da.bl = (bs.map V.bl).map Da.a := by rw [List.map_map]; rfl
    rw [e1] at ra
    rw [ra.atoms] at ha
    exact rCW_of (cr_any S.calm) ⟨a, bs, rfl, .of (e _ _ ha), q _ _ Hs H (Go.refl e) h (.a _)⟩

/-! ### methods of built-in types -/
def rMW (X : Cx) (id : String) : V → List V → Hp → VK → Prop := fun x xs H Q => ∀ pins s σ v us, Inv X pins σ H s → RelV x v → Vals xs us → wpAny (model X.prog X.w) X.A (call (.builtin id) (v :: us)) (EP X pins σ Q) X.xe s
theorem rMW_ok {id : String} : MtR X id (rMW X id) := fun pins s σ H x xs v us Q I rx r h => h pins s σ v us I rx r
theorem rMW_of {id : String} {r : V → List V → Hp → VK → Prop} (h : MtR X id r) {x : V} {xs : List V} {H : Hp} {Q : VK} (q : r x xs H Q) : rMW X id x xs H Q := fun pins s σ v us I rx rr => h pins s σ H x xs v us Q I rx rr q
def MW (X : Cx) (id : String) (x : Da) (ds : List Da) (Φ : Da → Prop) : Prop := ∀ Hs H v vs, Same Hs H → Rp X.K H x v → RpAll X.K Hs ds vs → ∀ Q : VK, (∀ d z Hs' H', Go Hs H Hs' H' → Φ d → Rp X.K Hs' d z → Q z H') → rMW X id v vs H Q
def TyW (X : Cx) (T : String) (x : Da) : Prop := ∀ H v, Rp X.K H x v → tyV X.K T v H
theorem tyw_str {z : Str} : TyW X "str" (.str z) := fun H v r => by cases r.atom; exact rfl
theorem tyw_lst {l : List Da} : TyW X "list" (.lst l) := fun H v r => by
  obtain ⟨a, ws, rfl, ha, ra⟩ := r.lst_inv
  exact .inl ⟨rfl, _, .of ha⟩
theorem de_meth {T id : String} {name : Str} (pa : PlainAttrs T) (slot : Slot T name id) (hty : typeOf (.builtin id) = pure (.type "method_descriptor")) (h : DV X o δ fun x => TyW X T x ∧ DAt X (e :: es) δ fun ds => MW X id x ds Φ)
    (hbase : attributeBase o name X.env (eval o X.env) = eval o X.env := by rfl)
    (hfew : ((backTo pos (starEach (e :: es) X.env)).all (fun x => !x.1) && (backToKw pos (keywordEach [] X.env)).all (fun x => x.1.isSome)
      && decide ((e :: es).length + ([] : List Keyword).length + (if ([] : List Keyword).isEmpty then 0 else 1) < 30)) = true := by rfl)
    (hline : (apos.endLine == pos.line) = true := by rfl) (hs : starEach (e :: es) X.env = (false, eval e X.env) :: starEach es X.env := by rfl) (hplain : (backTo pos (starEach es X.env)).any (·.1) = false := by rfl) :
    DM X m (.Call (.Attribute o name apos) (e :: es) [] pos) δ Φ := DM.of <| .mk fun Bs B Hs H σ ok Q q =>
  WE.of (pe_bm pa slot hty rMW_ok pe_W pa_W hbase hfew hline hs hplain) (h Bs B Hs H σ ok _ fun x v Hs1 H1 g1 ⟨ty, h1⟩ r1 => ⟨ty H1 v r1, h1 Bs B Hs1 H1 σ (ok.mono g1) _ fun ds vs Hs2 H2 g2 p r2 _ =>
    p Hs2 H2 v vs g2.sub (Rp.mono g2.hh r1) r2 Q fun d z Hs' H' g' pd rd => q d z Hs' H' ((g1.trans g2).trans g') pd rd⟩)
theorem de_meth0 {T id : String} {name : Str} (pa : PlainAttrs T) (slot : Slot T name id) (hty : typeOf (.builtin id) = pure (.type "method_descriptor")) (h : DV X o δ fun x => TyW X T x ∧ MW X id x [] Φ)
    (hbase : attributeBase o name X.env (eval o X.env) = eval o X.env := by rfl) (hline : (apos.endLine == pos.line) = true := by rfl) :
    DM X m (.Call (.Attribute o name apos) [] [] pos) δ Φ := DM.of <| .mk fun Bs B Hs H σ ok Q q =>
  WE.of (pe_bm0 pa slot hty rMW_ok pe_W hbase hline) (h Bs B Hs H σ ok _ fun x v Hs1 H1 g1 ⟨ty, h1⟩ r1 => ⟨ty H1 v r1, h1 Hs1 H1 v [] g1.sub r1 .nil Q fun d z Hs' H' g' pd rd => q d z Hs' H' (g1.trans g') pd rd⟩)
theorem mw_atoms {id : String} {r : V → List V → Hp → VK → Prop} (hr : MtR X id r) {x : V} {xs : List V} {z : V} (hq : ∀ (H : Hp) (Q : VK), Q z H → r x xs H Q) (h : Φ (.a z)) : MW X id (.a x) (xs.map Da.a) Φ := fun Hs H v vs e rx rr Q q => by
  rw [rr.atoms]
  cases rx.atom
  exact rMW_of hr (hq H Q (q _ _ Hs H (Go.refl e) h (.a _)))
theorem mw_upper {z : Str} (hl : z.length ≤ 5592405) (h : Φ (.str (Txt.upper z))) : MW X "str.upper" (.str z) [] Φ := mw_atoms (xs := []) mt_upper (fun H Q q => ⟨_, rfl, rfl, hl, q⟩) h
theorem mw_lower {z : Str} (hl : z.length ≤ 5592405) (h : Φ (.str (Txt.lower z))) : MW X "str.lower" (.str z) [] Φ := mw_atoms (xs := []) mt_lower (fun H Q q => ⟨_, rfl, rfl, hl, q⟩) h
theorem mw_sindex {z y : Str} {i : Nat} {rest : List Nat} (ho : Builtin.Str.occurrences z y 0 z.length 1 = i :: rest) (h : Φ (.int i)) : MW X "str.index" (.str z) [.str y] Φ := mw_atoms (xs := [.str y]) mt_sindex (fun H Q q => ⟨_, _, i, rest, rfl, rfl, ho, q⟩) h
theorem mw_scount {z y : Str} (h : Φ (.int (Txt.count z y))) : MW X "str.count" (.str z) [.str y] Φ := mw_atoms (xs := [.str y]) mt_count (fun H Q q => ⟨_, _, rfl, rfl, q⟩) h
theorem mw_joinL {z : Str} {ys : List Str} (hl : (ys.map (·.length)).sum + ys.length * z.length ≤ 16777216) (h : Φ (.str (Txt.join z ys))) : MW X "str.join" (.str z) [.lst (ys.map Da.str)] Φ := fun Hs H v vs e rx rr Q q => by
  cases rx.atom
  cases rr with
  | cons r t =>
    cases t
    obtain ⟨a, ws, rfl, ha, ra⟩ := r.lst_inv
    have e1 : ys.map Da.str = (ys.map V.str).map Da.a := by rw [List.map_map]; rfl
    rw [e1] at ra
    rw [ra.atoms] at ha
    exact rMW_of mt_join ⟨_, a, ys, rfl, rfl, .inl (.of (e _ _ ha)), hl, q _ _ Hs H (Go.refl e) h (.a _)⟩
end
end DL

/-! DL4: targets, loops, comprehensions, statements, defs. -/
namespace DL
open PySem PySem.Spec PyProof.Rows L2
section
variable {M : Md} {X : Cx} {k : Nat} {N : List Str} {sc cs : Scope} {δ δ' : Sg} {m : Bool} {Φ Ψ : Da → Prop} {x y : Str} {pos p2 p3 apos : Pos} {e a b o tg it : Expr} {es : List Expr}
  {st : Stmt} {sts : List Stmt} {nx bk ct : Sg → Prop} {rt : Da → Prop}

/-! ### targets -/
theorem keep_set {nm : List Str} {i : Nat} {x : Str} {σ : L2.St} {v : Option V} (h : N[i]? = some x) (hx : x ∈ nm) : Keep N nm σ (σ.set i v) := by
  refine ⟨by simp, fun j hj => ?_⟩
  have : i ≠ j := fun e => hj x (by rw [← e]; exact h) hx
  rw [List.getElem?_set_ne this]
theorem dg_name (S : Sc M X k N sc cs) {d : Da} {Φ : Sg → Prop} (hl : locB cs x = true) (h : ∃ δ', Ss N δ x (some (.d d)) δ' ∧ Φ δ') : DG X (.Name x pos) [x] d δ Φ := .mk fun Bs B Hs H σ v o r Q q => by
  obtain ⟨δ', h1, h2⟩ := h
  obtain ⟨i, h3, rfl⟩ := h1.at
  exact WG.of (pg_name (i := i) (by rw [S.n]; exact S.nd) (by rw [S.n]; exact h3) (S.fn x hl).1 (S.fn x hl).2) (q _ _ Hs H (o.setD i r) (Go.refl o.sub) (by rw [S.n]; exact keep_set h3 (by simp)) h2)
theorem dgs_nil {Φ : Sg → Prop} (h : Φ δ) : DGs X [] [] [] δ Φ := .mk fun Bs B Hs H σ vs o r Q q => by
  cases r
  exact WGs.of pgs_nil ⟨rfl, q δ σ Hs H o (Go.refl o.sub) (Keep.refl _ _ _) h⟩
theorem dgs_cons {nm ns : List Str} {d : Da} {ds : List Da} {Φ : Sg → Prop} (h : DG X e nm d δ fun δ1 => DGs X es ns ds δ1 Φ) (hs : (assignEach (e :: es) X.env).map (·.2) = assign e X.env :: (assignEach es X.env).map (·.2) := by rfl) : DGs X (e :: es) (nm ++ ns) (d :: ds) δ Φ := .mk fun Bs B Hs H σ vs o r Q q => by
  cases r with
  | cons r t =>
    exact WGs.of (pgs_cons pg_W pgs_W hs) ⟨_, _, rfl, h Bs B Hs H σ _ o r _ fun δ1 σ1 Hs1 H1 o1 s1 k1 p1 => p1 Bs B Hs1 H1 σ1 _ o1 (t.mono s1.ss) Q fun δ2 σ2 Hs2 H2 o2 s2 k2 p2 => q δ2 σ2 Hs2 H2 o2 (s1.trans s2) (k1.trans k2) p2⟩
theorem dg_tup (S : Sc M X k N sc cs) {nm : List Str} {ds : List Da} {j : Nat} {Φ : Sg → Prop} (h : DGs X es nm ds δ Φ) (hn : (assignEach es X.env).length = ds.length := by rfl) (hst : (assignEach es X.env).findIdx? (·.1) = none := by rfl) : DG X (.Tuple es j pos) nm (.tup ds) δ Φ := .mk fun Bs B Hs H σ v o r Q q => by
  obtain ⟨a, vs, rfl, ha, ra⟩ := r.tup_inv
  exact WG.of (pg_tup S.calm pgs_W hn hst) ⟨a, vs, rfl, .of (o.sub _ _ ha), by rw [ra.len], h Bs B Hs H σ vs o ra Q q⟩

/-! ### what loops walk -/
theorem di_lst {Φ : List Da → Prop} (h : DE X it δ fun d => ∃ ds, d = .lst ds ∧ Φ ds) : DI X tg it δ Φ := .mk fun Bs B Hs H σ o R q =>
  WI.of (pi_list pe_W) (h Bs B Hs H σ o _ fun d v Hs1 H1 g ⟨ds, e1, p⟩ r => by
    subst e1
    obtain ⟨a, vs, rfl, ha, ra⟩ := r.lst_inv
    refine ⟨a, rfl, ⟨vs, .of (g.sub _ _ ha)⟩, q ds _ (fun H => SqL X.K H a vs) (YAt vs) Hs1 H1 g p (by rw [ra.len]; exact walk_list) (fun Hs2 H2 s1 s2 => .of (s2 _ _ (s1 _ _ ha))) fun i d Hs2 H2 v H3 s1 s2 hi hy => ?_⟩
    obtain ⟨rfl, hv⟩ := hy
    obtain ⟨v', hv', rv⟩ := ra.get hi
    rw [hv] at hv'
    cases hv'
    exact ⟨Hs2, Go.refl s2, rv.mono s1⟩)
theorem di_tup {Φ : List Da → Prop} (h : DE X it δ fun d => ∃ ds, d = .tup ds ∧ Φ ds) : DI X tg it δ Φ := .mk fun Bs B Hs H σ o R q =>
  WI.of (pi_tup pe_W) (h Bs B Hs H σ o _ fun d v Hs1 H1 g ⟨ds, e1, p⟩ r => by
    subst e1
    obtain ⟨a, vs, rfl, ha, ra⟩ := r.tup_inv
    refine ⟨a, rfl, ⟨vs, .of (g.sub _ _ ha)⟩, q ds _ (fun H => SqT X.K H a vs) (YAt vs) Hs1 H1 g p (by rw [ra.len]; exact walk_tup) (fun Hs2 H2 s1 s2 => .of (s2 _ _ (s1 _ _ ha))) fun i d Hs2 H2 v H3 s1 s2 hi hy => ?_⟩
    obtain ⟨rfl, hv⟩ := hy
    obtain ⟨v', hv', rv⟩ := ra.get hi
    rw [hv] at hv'
    cases hv'
    exact ⟨Hs2, Go.refl s2, rv.mono s1⟩)
def chars (z : Str) : List Da := z.cps.toList.map fun c => .str ⟨#[c]⟩
theorem di_str {Φ : List Da → Prop} (h : DE X it δ fun d => ∃ z, d = .str z ∧ Φ (chars z)) : DI X tg it δ Φ := .mk fun Bs B Hs H σ o R q =>
  WI.of (pi_str pe_W) (h Bs B Hs H σ o _ fun d v Hs1 H1 g ⟨z, e1, p⟩ r => by
    subst e1
    cases r.atom
    refine ⟨z, rfl, q (chars z) _ _ _ Hs1 H1 g p (by
      have e2 : (chars z).length = z.cps.size := by unfold chars; simp
      rw [e2]
      exact walk_str) (fun _ _ _ _ => True.intro) fun i d Hs2 H2 v H3 s1 s2 hi hy => ?_⟩
    obtain ⟨rfl, c, hc, rfl⟩ := hy
    unfold chars at hi
    rw [List.getElem?_map, Array.getElem?_toList, hc] at hi
    cases hi
    exact ⟨Hs2, Go.refl s2, .a _⟩)
def rangeD (lo : Int) (n : Nat) : List Da := (List.range n).map fun (i : Nat) => Da.int (lo + (i : Int))
theorem rangeD_get {lo : Int} {n i : Nat} {d : Da} (h : (rangeD lo n)[i]? = some d) : i < n ∧ d = .int (lo + (i : Int)) := by
  unfold rangeD at h
  rw [List.getElem?_map] at h
  by_cases hi : i < n
  · rw [List.getElem?_range hi] at h
    cases h
    exact ⟨hi, rfl⟩
  · rw [List.getElem?_eq_none (by simpa using hi)] at h
    cases h
theorem rangeD_len {lo : Int} {n : Nat} : (rangeD lo n).length = n := by simp [rangeD]
theorem di_range1 (S : Sc M X k N sc cs) {Φ : List Da → Prop} (hm : M.mg "range" = none) (hg : glB sc "range" = true) (h : DE X e δ fun d => ∃ n : Int, d = .int n ∧ -(2 ^ 62) ≤ n ∧ n < 2 ^ 62 ∧ Φ (rangeD 0 n.toNat))
    (hs : starEach [e] X.env = (false, eval e X.env) :: starEach [] X.env := by rfl) : DI X tg (.Call (.Name "range" p2) [e] [] pos) δ Φ := .mk fun Bs B Hs H σ o R q =>
  WI.of (pi_range1 (by show X.env.scope.names.lookup _ = _; rw [S.hsc]; exact (glB_ok hg).1) (by rw [S.hmg]; exact hm) (pa_cons pe_W pa_nil hs) (by rw [hs]; rfl)) (h Bs B Hs H σ o _ fun d v Hs1 H1 g ⟨n, e1, b1, b2, p⟩ r => by
    subst e1
    cases r.atom
    refine ⟨n, rfl, b1, b2, q _ _ (fun _ => True) _ Hs1 H1 g p (by rw [rangeD_len]; exact walk_range) (fun _ _ _ _ => True.intro) fun i d Hs2 H2 v H3 s1 s2 hi hy => ?_⟩
    obtain ⟨rfl, rfl⟩ := hy
    obtain ⟨_, rfl⟩ := rangeD_get hi
    exact ⟨Hs2, Go.refl s2, .a _⟩)
theorem di_range2 (S : Sc M X k N sc cs) {Φ : List Da → Prop} (hm : M.mg "range" = none) (hg : glB sc "range" = true) (h : DE X a δ fun d => DE X b δ fun d' => ∃ i j : Int, d = .int i ∧ d' = .int j ∧ (-(2 ^ 62) ≤ i ∧ i < 2 ^ 62 ∧ -(2 ^ 62) ≤ j ∧ j < 2 ^ 62) ∧ Φ (rangeD i (j - i).toNat))
    (hs : starEach [a, b] X.env = (false, eval a X.env) :: starEach [b] X.env := by rfl) (hs2 : starEach [b] X.env = (false, eval b X.env) :: starEach [] X.env := by rfl) : DI X tg (.Call (.Name "range" p2) [a, b] [] pos) δ Φ := .mk fun Bs B Hs H σ o R q =>
  WI.of (pi_range2 (by show X.env.scope.names.lookup _ = _; rw [S.hsc]; exact (glB_ok hg).1) (by rw [S.hmg]; exact hm) (pa_cons pe_W (pa_cons pe_W pa_nil hs2) hs) (by rw [hs, hs2]; rfl) (by rw [hs2]; rfl)) (h Bs B Hs H σ o _ fun d v Hs1 H1 g1 h1 r1 => h1 Bs B Hs1 H1 σ (o.mono g1) _ fun d' v' Hs2 H2 g2 ⟨i, j, e1, e2, bd, p⟩ r2 => by
    subst e1 e2
    cases r1.atom
    cases r2.atom
    refine ⟨i, j, rfl, bd, q _ _ (fun _ => True) _ Hs2 H2 (g1.trans g2) p (by rw [rangeD_len]; exact walk_range) (fun _ _ _ _ => True.intro) fun i d Hs2 H2 v H3 s1 s2 hi hy => ?_⟩
    obtain ⟨rfl, rfl⟩ := hy
    obtain ⟨_, rfl⟩ := rangeD_get hi
    exact ⟨Hs2, Go.refl s2, .a _⟩)
/-- a new pair of a thing and a thing -/
theorem pair_new {K : PySem.W.Frag} {Hs H : Hp} {x y : Da} {v w : V} {T : Addr} (s : Same Hs H) (rx : Rp K Hs x v) (ry : Rp K Hs y w) (hT : H T = none) : ∃ Hs3, Go Hs H Hs3 (upd H T (.tup [v, w])) ∧ Rp K Hs3 (.tup [x, y]) (.ref T) :=
  ⟨_, Go.new s hT, .tup upd_same (.cons (Rp.mono (same_upd (s.free hT)) rx) (.cons (Rp.mono (same_upd (s.free hT)) ry) .nil))⟩
def enumD (l : List Da) : List Da := l.zipIdx.map fun p => .tup [.int (p.2 : Nat), p.1]
theorem enumD_len {l : List Da} : (enumD l).length = l.length := by simp [enumD]
theorem enumD_get {l : List Da} {i : Nat} {d : Da} (h : (enumD l)[i]? = some d) : ∃ z, l[i]? = some z ∧ d = .tup [.int (i : Nat), z] := by
  unfold enumD at h
  rw [List.getElem?_map, List.getElem?_zipIdx] at h
  cases e : l[i]? with
  | none => rw [e] at h; cases h
  | some z => rw [e] at h; cases h; exact ⟨z, rfl, by simp⟩
theorem di_enum (S : Sc M X k N sc cs) {elts : List Expr} {kk : Nat} {tpos : Pos} {Φ : List Da → Prop} (hm : M.mg "enumerate" = none) (hg : glB sc "enumerate" = true) (h : DE X e δ fun d => ∃ l, d = .lst l ∧ Φ (enumD l))
    (hs : starEach [e] X.env = (false, eval e X.env) :: starEach [] X.env := by rfl) : DI X (.Tuple elts kk tpos) (.Call (.Name "enumerate" p2) [e] [] pos) δ Φ := .mk fun Bs B Hs H σ o R q =>
  WI.of (pi_enum (by show X.env.scope.names.lookup _ = _; rw [S.hsc]; exact (glB_ok hg).1) (by rw [S.hmg]; exact hm) (pa_cons pe_W pa_nil hs) (by rw [hs]; rfl)) (h Bs B Hs H σ o _ fun d v Hs1 H1 g ⟨l, e1, p⟩ r => by
    subst e1
    obtain ⟨a, vs, rfl, ha, ra⟩ := r.lst_inv
    refine ⟨a, vs, rfl, .of (g.sub _ _ ha), q _ _ (fun H => SqL X.K H a vs) _ Hs1 H1 g p (by rw [enumD_len, ra.len]; exact walk_enum) (fun Hs2 H2 s1 s2 => .of (s2 _ _ (s1 _ _ ha))) fun i d Hs2 H2 v H3 s1 s2 hi hy => ?_⟩
    obtain ⟨T, x, y, rfl, hT, rfl, hx, hy⟩ := hy
    dsimp only at hx hy
    obtain ⟨z, hz, rfl⟩ := enumD_get hi
    obtain ⟨v', hv', rv⟩ := ra.get hz
    rw [hy] at hv'
    cases hv'
    cases hx
    exact pair_new s2 (.a _) (rv.mono s1) hT)
def zipD (l r : List Da) : List Da := (l.zip r).map fun p => .tup [p.1, p.2]
theorem zipD_len {l r : List Da} : (zipD l r).length = min l.length r.length := by simp [zipD]
theorem zipD_get {l r : List Da} {i : Nat} {d : Da} (h : (zipD l r)[i]? = some d) : ∃ z w, l[i]? = some z ∧ r[i]? = some w ∧ d = .tup [z, w] := by
  unfold zipD at h
  rw [List.getElem?_map] at h
  cases e : (l.zip r)[i]? with
  | none => rw [e] at h; cases h
  | some z =>
    rw [e] at h
    cases h
    rw [List.getElem?_zip_eq_some] at e
    exact ⟨_, _, e.1, e.2, rfl⟩
theorem di_zip (S : Sc M X k N sc cs) {elts : List Expr} {kk : Nat} {tpos : Pos} {Φ : List Da → Prop} (hm : M.mg "zip" = none) (hg : glB sc "zip" = true)
    (h : DE X a δ fun d => DE X b δ fun d' => ∃ l r, ((d = .lst l ∧ d' = .lst r) ∨ (d = .tup l ∧ d' = .tup r)) ∧ Φ (zipD l r))
    (hs : starEach [a, b] X.env = (false, eval a X.env) :: starEach [b] X.env := by rfl) (hs2 : starEach [b] X.env = (false, eval b X.env) :: starEach [] X.env := by rfl) (hpl : (backTo pos (starEach [b] X.env)).any (·.1) = false := by rfl) : DI X (.Tuple elts kk tpos) (.Call (.Name "zip" p2) [a, b] [] pos) δ Φ := .mk fun Bs B Hs H σ o R q =>
  WI.of (RZ.pi_zipA (by show X.env.scope.names.lookup _ = _; rw [S.hsc]; exact (glB_ok hg).1) (by rw [S.hmg]; exact hm) (pa_cons pe_W (pa_cons pe_W pa_nil hs2) hs) hs hpl) (h Bs B Hs H σ o _ fun d v Hs1 H1 g1 h1 r1 => h1 Bs B Hs1 H1 σ (o.mono g1) _ fun d' v' Hs2 H2 g2 ⟨l, r, e, p⟩ r2 => by
    rcases e with ⟨rfl, rfl⟩ | ⟨rfl, rfl⟩
    · obtain ⟨a, vs, rfl, ha, ra⟩ := r1.lst_inv
      obtain ⟨b, ws, rfl, hb, rb⟩ := r2.lst_inv
      have ha' := g2.ss _ _ ha
      refine ⟨a, b, vs, ws, rfl, .inl ⟨.of (g2.sub _ _ ha'), .of (g2.sub _ _ hb), q _ _ (fun H => SqL X.K H a vs ∧ SqL X.K H b ws) _ Hs2 H2 (g1.trans g2) p (walk_zip (by rw [zipD_len, ra.len, rb.len])) (fun Hs2 H2 s1 s2 => ⟨.of (s2 _ _ (s1 _ _ ha')), .of (s2 _ _ (s1 _ _ hb))⟩) fun i d Hs2 H2 v H3 s1 s2 hi hy => ?_⟩⟩
      obtain ⟨T, x, y, rfl, hT, rfl, hx, hy⟩ := hy
      dsimp only at hx hy
      obtain ⟨z, w, hz, hw, rfl⟩ := zipD_get hi
      obtain ⟨v', hv', rv⟩ := (ra.mono g2.ss).get hz
      obtain ⟨w', hw', rw'⟩ := rb.get hw
      rw [hx] at hv'
      rw [hy] at hw'
      cases hv'
      cases hw'
      exact pair_new s2 (rv.mono s1) (rw'.mono s1) hT
    · obtain ⟨a, vs, rfl, ha, ra⟩ := r1.tup_inv
      obtain ⟨b, ws, rfl, hb, rb⟩ := r2.tup_inv
      have ha' := g2.ss _ _ ha
      have wk : Walk (RZ.ItzT X.K a b) (zipD l r).length (fun H => SqT X.K H a vs ∧ SqT X.K H b ws) (YPair (fun i => vs[i]?) (fun i => ws[i]?)) := by
        have hn : (zipD l r).length = min vs.length ws.length := by rw [zipD_len, ra.len, rb.len]
        rw [hn]
        refine ⟨fun i _ hi q => ?_, fun _ q => ⟨vs, ws, q.1, q.2, by omega⟩, fun i H v H' _ q y => ?_⟩
        · have h1 : i < vs.length := by omega
          have h2 : i < ws.length := by omega
          exact ⟨vs, ws, vs[i], ws[i], q.1, q.2, by simp [h1], by simp [h2]⟩
        · obtain ⟨T, x, z, h1, h2, h3, h4, h5⟩ := y
          exact ⟨T, x, z, h1, h2, h3, h4 vs q.1, h5 ws q.2⟩
      refine ⟨a, b, vs, ws, rfl, .inr ⟨.of (g2.sub _ _ ha'), .of (g2.sub _ _ hb), q _ _ (fun H => SqT X.K H a vs ∧ SqT X.K H b ws) _ Hs2 H2 (g1.trans g2) p wk (fun Hs2 H2 s1 s2 => ⟨.of (s2 _ _ (s1 _ _ ha')), .of (s2 _ _ (s1 _ _ hb))⟩) fun i d Hs2 H2 v H3 s1 s2 hi hy => ?_⟩⟩
      obtain ⟨T, x, y, rfl, hT, rfl, hx, hy⟩ := hy
      dsimp only at hx hy
      obtain ⟨z, w, hz, hw, rfl⟩ := zipD_get hi
      obtain ⟨v', hv', rv⟩ := (ra.mono g2.ss).get hz
      obtain ⟨w', hw', rw'⟩ := rb.get hw
      rw [hx] at hv'
      rw [hy] at hw'
      cases hv'
      cases hw'
      exact pair_new s2 (rv.mono s1) (rw'.mono s1) hT)

/-! ### comprehensions -/
theorem DTs.nil {Φ : Bool → Prop} (h : Φ true) : DTs X [] δ Φ := .mk fun Bs B Hs H σ o Q q => WTs.of pts_nil (q true Hs H (Go.refl o.sub) h)
theorem DTs.one {Φ : Bool → Prop} (h : DT X e δ Φ) : DTs X [e] δ Φ := .mk fun Bs B Hs H σ o Q q => WTs.of (pts_one pt_W) (h Bs B Hs H σ o Q q)
/-- the names of a target -/
def tgN : Nat → Expr → List Str
  | 0, _ => []
  | _ + 1, .Name x _ => [x]
  | n + 1, .Tuple es _ _ => es.flatMap (tgN n)
  | _, _ => []
/-- slots of names forgotten -/
inductive Wp : List Str → List Str → Sg → Sg → Prop
  | nil {N : List Str} {δ : Sg} : Wp N [] δ δ
  | cons {N : List Str} {x : Str} {os : List Str} {δ δ1 δ2 : Sg} : Wp N os δ δ1 → Ss N δ1 x none δ2 → Wp N (x :: os) δ δ2
def ixN0 (N : List Str) (x : Str) : Nat := N.idxOf x
def ownOf (N : List Str) (os : List Str) : List (Str × Nat) := os.map fun x => (x, N.idxOf x)
theorem idxOf_at : ∀ {N : List Str} {i : Nat} {x : Str}, N.Nodup → N[i]? = some x → N.idxOf x = i
  | [], _, _, _, h => by simp at h
  | y :: N, 0, x, _, h => by simp at h; subst h; simp
  | y :: N, i + 1, x, nd, h => by
    have h' : N[i]? = some x := by simpa using h
    have ne : y ≠ x := fun e => (List.nodup_cons.mp nd).1 (by rw [e]; exact List.mem_of_getElem? h')
    rw [List.idxOf_cons, beq_false_of_ne ne, idxOf_at (List.nodup_cons.mp nd).2 h']
    rfl
theorem Ok.wipe {K : PySem.W.Frag} {Bs B Hs H : Hp} {σ : L2.St} (nd : N.Nodup) : ∀ {os : List Str} {δ δ' : Sg}, Wp N os δ δ' → Ok K Bs B Hs H σ δ → Ok K Bs B Hs H (wipe σ ((ownOf N os).map (·.2))) δ'
  | _, _, _, .nil, o => o
  | _, _, _, .cons w s, o => by
    obtain ⟨i, h1, rfl⟩ := s.at
    have o1 := Ok.wipe nd w o
    show Ok K Bs B Hs H ((L2.wipe σ _).set (N.idxOf _) none) _
    rw [idxOf_at nd h1]
    exact o1.wipe1 i none
theorem wipe_get {σ : L2.St} {i : Nat} : ∀ {vs : List Nat}, i ∈ vs → i < σ.length → (L2.wipe σ vs)[i]? = some none
  | [], h, _ => by simp at h
  | v :: vs, h, hl => by
    unfold L2.wipe
    by_cases hv : v = i
    · subst hv
      rw [List.getElem?_set_self (by rw [wipe_length]; exact hl)]
    · rw [List.getElem?_set_ne hv]
      exact wipe_get ((List.mem_cons.mp h).elim (fun z => absurd z.symm hv) id) hl
theorem wipe_keep {σ σ' : L2.St} {nm os : List Str} (nd : N.Nodup) (hl : σ.length = N.length) (hk : Keep N nm (L2.wipe σ ((ownOf N os).map (·.2))) σ') (hn : ∀ x ∈ nm, x ∈ os) :
    L2.wipe σ' ((ownOf N os).map (·.2)) = L2.wipe σ ((ownOf N os).map (·.2)) := by
  have hl' : σ'.length = σ.length := by rw [hk.1, wipe_length]
  refine List.ext_getElem? fun i => ?_
  by_cases hi : i < σ.length
  · by_cases hm : i ∈ (ownOf N os).map (·.2)
    · rw [wipe_get hm (by omega), wipe_get hm hi]
    · rw [wipe_out hm, hk.2 i fun x e z => hm ?_]
      refine List.mem_map.mpr ⟨(x, N.idxOf x), List.mem_map.mpr ⟨x, hn x z, rfl⟩, idxOf_at nd e⟩
  · rw [List.getElem?_eq_none (by rw [wipe_length]; omega), List.getElem?_eq_none (by rw [wipe_length]; omega)]
def blkB (N : List Str) (sc scope : Scope) (os : List Str) : Bool := blkC N sc scope (ownOf N os)
/-- the block of a comprehension -/
theorem Sc.blk (S : Sc M X k N sc cs) {scope : Scope} {s : Shared} {H : Hp} {C : Addr} {cl : List (Str × Addr)} {fp : List Addr} (kind : scope.kind = .function) :
    Sc M (X.blk s H scope (compEnvC scope cl C X.env) fp) k N (relS scope sc) scope :=
  ⟨S.hP, S.hw, S.hK, S.hmg, S.hb, S.n, S.nd, S.calm, S.room, kind, PassesOwn.never, by show relS scope X.env.scope = _; rw [S.hsc], fun x h => by
    show L2.Loc (relS scope X.env.scope) x ∧ ((scope.names.lookup x == some .cell) = true ∨ (relS scope X.env.scope).names.lookup x = some .local)
    rcases locB_ok h with e | e
    · have e' : (relS scope X.env.scope).names.lookup x = some .local := lookup_relS_keep (by decide) e
      exact ⟨.inl e', .inr e'⟩
    · have e' : (relS scope X.env.scope).names.lookup x = some .cell := lookup_relS_keep (by decide) e
      exact ⟨.inr e', .inl (by rw [e]; rfl)⟩⟩
def WGb (X : Cx) (scope : Scope) (tg : Expr) : TG := fun v σ H Q => ∀ s H0 C cl fp, WG (X.blk s H0 scope (compEnvC scope cl C X.env) fp) tg v σ H Q
def WTb (X : Cx) (scope : Scope) (ifs : List Expr) : TT := fun σ H Q => ∀ s H0 C cl fp, WTs (X.blk s H0 scope (compEnvC scope cl C X.env) fp) ifs σ H Q
def WEb (X : Cx) (scope : Scope) (e : Expr) : TE := fun σ H Q => ∀ s H0 C cl fp, WE (X.blk s H0 scope (compEnvC scope cl C X.env) fp) e σ H Q
theorem pgb_W {scope : Scope} (s : Shared) (H0 : Hp) (C : Addr) (cl : List (Str × Addr)) (fp : List Addr) : PG (X.blk s H0 scope (compEnvC scope cl C X.env) fp) tg (WGb X scope tg) := ⟨fun pins s' σ H v u Q I r h => h s H0 C cl fp pins s' u I r⟩
theorem ptb_W {scope : Scope} (s : Shared) (H0 : Hp) (C : Addr) (cl : List (Str × Addr)) (fp : List Addr) : PTs (X.blk s H0 scope (compEnvC scope cl C X.env) fp) es (WTb X scope es) := ⟨fun pins s' σ H Q I h => h s H0 C cl fp pins s' I⟩
theorem peb_W {scope : Scope} (s : Shared) (H0 : Hp) (C : Addr) (cl : List (Str × Addr)) (fp : List Addr) : PE (X.blk s H0 scope (compEnvC scope cl C X.env) fp) e (WEb X scope e) := ⟨fun pins s' σ H Q I h => h s H0 C cl fp pins s' I⟩
/-- what is shown of a comprehension: P by the turn and the things made so far -/
def LcD (M : Md) (X : Cx) (k : Nat) (N : List Str) (sc : Scope) (scope : Scope) (tg elt : Expr) (ifs : List Expr) (os : List Str) (δ : Sg) (ds : List Da) (Φ : Da → Prop) : Prop :=
  ∃ δw, Wp N os δ δw ∧ ds.length ≤ 1000000 ∧ ∃ P : Nat → List Da → Prop, P 0 [] ∧
    (∀ X', Sc M X' k N (relS scope sc) scope → ∀ i d acc, ds[i]? = some d → P i acc → DG X' tg os d δw fun δ2 => ∀ X', Sc M X' k N (relS scope sc) scope → DTs X' ifs δ2 fun c => (c = true → ∀ X', Sc M X' k N (relS scope sc) scope → DE X' elt δ2 fun y => P (i + 1) (acc ++ [y])) ∧ (c = false → P (i + 1) acc)) ∧
    ∀ acc, acc.length ≤ ds.length → P ds.length acc → Φ (.lst acc)
theorem lc_run (S : Sc M X k N sc cs) {scope : Scope} {ifs : List Expr} {os : List Str} (kind : scope.kind = .function) (h : DI X tg it δ fun ds => LcD M X k N sc scope tg e ifs os δ ds Φ) {Bs B Hs H : Hp} {σ : L2.St} (o : Ok X.K Bs B Hs H σ δ) {Q : VK}
    (q : ∀ d v Hs' H', Go Hs H Hs' H' → Φ d → Rp X.K Hs' d v → Q v H') : tLc (WI X tg it) (WGb X scope tg) (WTb X scope ifs) (WEb X scope e) ((ownOf N os).map (·.2)) σ H Q := by
  have nd := S.nd
  have hlen : ∀ {σ' : L2.St} {H' : Hp}, True := trivial
  refine h Bs B Hs H σ o _ fun ds J G Y Hs1 H1 g1 ⟨δw, hw, hz, P, p0, step, fin⟩ wk hG hY D hD => ?_
  have oD : ∀ (i : Nat) (s : SD) (q : Addr), δ[i]? = some (some s) → s.own = true → σ[i]? = some (some (.ref q)) → q ≠ D := fun i s q e w h z => (o.mono g1).ownAt e w h (by rw [z]; exact hD)
  have hD0 : H D = none := g1.hh.free hD
  have hB : B D = none := o.go.hh.free hD0
  refine lc_it (Qd := fun H => Q (.ref D) H) wk (fun i H2 => ∃ Hs2 acc vs, Go Hs H Hs2 H2 ∧ Same Hs1 Hs2 ∧ Ok X.K Bs B Hs2 H2 σ δ ∧ Hs2 D = none ∧ H2 D = some (.lst vs) ∧ RpAll X.K Hs2 acc vs ∧ acc.length ≤ i ∧ i ≤ ds.length ∧ P i acc) ?_ ?_ ?_ ?_
  · have hs := g1.sub.free hD
    exact ⟨Hs1, [], [], g1.trans (Go.own g1.sub hD), Same.refl _, (o.mono g1).mono (Go.own g1.sub hD), hs, upd_same, .nil, Nat.le_refl _, Nat.zero_le _, p0⟩
  · rintro i H2 hi ⟨Hs2, acc, vs, g2, s2, o2, _⟩
    exact hG Hs2 H2 s2 o2.sub
  · rintro i x H2 H3 hi ⟨Hs2, acc, vs, g2, s2, o2, hDs, hDv, ra, hl, _, pi⟩ hy s H0 C cl fp
    intro pins s' u I r
    obtain ⟨d, hd⟩ : ∃ d, ds[i]? = some d := ⟨ds[i], by simp [hi]⟩
    obtain ⟨Hs3, g3, rd⟩ := hY i d Hs2 H2 x H3 s2 o2.sub hd hy
    have o3 := o2.mono g3
    have hsl : σ.length = N.length := by
      have := I.len
      rw [wipe_length] at this
      rw [this]
      exact congrArg List.length S.n
    have nDs : ∀ {Hs' H' : Hp}, Go Hs2 H2 Hs' H' → Hs' D = none := fun g => g.no D (by rw [hDv]; exact fun z => nomatch z) hDs
    refine step (X.blk s H0 scope (compEnvC scope cl C X.env) fp) (S.blk kind) i d acc hd pi Bs B Hs3 H3 _ x (o3.wipe nd hw) rd _ (fun δ2 σ2 Hs4 H4 o4 g4 kp ht => ?_) pins s' u I r
    refine ⟨wipe_keep nd hsl (by have kp' : Keep X.N os _ σ2 := kp; rw [S.n] at kp'; exact kp') fun _ z => z, fun s H0 C cl fp pins s' I => ?_⟩
    refine ht (X.blk s H0 scope (compEnvC scope cl C X.env) fp) (S.blk kind) Bs B Hs4 H4 σ2 o4 _ (fun c Hs5 H5 g5 p5 => ?_) pins s' I
    have g35 := (g3.trans g4).trans g5
    cases c with
    | true =>
      refine iteT fun s H0 C cl fp pins s' I => ?_
      refine p5.1 rfl (X.blk s H0 scope (compEnvC scope cl C X.env) fp) (S.blk kind) Bs B Hs5 H5 σ2 (o4.mono g5) _ (fun y v Hs6 H6 g6 p6 r6 => ?_) pins s' I
      have g36 := g35.trans g6
      refine ⟨vs, g36.hh _ _ hDv, ?_, Hs6, acc ++ [y], vs ++ [v], (g2.trans g36).mut hD0 (nDs g36), s2.trans g36.ss, (o2.mono g36).other (nDs g36) hB oD, nDs g36, upd_same, (ra.mono g36.ss).app (.cons r6 .nil), by simp; exact hl, by omega, p6⟩
      have e1 := ra.len
      have e2 : sizeLine = 16777216 := sizeLine_eq
      omega
    | false =>
      exact iteF ⟨Hs5, acc, vs, g2.trans g35, s2.trans g35.ss, o2.mono g35, nDs g35, g35.hh _ _ hDv, ra.mono g35.ss, by omega, by omega, p5.2 rfl⟩
  · rintro H2 ⟨Hs2, acc, vs, g2, s2, o2, hDs, hDv, ra, hl, _, pi⟩
    exact q _ _ _ _ (g2.freeze hD0 hDs hDv) (fin acc hl pi) (.lst upd_same (ra.mono (same_upd hDs)))
theorem de_lc (S : Sc M X k N sc cs) {scope : Scope} {ifs : List Expr} {os : List Str} (h : DI X tg it δ fun ds => LcD M X k N sc scope tg e ifs os δ ds Φ) (hk : blkB N sc scope os = true)
    (hs : ∀ x, foldedSetIterable it X.env x = pure x := by intro _; rfl) : DM X m (.ListComp e [⟨tg, it, ifs, 0⟩] scope pos) δ Φ := DM.of <| .mk fun Bs B Hs H σ o Q q => by
  have ok : BlkOk X.N X.env.scope scope (ownOf N os) := by rw [S.n, S.hsc]; exact blkOk_by hk
  exact WE.of (pe_lc S.calm (by rw [S.n]; exact S.nd) pi_W ok pgb_W ptb_W peb_W hs) (lc_run S ok.kind h o q)

/-! ### statements -/
theorem db_nil (h : nx δ) : DB X [] δ nx rt bk ct := .mk fun Bs B Hs H σ o D f => WB.of pss_nil (f.nx δ σ Hs H o (Same.refl _) h)
theorem db_cons (h : DS X st δ (fun δ' => DB X sts δ' nx rt bk ct) rt bk ct) : DB X (st :: sts) δ nx rt bk ct := .mk fun Bs B Hs H σ o D f =>
  WB.of (pss_cons ps_W pb_W) (h Bs B Hs H σ o { D with nx := WB X sts D } ⟨fun δ' σ' Hs' H' o' s h' => h' Bs B Hs' H' σ' o' D (f.frm s), f.rt, f.bk, f.ct⟩)
theorem ds_pass (h : nx δ) : DS X (.Pass pos) δ nx rt bk ct := .mk fun Bs B Hs H σ o D f => WS.of ps_pass (f.nx δ σ Hs H o (Same.refl _) h)
theorem ds_break (h : bk δ) : DS X (.Break pos) δ nx rt bk ct := .mk fun Bs B Hs H σ o D f => WS.of ps_break (f.bk δ σ Hs H o (Same.refl _) h)
theorem ds_cont (h : ct δ) : DS X (.Continue pos) δ nx rt bk ct := .mk fun Bs B Hs H σ o D f => WS.of ps_continue (f.ct δ σ Hs H o (Same.refl _) h)
theorem ds_expr (h : DE X e δ fun _ => nx δ) (hs : swapsWith e none pos.line X.env = pure false := by rfl) : DS X (.Expr e pos) δ nx rt bk ct := .mk fun Bs B Hs H σ o D f =>
  WS.of (ps_expr pe_W hs) (h Bs B Hs H σ o _ fun d v Hs' H' g p r => f.nx δ σ Hs' H' (o.mono g) g.ss p)
theorem ds_ret (h : DE X e δ rt) : DS X (.Return (some e) pos) δ nx rt bk ct := .mk fun Bs B Hs H σ o D f =>
  WS.of (ps_ret pe_W) (h Bs B Hs H σ o _ fun d v Hs' H' g p r => f.rt d v Hs' H' (o.go.trans g) p r)
theorem ds_retN (h : rt .non) : DS X (.Return none pos) δ nx rt bk ct := .mk fun Bs B Hs H σ o D f => WS.of ps_retN (f.rt .non .non Hs H o.go h (.a _))
theorem ds_if {c : Expr} {s1 s2 : List Stmt} (h : DT X c δ fun z => (z = true → DB X s1 δ nx rt bk ct) ∧ (z = false → DB X s2 δ nx rt bk ct)) : DS X (.If c s1 s2 pos) δ nx rt bk ct := .mk fun Bs B Hs H σ o D f =>
  WS.of (ps_if pt_W pb_W pb_W) (h Bs B Hs H σ o _ fun z Hs' H' g p => by
    cases z with
    | true => exact iteT (p.1 rfl Bs B Hs' H' σ (o.mono g) D (f.frm g.ss))
    | false => exact iteF (p.2 rfl Bs B Hs' H' σ (o.mono g) D (f.frm g.ss)))
theorem ds_set (S : Sc M X k N sc cs) (h : DE X e δ fun d => ∃ δ', Ss N δ x (some (.d d)) δ' ∧ nx δ') (hl : locB cs x = true) (hs : swapsWith e (some (.Name x p2)) pos.line X.env = pure false := by rfl) :
    DS X (.Assign [.Name x p2] e pos) δ nx rt bk ct := .mk fun Bs B Hs H σ o D f => by
  refine fun pins s I => wpAny_Assign_Name (thn (h Bs B Hs H σ o (fun v H' => ∃ d Hs', Go Hs H Hs' H' ∧ (∃ δ', Ss N δ x (some (.d d)) δ' ∧ nx δ') ∧ Rp X.K Hs' d v) (fun d v Hs' H' g p r => ⟨d, Hs', g, p, r⟩) pins s I) fun u s1 ⟨v, H1, I1, r1, d, Hs', g, ⟨δ', h1, h2⟩, r⟩ => ?_) hs
  obtain ⟨i, h3, rfl⟩ := h1.at
  exact store_ok I1 (by rw [S.n]; exact S.nd) (by rw [S.n]; exact h3) (S.fn x hl).1 r1 (fun s2 I2 => ⟨_, H1, I2, f.nx _ _ Hs' H1 ((o.mono g).setD i r) g.ss h2⟩) (S.fn x hl).2
/-- a list comprehension kept by a name that is no cell -/
theorem ds_setLc (S : Sc M X k N sc cs) {scope : Scope} {ifs : List Expr} {os : List Str} {py lp : Pos} (h : DI X tg it δ fun ds => LcD M X k N sc scope tg e ifs os δ ds fun d => ∃ δ', Ss N δ y (some (.d d)) δ' ∧ nx δ') (hk : blkB N sc scope os = true)
    (hy : (sc.names.lookup y == some .local && (py.line == lp.line) && !(scope.names.any fun (n, k) => n == y && (k == .local || k == .cell))) = true) (hN : N.contains y = true) (hs : ∀ x, foldedSetIterable it X.env x = pure x := by intro _; rfl) :
    DS X (.Assign [.Name y py] (.ListComp e [⟨tg, it, ifs, 0⟩] scope lp) pos) δ nx rt bk ct := .mk fun Bs B Hs H σ o D f => by
  have ok : BlkOk X.N X.env.scope scope (ownOf N os) := by rw [S.n, S.hsc]; exact blkOk_by hk
  simp only [Bool.and_eq_true, beq_iff_eq, Bool.not_eq_true'] at hy
  obtain ⟨⟨h1, h2⟩, h3⟩ := hy
  intro pins s I
  obtain ⟨i, hi⟩ : ∃ i : Nat, N[i]? = some y := List.mem_iff_getElem?.mp (by simpa using hN)
  have hk : X.env.scope.kind = .function := by rw [S.hsc]; exact S.kind
  refine WS.of (ps_setLc (i := i) S.calm (by rw [S.n]; exact S.nd) (by rw [S.n]; exact hi) (by rw [S.hsc]; exact h1) (sw_true hk (by rw [S.hsc]; exact h1) (by simpa using h2) h3) pi_W ok pgb_W ptb_W peb_W hs) ?_ pins s I
  refine lc_run S ok.kind h o fun d v Hs' H' g ⟨δ', hd, p⟩ r => ?_
  obtain ⟨j, h5, rfl⟩ := hd.at
  obtain rfl : i = j := nodup_ix S.nd hi h5
  exact f.nx _ _ Hs' H' ((o.mono g).setD i r) g.ss p
theorem ds_freeze {s0 : SD} {d : Da} (hg : Gt N δ x s0) (hf : s0.frozen = some d) (hs : ∃ δ', Ss N δ x (some (.d d)) δ' ∧ DS X st δ' nx rt bk ct) (nd : N.Nodup) : DS X st δ nx rt bk ct := .mk fun Bs B Hs H σ o D f => by
  obtain ⟨i, h1, h2⟩ := hg.at
  obtain ⟨δ', h3, h4⟩ := hs
  obtain ⟨j, h5, rfl⟩ := h3.at
  obtain rfl : i = j := nodup_ix nd h1 h5
  obtain ⟨Hs', s1, o1⟩ := o.freeze h2 hf
  exact h4 Bs B Hs' H σ o1 D (f.frm s1)
theorem db_freeze {s0 : SD} {d : Da} (hg : Gt N δ x s0) (hf : s0.frozen = some d) (hs : ∃ δ', Ss N δ x (some (.d d)) δ' ∧ DB X sts δ' nx rt bk ct) (nd : N.Nodup) : DB X sts δ nx rt bk ct := .mk fun Bs B Hs H σ o D f => by
  obtain ⟨i, h1, h2⟩ := hg.at
  obtain ⟨δ', h3, h4⟩ := hs
  obtain ⟨j, h5, rfl⟩ := h3.at
  obtain rfl : i = j := nodup_ix nd h1 h5
  obtain ⟨Hs', s1, o1⟩ := o.freeze h2 hf
  exact h4 Bs B Hs' H σ o1 D (f.frm s1)
/-- an own list made -/
theorem ds_ownL (S : Sc M X k N sc cs) (h : ∃ δ', Ss N δ x (some (.ol [])) δ' ∧ nx δ') (hl : locB cs x = true) : DS X (.Assign [.Name x p2] (.List [] p3) pos) δ nx rt bk ct := .mk fun Bs B Hs H σ o D f => by
  obtain ⟨δ', h1, h2⟩ := h
  obtain ⟨i, h3, rfl⟩ := h1.at
  refine WS.of (ps_set (i := i) (by rw [S.n]; exact S.nd) (by rw [S.n]; exact h3) (S.fn x hl).1 (pe_lst pa_nil) rfl (S.fn x hl).2) ⟨Nat.zero_le _, fun p hp => ?_⟩
  exact f.nx _ _ Hs _ (o.setO i (s0 := .ol []) hp ⟨p, [], rfl, o.sub.free hp, upd_same, .nil⟩) (Same.refl _) h2
theorem ds_ownK (S : Sc M X k N sc cs) (h : ∃ δ', Ss N δ x (some (.ok [])) δ' ∧ nx δ') (hl : locB cs x = true) : DS X (.Assign [.Name x p2] (.Dict [] [] p3) pos) δ nx rt bk ct := .mk fun Bs B Hs H σ o D f => by
  obtain ⟨δ', h1, h2⟩ := h
  obtain ⟨i, h3, rfl⟩ := h1.at
  refine WS.of (ps_set (i := i) (by rw [S.n]; exact S.nd) (by rw [S.n]; exact h3) (S.fn x hl).1 pe_dnewK rfl (S.fn x hl).2) fun p hp => ?_
  exact f.nx _ _ Hs _ (o.setO i (s0 := .ok []) hp ⟨p, rfl, o.sub.free hp, upd_same⟩) (Same.refl _) h2
theorem ds_ownT (S : Sc M X k N sc cs) (h : ∃ δ', Ss N δ x (some (.ot [])) δ' ∧ nx δ') (hl : locB cs x = true) : DS X (.Assign [.Name x p2] (.Dict [] [] p3) pos) δ nx rt bk ct := .mk fun Bs B Hs H σ o D f => by
  obtain ⟨δ', h1, h2⟩ := h
  obtain ⟨i, h3, rfl⟩ := h1.at
  refine WS.of (ps_set (i := i) (by rw [S.n]; exact S.nd) (by rw [S.n]; exact h3) (S.fn x hl).1 pe_dnewT rfl (S.fn x hl).2) fun p hp => ?_
  exact f.nx _ _ Hs _ (o.setO i (s0 := .ot []) hp ⟨p, rfl, o.sub.free hp, upd_same⟩) (Same.refl _) h2
/-- x.append(e), x an own list -/
theorem ds_append (S : Sc M X k N sc cs) {l : List Da} (hg : Gt N δ x (.ol l)) (hv : visB sc x = true) (hz : l.length < 1000000) (h : DE X e δ fun d => ∃ δ', Ss N δ x (some (.ol (l ++ [d]))) δ' ∧ nx δ')
    (hfew : ((backTo p3 (starEach [e] X.env)).all (fun x => !x.1) && (backToKw p3 (keywordEach [] X.env)).all (fun x => x.1.isSome)
      && decide ([e].length + ([] : List Keyword).length + (if ([] : List Keyword).isEmpty then 0 else 1) < 30)) = true := by rfl)
    (hline : (apos.endLine == p3.line) = true := by rfl) (hst : starEach [e] X.env = (false, eval e X.env) :: starEach [] X.env := by rfl) :
    DS X (.Expr (.Call (.Attribute (.Name x p2) "append" apos) [e] [] p3) pos) δ nx rt bk ct := .mk fun Bs B Hs H σ o D f => by
  obtain ⟨i, h1, h2⟩ := hg.at
  obtain ⟨v, h3, p, vs, rfl, e1, e2, r⟩ := o.slot i _ h2
  obtain ⟨v1, v2, v3⟩ := visB_ok hv
  refine WS.of (ps_expr (pe_bm PySem.F.plainAttrs_list PySem.F.slot_list_append PySem.F.type_list_append mt_append (pe_var (i := i) (by rw [S.n]; exact h1) (by rw [S.hsc]; exact v1) v2 v3) (pa_cons pe_W pa_nil hst) rfl hfew hline hst rfl) rfl)
    ⟨_, h3, .inl ⟨rfl, _, .of e2⟩, h Bs B Hs H σ o _ fun d w Hs' H' g ⟨δ', hd, pd⟩ rd => ?_⟩
  obtain ⟨j, h5, rfl⟩ := hd.at
  obtain rfl : i = j := nodup_ix S.nd h1 h5
  have o1 := o.mono g
  have e3 := g.no p (by rw [e2]; exact fun z => nomatch z) e1
  refine ⟨p, vs, w, rfl, rfl, g.hh _ _ e2, ?_, f.nx _ _ Hs' _ (o1.chg (s1 := .ol (l ++ [d])) h2 rfl rfl h3 e3 ⟨p, vs ++ [w], rfl, e3, upd_same, (r.mono g.ss).app (.cons rd .nil)⟩) g.ss pd⟩
  have := r.len
  have : sizeLine = 16777216 := sizeLine_eq
  omega
/-- x.pop() -/
theorem ds_pop (S : Sc M X k N sc cs) {l : List Da} (hg : Gt N δ x (.ol l)) (hv : visB sc x = true) (hz : l ≠ []) (h : ∃ δ', Ss N δ x (some (.ol l.dropLast)) δ' ∧ nx δ')
    (hline : (apos.endLine == p3.line) = true := by rfl) : DS X (.Expr (.Call (.Attribute (.Name x p2) "pop" apos) [] [] p3) pos) δ nx rt bk ct := .mk fun Bs B Hs H σ o D f => by
  obtain ⟨i, h1, h2⟩ := hg.at
  obtain ⟨v, h3, p, vs, rfl, e1, e2, r⟩ := o.slot i _ h2
  obtain ⟨v1, v2, v3⟩ := visB_ok hv
  obtain ⟨δ', hd, pd⟩ := h
  obtain ⟨j, h5, rfl⟩ := hd.at
  obtain rfl : i = j := nodup_ix S.nd h1 h5
  have hl := r.len
  have hp : vs.length - 1 < vs.length := by
    cases l with
    | nil => exact absurd rfl hz
    | cons => simp at hl; omega
  refine WS.of (ps_expr (pe_bm0 PySem.F.plainAttrs_list PySem.F.slot_list_pop PySem.F.type_list_pop mt_pop (pe_var (i := i) (by rw [S.n]; exact h1) (by rw [S.hsc]; exact v1) v2 v3) rfl hline) rfl)
    ⟨_, h3, .inl ⟨rfl, _, .of e2⟩, p, vs, vs[vs.length - 1], rfl, rfl, e2, by simp [hp], ?_⟩
  exact f.nx _ _ Hs _ (o.chg (s1 := .ol l.dropLast) h2 rfl rfl h3 e1 ⟨p, vs.dropLast, rfl, e1, upd_same, r.dropLast⟩) (Same.refl _) pd
/-- targets = x.pop() -/
theorem ds_popTo (S : Sc M X k N sc cs) {l : List Da} {d : Da} (hg : Gt N δ x (.ol (l ++ [d]))) (hv : visB sc x = true) (h : ∃ δ', Ss N δ x (some (.ol l)) δ' ∧ ∃ nm, DG X tg nm d δ' nx)
    (hline : (apos.endLine == p3.line) = true := by rfl) (hs : swapsWithSole [tg] (.Call (.Attribute (.Name x p2) "pop" apos) [] [] p3) pos.line X.env = pure false := by rfl)
    (hw : swappedStores [tg] (.Call (.Attribute (.Name x p2) "pop" apos) [] [] p3) X.env = pure none := by rfl) (h1 : (assignEach [tg] X.env).map (·.2) = [assign tg X.env] := by rfl) :
    DS X (.Assign [tg] (.Call (.Attribute (.Name x p2) "pop" apos) [] [] p3) pos) δ nx rt bk ct := .mk fun Bs B Hs H σ o D f => by
  obtain ⟨i, hi, h2⟩ := hg.at
  obtain ⟨v, h3, p, vs, rfl, e1, e2, r⟩ := o.slot i _ h2
  obtain ⟨v1, v2, v3⟩ := visB_ok hv
  obtain ⟨δ', hd, nm, pd⟩ := h
  obtain ⟨j, h5, rfl⟩ := hd.at
  obtain rfl : i = j := nodup_ix S.nd hi h5
  have hl := r.len
  obtain ⟨w, hw1, rw1⟩ := r.get (i := l.length) (d := d) (by simp)
  refine WS.of (ps_asg (pe_bm0 PySem.F.plainAttrs_list PySem.F.slot_list_pop PySem.F.type_list_pop mt_pop (pe_var (i := i) (by rw [S.n]; exact hi) (by rw [S.hsc]; exact v1) v2 v3) rfl hline) pg_W hs hw h1)
    ⟨_, h3, .inl ⟨rfl, _, .of e2⟩, p, vs, w, rfl, rfl, e2, ?_, ?_⟩
  · rw [← hl]
    simpa using hw1
  have o1 := o.chg (s1 := .ol l) h2 rfl rfl h3 e1 ⟨p, vs.dropLast, rfl, e1, upd_same, by simpa using r.dropLast⟩
  exact pd Bs B Hs _ σ w o1 rw1 _ fun δ2 σ2 Hs2 H2 o2 g2 _ p2 => f.nx _ _ Hs2 H2 o2 g2.ss p2
/-- targets = e -/
theorem ds_asg (h : DE X e δ fun d => ∃ nm, DG X tg nm d δ nx) (hs : swapsWithSole [tg] e pos.line X.env = pure false := by rfl) (hw : swappedStores [tg] e X.env = pure none := by rfl)
    (h1 : (assignEach [tg] X.env).map (·.2) = [assign tg X.env] := by rfl) : DS X (.Assign [tg] e pos) δ nx rt bk ct := .mk fun Bs B Hs H σ o D f =>
  WS.of (ps_asg pe_W pg_W hs hw h1) (h Bs B Hs H σ o _ fun d v Hs' H' g ⟨nm, p⟩ r => p Bs B Hs' H' σ v (o.mono g) r _ fun δ2 σ2 Hs2 H2 o2 g2 _ p2 => f.nx _ _ Hs2 H2 o2 (g.ss.trans g2.ss) p2)
/-- a, b = e1, e2, plain local names -/
theorem ds_par (S : Sc M X k N sc cs) {px py pt : Pos} {kt k2 pt2} (h : DE X a δ fun d => DE X b δ fun d' => ∃ δ1 δ2, Ss N δ x (some (.d d)) δ1 ∧ Ss N δ1 y (some (.d d')) δ2 ∧ nx δ2) (hxy : x ≠ y)
    (hx : (sc.names.lookup x == some .local) = true) (hy : (sc.names.lookup y == some .local) = true)
    (hw : ∀ env : Env, env.scope = sc → swappedStores [.Tuple [.Name x px, .Name y py] kt pt] (.Tuple [a, b] k2 pt2) env = pure (some [x, y]))
    (hN : N.contains x = true) (hN2 : N.contains y = true)
    (hs : swapsWithSole [.Tuple [.Name x px, .Name y py] kt pt] (.Tuple [a, b] k2 pt2) pos.line X.env = pure false := by rfl)
    (h1 : starEach [a, b] X.env = (false, eval a X.env) :: starEach [b] X.env := by rfl) (h2 : starEach [b] X.env = (false, eval b X.env) :: starEach [] X.env := by rfl) :
    DS X (.Assign [.Tuple [.Name x px, .Name y py] kt pt] (.Tuple [a, b] k2 pt2) pos) δ nx rt bk ct := .mk fun Bs B Hs H σ o D f => by
  obtain ⟨i, hi⟩ : ∃ i : Nat, N[i]? = some x := List.mem_iff_getElem?.mp (by simpa using hN)
  obtain ⟨j, hj⟩ : ∃ i : Nat, N[i]? = some y := List.mem_iff_getElem?.mp (by simpa using hN2)
  have hij : i ≠ j := fun e => by
    rw [e, hj] at hi
    exact hxy (Option.some.inj hi).symm
  refine WS.of (ps_par (i := i) (j := j) S.calm (by rw [S.n]; exact S.nd) (by rw [S.n]; exact hi) (by rw [S.n]; exact hj) hij (by rw [S.hsc]; simpa using hx) (by rw [S.hsc]; simpa using hy) (pa_cons pe_W (pa_cons pe_W pa_nil h2) h1) (hw _ S.hsc) hs) ?_
  refine h Bs B Hs H σ o _ fun d v Hs1 H1 g1 p1 r1 => p1 Bs B Hs1 H1 σ (o.mono g1) _ fun d' w Hs2 H2 g2 ⟨δ1, δ2, q1, q2, p2⟩ r2 => ?_
  obtain ⟨i', e1, rfl⟩ := q1.at
  obtain rfl : i = i' := nodup_ix S.nd hi e1
  obtain ⟨j', e2, rfl⟩ := q2.at
  obtain rfl : j = j' := nodup_ix S.nd hj e2
  exact ⟨v, w, rfl, f.nx _ _ Hs2 H2 ((((o.mono g1).mono g2).setD i (Rp.mono g2.ss r1)).setD j r2) (g1.ss.trans g2.ss) p2⟩
/-- x[k] = e, x an own dict -/
theorem ds_dputK (S : Sc M X k N sc cs) {kvs : List (Key × V)} (hg : Gt N δ x (.ok kvs)) (hv : visB sc x = true) (hz : kvs.length < 1000000) (h : DE X e δ fun d => DE X b δ fun y => ∃ v q, d = .a v ∧ y = .a (kV q) ∧ ∃ δ', Ss N δ x (some (.ok (putK kvs q v))) δ' ∧ nx δ')
    (hs : swapsWith e (some (.Subscript (.Name x p2) b p3)) pos.line X.env = pure false := by rfl) : DS X (.Assign [.Subscript (.Name x p2) b p3] e pos) δ nx rt bk ct := .mk fun Bs B Hs H σ o D f => by
  have hu : X.A.units + 1 < cLine := by have := S.room.units; omega
  obtain ⟨i, h1, h2⟩ := hg.at
  obtain ⟨v, h3, p, rfl, e1, e2⟩ := o.slot i _ h2
  obtain ⟨v1, v2, v3⟩ := visB_ok hv
  refine WS.of (ps_dput hu (pe_var (i := i) (by rw [S.n]; exact h1) (by rw [S.hsc]; exact v1) v2 v3) pe_W pe_W hs) (h Bs B Hs H σ o _ fun d w Hs1 H1 g1 q1 r1 => ⟨_, h3, q1 Bs B Hs1 H1 σ (o.mono g1) _ fun y z Hs2 H2 g2 ⟨v, q, ed, ey, δ', hd, pd⟩ r2 => ?_⟩)
  subst ed ey
  cases r1.atom
  cases r2.atom
  obtain ⟨j, h5, rfl⟩ := hd.at
  obtain rfl : i = j := nodup_ix S.nd h1 h5
  have g := g1.trans g2
  have e3 := g.no p (by rw [e2]; exact fun z => nomatch z) e1
  refine ⟨p, _, rfl, DPut.k (g.hh _ _ e2) (by have : sizeLine = 16777216 := sizeLine_eq; omega), f.nx _ _ Hs2 _ ((o.mono g).chg (s1 := .ok (putK kvs q _)) h2 rfl rfl h3 e3 ⟨p, rfl, e3, upd_same⟩) g.ss pd⟩
theorem ds_dputT (S : Sc M X k N sc cs) {kvs : List (List Key × V)} (hg : Gt N δ x (.ot kvs)) (hv : visB sc x = true) (hz : kvs.length < 1000000) (h : DE X e δ fun d => DE X b δ fun y => ∃ v q, d = .a v ∧ y = .tup ((q.map kV).map Da.a) ∧ ∃ δ', Ss N δ x (some (.ot (putK kvs q v))) δ' ∧ nx δ')
    (hs : swapsWith e (some (.Subscript (.Name x p2) b p3)) pos.line X.env = pure false := by rfl) : DS X (.Assign [.Subscript (.Name x p2) b p3] e pos) δ nx rt bk ct := .mk fun Bs B Hs H σ o D f => by
  have hu : X.A.units + 1 < cLine := by have := S.room.units; omega
  obtain ⟨i, h1, h2⟩ := hg.at
  obtain ⟨v, h3, p, rfl, e1, e2⟩ := o.slot i _ h2
  obtain ⟨v1, v2, v3⟩ := visB_ok hv
  refine WS.of (ps_dput hu (pe_var (i := i) (by rw [S.n]; exact h1) (by rw [S.hsc]; exact v1) v2 v3) pe_W pe_W hs) (h Bs B Hs H σ o _ fun d w Hs1 H1 g1 q1 r1 => ⟨_, h3, q1 Bs B Hs1 H1 σ (o.mono g1) _ fun y z Hs2 H2 g2 ⟨v, q, ed, ey, δ', hd, pd⟩ r2 => ?_⟩)
  subst ed ey
  cases r1.atom
  obtain ⟨t, ts, rfl, ht, rt⟩ := r2.tup_inv
  rw [rt.atoms] at ht
  obtain ⟨j, h5, rfl⟩ := hd.at
  obtain rfl : i = j := nodup_ix S.nd h1 h5
  have g := g1.trans g2
  have e3 := g.no p (by rw [e2]; exact fun z => nomatch z) e1
  refine ⟨p, _, rfl, DPut.t (g.hh _ _ e2) (g2.sub _ _ ht) (by have : sizeLine = 16777216 := sizeLine_eq; omega), f.nx _ _ Hs2 _ ((o.mono g).chg (s1 := .ot (putK kvs q _)) h2 rfl rfl h3 e3 ⟨p, rfl, e3, upd_same⟩) g.ss pd⟩

/-! ### loops -/
theorem ds_for (S : Sc M X k N sc cs) {body : List Stmt} (h : DI X tg it δ fun ds => ∃ I : Nat → Sg → Prop, I 0 δ ∧
      (∀ i d δ', ds[i]? = some d → I i δ' → ∃ nm, DG X tg nm d δ' fun δ2 => DB X body δ2 (I (i + 1)) rt nx (I (i + 1))) ∧ ∀ δ', I ds.length δ' → nx δ')
    (hs : ∀ x, foldedSetIterable it X.env x = pure x := by intro _; rfl) : DS X (.For tg it body [] pos) δ nx rt bk ct := .mk fun Bs B Hs H σ o D f =>
  WS.of (ps_for S.po S.calm pi_W pg_W pb_W hs) (h Bs B Hs H σ o _ fun ds J G Y Hs1 H1 g1 ⟨I, i0, step, fin⟩ wk hG hY => by
    refine for_it wk (fun i σ2 H2 => ∃ Hs2 δ2, Same Hs1 Hs2 ∧ Ok X.K Bs B Hs2 H2 σ2 δ2 ∧ i ≤ ds.length ∧ I i δ2) ?_ ?_ ?_ ?_
    · exact ⟨Hs1, δ, Same.refl _, o.mono g1, Nat.zero_le _, i0⟩
    · rintro i σ2 H2 hi ⟨Hs2, δ2, s2, o2, _⟩
      exact hG Hs2 H2 s2 o2.sub
    · rintro i x σ2 H2 H3 hi ⟨Hs2, δ2, s2, o2, _, pi⟩ hy
      obtain ⟨d, hd⟩ : ∃ d, ds[i]? = some d := ⟨ds[i], by simp [hi]⟩
      obtain ⟨Hs3, g3, rd⟩ := hY i d Hs2 H2 x H3 s2 o2.sub hd hy
      obtain ⟨nm, stp⟩ := step i d δ2 hd pi
      refine stp Bs B Hs3 H3 σ2 x (o2.mono g3) rd _ fun δ4 σ4 Hs4 H4 o4 g4 _ p4 => ?_
      have s4 := (s2.trans g3.ss).trans g4.ss
      refine p4 Bs B Hs4 H4 σ4 o4 _ ⟨fun δ5 σ5 Hs5 H5 o5 s5 p5 => ⟨Hs5, δ5, s4.trans s5, o5, by omega, p5⟩, f.rt, fun δ5 σ5 Hs5 H5 o5 s5 p5 => f.nx δ5 σ5 Hs5 H5 o5 (g1.ss.trans (s4.trans s5)) p5, fun δ5 σ5 Hs5 H5 o5 s5 p5 => ⟨Hs5, δ5, s4.trans s5, o5, by omega, p5⟩⟩
    · rintro σ2 H2 ⟨Hs2, δ2, s2, o2, _, pi⟩
      exact f.nx δ2 σ2 Hs2 H2 o2 (g1.ss.trans s2) (fin δ2 pi))
theorem ds_while (S : Sc M X k N sc cs) {c : Expr} {body : List Stmt} (I : Nat → Sg → Prop) (h0 : ∃ n, I n δ)
    (step : ∀ n δ', I n δ' → DT X c δ' fun z => (z = true → DB X body δ' (fun δ2 => ∃ n', n' < n ∧ I n' δ2) rt nx (fun δ2 => ∃ n', n' < n ∧ I n' δ2)) ∧ (z = false → nx δ')) : DS X (.While c body [] pos) δ nx rt bk ct := .mk fun Bs B Hs H σ o D f =>
  WS.of (ps_while S.po pt_W pb_W) (by
    obtain ⟨n0, i0⟩ := h0
    refine ⟨fun n σ2 H2 => ∃ Hs2 δ2, Same Hs Hs2 ∧ Ok X.K Bs B Hs2 H2 σ2 δ2 ∧ I n δ2, ⟨n0, Hs, δ, Same.refl _, o, i0⟩, ?_⟩
    rintro n σ2 H2 ⟨Hs2, δ2, s2, o2, pi⟩
    refine step n δ2 pi Bs B Hs2 H2 σ2 o2 _ fun z Hs3 H3 g3 pz => ?_
    cases z with
    | false => exact iteF (f.nx δ2 σ2 Hs3 H3 (o2.mono g3) (s2.trans g3.ss) (pz.2 rfl))
    | true =>
      refine iteT ⟨fun σ4 H4 => ∃ n', n' < n ∧ ∃ Hs4 δ4, Same Hs Hs4 ∧ Ok X.K Bs B Hs4 H4 σ4 δ4 ∧ I n' δ4, fun σ4 H4 h => h, ?_⟩
      have s3 := s2.trans g3.ss
      exact pz.1 rfl Bs B Hs3 H3 σ2 (o2.mono g3) _ ⟨fun δ5 σ5 Hs5 H5 o5 s5 ⟨n', hn, p5⟩ => ⟨n', hn, Hs5, δ5, s3.trans s5, o5, p5⟩, f.rt, fun δ5 σ5 Hs5 H5 o5 s5 p5 => f.nx δ5 σ5 Hs5 H5 o5 (s3.trans s5) p5, fun δ5 σ5 Hs5 H5 o5 s5 ⟨n', hn, p5⟩ => ⟨n', hn, Hs5, δ5, s3.trans s5, o5, p5⟩⟩)
end
end DL

/-! DL5: promises over data, calls of defs, bodies of defs. -/
namespace DL
open PySem PySem.Spec PyProof.Rows L2

/-- a promise over data: args, what is asked of them, what is handed back -/
def SpD (K : PySem.W.Frag) {α : Type} (ms : List Bool) (args : α → List Da) (pre : α → Prop) (post : α → Da → Prop) : Sp := fun vs H Q _ =>
  ∃ (a : α) (Hs : Hp), Same Hs H ∧ RpL K Hs H ms (args a) vs ∧ pre a ∧ ∀ d v Hs' H', Go Hs H Hs' H' → post a d → Rp K Hs' d v → Q v H'
structure Cal {α : Type} (M : Md) (k : Nat) (x : Str) (ms : List Bool) (args : α → List Da) (pre : α → Prop) (post : α → Da → Prop) : Prop where
  ex : ∃ f fd ps, FnOk M.P M.w M.K M.mg M.base CX0 k f fd ps (SpD M.K ms args pre post) ∧ M.mg x = some (.ref f) ∧ PySem.W.keepIn M.K (.ref f) = true ∧ Binds M.K fd ps []
theorem Cal.mono {α : Type} {M : Md} {k j : Nat} {x : Str} {ms : List Bool} {args : α → List Da} {pre : α → Prop} {post : α → Da → Prop} (c : Cal M k x ms args pre post) (h : k ≤ j) : Cal M j x ms args pre post := by
  obtain ⟨f, fd, ps, F, h1, h2, h3⟩ := c.ex
  exact ⟨f, fd, ps, F.mono h, h1, h2, h3⟩
def startS (n : Nat) (ms : List Bool) (ds : List Da) : Sg := List.zipWith (fun m d => some (if m = true then SD.d d else SD.b d)) ms ds ++ List.replicate (n - ms.length) none
section
variable {M : Md} {X : Cx} {k : Nat} {N : List Str} {sc cs : Scope} {δ δ' : Sg} {m : Bool} {Φ Ψ : Da → Prop} {x y : Str} {pos p2 p3 apos : Pos} {e a b o tg it : Expr} {es : List Expr}
theorem RpL.len2 {K : PySem.W.Frag} {Hs H : Hp} : ∀ {ms : List Bool} {ds : List Da} {vs : List V}, RpL K Hs H ms ds vs → ds.length = ms.length
  | _, _, _, .nil => rfl
  | _, _, _, .cons _ t => congrArg (· + 1) t.len2
theorem RpL.get {K : PySem.W.Frag} {Hs H : Hp} : ∀ {ms : List Bool} {ds : List Da} {vs : List V} {i : Nat} {m : Bool} {d : Da}, RpL K Hs H ms ds vs → ms[i]? = some m → ds[i]? = some d → ∃ v, vs[i]? = some v ∧ RpM m K Hs H d v
  | _, _, _, _, _, _, .nil, e, _ => by simp at e
  | _, _, _, 0, _, _, .cons r _, e, e2 => by simp at e e2; subst e e2; exact ⟨_, rfl, r⟩
  | _, _, _, i + 1, m, d, .cons _ t, e, e2 => by
    obtain ⟨v, h1, h2⟩ := RpL.get (i := i) (m := m) (d := d) t (by simpa using e) (by simpa using e2)
    exact ⟨v, by simpa using h1, h2⟩
theorem ok_start {K : PySem.W.Frag} {Hs H : Hp} {ms : List Bool} {ds : List Da} {vs : List V} (e : Same Hs H) (r : RpL K Hs H ms ds vs) (hn : ms.length ≤ N.length) : Ok K Hs H Hs H (L2.start N vs) (startS N.length ms ds) := by
  have hv := r.lens
  have hd := r.len2
  have key : ∀ {i : Nat} {s : SD}, (startS N.length ms ds)[i]? = some (some s) → ∃ m d, ms[i]? = some m ∧ ds[i]? = some d ∧ s = (if m = true then SD.d d else SD.b d) := fun {i s} h => by
    unfold startS at h
    by_cases hi : i < ms.length
    · rw [List.getElem?_append_left (by simp [hd]; exact hi), List.getElem?_zipWith] at h
      rw [List.getElem?_eq_getElem hi, List.getElem?_eq_getElem (show i < ds.length by omega)] at h
      refine ⟨_, _, List.getElem?_eq_getElem hi, List.getElem?_eq_getElem (show i < ds.length by omega), ?_⟩
      simpa using h.symm
    · rw [List.getElem?_append_right (by simp [hd]; omega), List.getElem?_replicate] at h
      split at h <;> cases h
  have own : ∀ {i : Nat} {s : SD}, (startS N.length ms ds)[i]? = some (some s) → s.own = false := fun {i s} h => by
    obtain ⟨m, d, _, _, rfl⟩ := key h
    cases m <;> rfl
  refine ⟨Go.refl e, fun i s h => ?_, ?_, fun i s p h w _ => ?_, fun i j s t p h _ w _ _ _ => ?_⟩
  · obtain ⟨m, d, h1, h2, rfl⟩ := key h
    obtain ⟨v, h3, h4⟩ := r.get h1 h2
    refine ⟨v, ?_, ?_⟩
    · unfold L2.start
      have hi : i < vs.length := (List.getElem?_eq_some_iff.mp h3).1
      rw [List.getElem?_append_left (by simpa using hi), List.getElem?_map, h3]
      rfl
    · cases m with
      | true => exact h4
      | false => exact h4
  · unfold L2.start startS
    simp [hd]
    omega
  · rw [own h] at w; cases w
  · rw [own h] at w; cases w
theorem sc_of {P : Program} {w : World} {K : PySem.W.Frag} {mg : Str → Option Value} {base : Heap} {qual : Str} {scope : Scope} {f : Addr} {cd : Value} {A : Around} {outer : List Env} {s : Shared} {H : Hp} {E : XK} {ps : List Str}
    (S : FnScope N ps scope) (hr : Room k (A.deeper (envOfC qual scope s.heap.objs.size f cd))) : Sc ⟨P, w, K, mg, base⟩ (cxOf CX0 P w K mg base N qual scope f cd A outer s H E).nox k N scope scope :=
  ⟨rfl, rfl, rfl, rfl, rfl, rfl, S.nd, rfl, hr, S.kind, PassesOwn.never, rfl, fun x h => ⟨locB_ok h, .inl rfl⟩⟩
/-- THE RULE for a def over data -/
theorem fn_ok {α : Type} {qual : Str} {st : Stmt} {f : Addr} {fd : FuncData} {ps : List Str} {ms : List Bool} {args : α → List Da} {pre : α → Prop} {post : α → Da → Prop} (F : Fun M.K x qual st f fd) (S : FnScope N ps (defScope st)) (hl : ms.length = ps.length)
    (hbody : ∀ X, Sc M X k N (defScope st) (defScope st) → ∀ a, pre a → DB X (defBody st) (startS N.length ms (args a)) (fun _ => post a .non) (post a) (fun _ => False) (fun _ => False)) :
    FnOk M.P M.w M.K M.mg M.base CX0 (k + 1) f fd ps (SpD M.K ms args pre post) := by
  refine F.ok S (fun vs H Q E h => ?_) (fun cdv A outer s H vs Q E hr h => ?_)
  · obtain ⟨a, Hs, _, r, _⟩ := h
    rw [r.lens, hl]
  · obtain ⟨a, Hs, e, r, hp, q⟩ := h
    have hN : ms.length ≤ N.length := by
      have := congrArg List.length S.pre
      rw [List.length_take] at this
      omega
    refine ⟨_, pb_W, hbody _ (sc_of S hr) a hp Hs H Hs H _ (ok_start e r hN) _ ⟨fun δ σ Hs' H' o _ h => q .non .non Hs' H' o.go h (.a _), fun d v Hs' H' g h r => q d v Hs' H' g h r, fun _ _ _ _ _ _ h => h.elim, fun _ _ _ _ _ _ h => h.elim⟩⟩
theorem cal_mk {α : Type} {f : Addr} {fd : FuncData} {ps : List Str} {ms : List Bool} {args : α → List Da} {pre : α → Prop} {post : α → Da → Prop} (F : FnOk M.P M.w M.K M.mg M.base CX0 k f fd ps (SpD M.K ms args pre post)) (h1 : M.mg x = some (.ref f))
    (h2 : PySem.W.keepIn M.K (.ref f) = true) (h3 : Binds M.K fd ps []) : Cal M k x ms args pre post := ⟨f, fd, ps, F, h1, h2, h3⟩
/-- a call of a def -/
theorem de_call {α : Type} {ms : List Bool} {args : α → List Da} {pre : α → Prop} {post : α → Da → Prop} (S : Sc M X k N sc cs) (c : Cal M k x ms args pre post) (hg : glB sc x = true) (h : DA X ms (e :: es) δ fun ds => ∃ a, ds = args a ∧ pre a ∧ ∀ d, post a d → Φ d)
    (he : starEach (e :: es) X.env = (false, eval e X.env) :: starEach es X.env := by rfl) (hpl : (backTo pos (starEach es X.env)).any (·.1) = false := by rfl) : DM X m (.Call (.Name x p2) (e :: es) [] pos) δ Φ := DM.of <| .mk fun Bs B Hs H σ o Q q => by
  obtain ⟨f, fd, ps, F, h1, h2, h3⟩ := c.ex
  obtain ⟨g1, g2, g3⟩ := glB_ok hg
  have F' : FnOk X.prog X.w X.K X.mg X.base CX0 k f fd ps (SpD X.K ms args pre post) := by rw [S.hP, S.hw, S.hK, S.hmg, S.hb]; exact F
  refine WE.of (pe_call (dvs := []) (ds := []) (E := E0) F' S.room (by show X.env.scope.names.lookup x = _; rw [S.hsc]; exact g1) (by rw [S.hmg]; exact h1) (by rw [S.hK]; exact h2) (by rw [S.hK]; exact h3) .nil pass0 pa_W g2 he hpl) ?_
  refine h Bs B Hs H σ o _ fun ds vs Hs1 H1 gg ⟨a, ea, pa, k⟩ r => ?_
  subst ea
  rw [List.append_nil]
  exact ⟨a, Hs1, gg.sub, r, pa, fun d v Hs' H' g p rd => q d v Hs' H' (gg.trans g) (k d p) rd⟩
end

/-! ### constants of the module -/
def GlS (M : Md) (x s : Str) : Prop := ∃ t, M.mg x = some (.str s t)
def GlI (M : Md) (x : Str) (i : Int) : Prop := ∃ t, M.mg x = some (.int i t)
section
variable {M : Md} {X : Cx} {k : Nat} {N : List Str} {sc cs : Scope} {δ δ' : Sg} {m : Bool} {Φ Ψ : Da → Prop} {x y : Str} {pos p2 p3 apos : Pos} {e a b o tg it : Expr} {es : List Expr}
theorem de_globS (S : Sc M X k N sc cs) {s : Str} (hm : GlS M x s) (hg : glB sc x = true) (h : Φ (.str s)) : DM X m (.Name x pos) δ Φ := by
  obtain ⟨t, e⟩ := hm
  exact de_glob (v := .str s) S hg e ⟨t, rfl⟩ h
theorem de_globI (S : Sc M X k N sc cs) {i : Int} (hm : GlI M x i) (hg : glB sc x = true) (h : Φ (.int i)) : DM X m (.Name x pos) δ Φ := by
  obtain ⟨t, e⟩ := hm
  exact de_glob (v := .int i) S hg e ⟨t, rfl⟩ h
theorem dp_none {Φ : Option Int → Prop} (h : Φ none) : DP X none δ Φ := h
theorem dp_some {Φ : Option Int → Prop} (h : DE X e δ fun d => ∃ i, d = .int i ∧ Φ (some i)) : DP X (some e) δ Φ := h
theorem spT {A B : Prop} (h : A) : (true = true → A) ∧ (true = false → B) := ⟨fun _ => h, fun z => Bool.noConfusion z⟩
theorem spF {A B : Prop} (h : B) : (false = true → A) ∧ (false = false → B) := ⟨fun z => Bool.noConfusion z, fun _ => h⟩
/-- two-way splits -/
theorem two {A B : Bool → Prop} {c : Bool} (h1 : c = true → A true) (h2 : c = false → B false) : (c = true → A true) ∧ (c = false → B false) := ⟨h1, h2⟩
end

/-! ### the end: a law -/
theorem law_imp {α : Type} {M : Md} {k : Nat} {f : Addr} {fd : FuncData} {ps : List Str} {post : List Int → Da → Prop} (F : FnOk M.P M.w M.K M.mg M.base CX0 k f fd ps (SpD M.K [true] (fun ns : List Int => [.scr ns]) (fun ns => ns.length ≤ 63) post)) (h : ∀ ns d, post ns d → d = .bl true) :
    FnOk M.P M.w M.K M.mg M.base CX0 k f fd ps (fun vs H Q _ => ∃ (a : Addr) (ns : List Int), vs = [.ref a] ∧ SqL M.K H a (ns.map V.int) ∧ ns.length ≤ 63 ∧ ∀ H', Q (.bl true) H') :=
  F.imp fun vs H Q E ⟨a, ns, ev, hs, hl, q⟩ => by
    subst ev
    refine ⟨ns, H, Same.refl _, .cons (.scr hs) .nil, hl, fun d v Hs' H' g p r => ?_⟩
    cases h ns d p
    cases r.atom
    exact q H'
end DL

/-! DL6: what == tells of data. -/
namespace DL
open PySem PySem.Spec PyProof.Rows L2
inductive Shp : Nat → Da → Prop
  | non {n : Nat} : Shp n .non
  | bl {n : Nat} (b : Bool) : Shp n (.bl b)
  | int {n : Nat} (i : Int) : Shp n (.int i)
  | str {n : Nat} {x : Str} (h : PyData.strOk x = true) : Shp n (.str x)
  | lst {n : Nat} {l : List Da} (h : ∀ d ∈ l, Shp n d) : Shp (n + 1) (.lst l)
  | tup {n : Nat} {l : List Da} (h : ∀ d ∈ l, Shp n d) : Shp (n + 1) (.tup l)
theorem plAll_of : ∀ {l : List Da}, (∀ d ∈ l, Pl d) → PlAll l
  | [], _ => .nil
  | d :: l, h => .cons (h d List.mem_cons_self) (plAll_of fun e he => h e (List.mem_cons_of_mem _ he))
theorem Shp.pl {n : Nat} {d : Da} (h : Shp n d) : Pl d := by
  induction h with
  | non => exact .non
  | bl b => exact .bl b
  | int i => exact .int i
  | str h => exact .str _
  | lst h ih => exact .lst (plAll_of ih)
  | tup h ih => exact .tup (plAll_of ih)
theorem layAll_of : ∀ {l : List Da}, (∀ d ∈ l, PyData.canLay0 d.py = true) → PyData.canLayAll0 (l.map Da.py) = true
  | [], _ => by simp [PyData.canLayAll0]
  | d :: l, h => by
    rw [List.map_cons, PyData.canLayAll0, h d List.mem_cons_self, layAll_of fun e he => h e (List.mem_cons_of_mem _ he)]
    rfl
theorem depAll_of {n : Nat} : ∀ {l : List Da}, (∀ d ∈ l, PyData.depth d.py ≤ n) → PyData.depthAll (l.map Da.py) ≤ n
  | [], _ => by simp [PyData.depthAll]
  | d :: l, h => by
    have h1 := h d List.mem_cons_self
    have h2 := depAll_of (n := n) (l := l) fun e he => h e (List.mem_cons_of_mem _ he)
    simp only [PyData.depthAll, List.map_cons]
    omega
theorem Shp.lay {n : Nat} {d : Da} (h : Shp n d) : PyData.canLay0 d.py = true := by
  induction h with
  | non => simp [Da.py, PyData.canLay0]
  | bl b => simp [Da.py, PyData.canLay0]
  | int i => simp [Da.py, PyData.canLay0]
  | str h => simp [Da.py, PyData.canLay0, h]
  | lst h ih => rw [Da.py, PyData.canLay0]; exact layAll_of ih
  | tup h ih => rw [Da.py, PyData.canLay0]; exact layAll_of ih
theorem Shp.dep {n : Nat} {d : Da} (h : Shp n d) : PyData.depth d.py ≤ n + 1 := by
  induction h with
  | non => simp [Da.py, PyData.depth]
  | bl b => simp [Da.py, PyData.depth]
  | int i => simp [Da.py, PyData.depth]
  | str h => simp [Da.py, PyData.depth]
  | lst h ih =>
    rw [Da.py, PyData.depth]
    have := depAll_of ih
    omega
  | tup h ih =>
    rw [Da.py, PyData.depth]
    have := depAll_of ih
    omega
theorem Shp.shaped {n : Nat} {d : Da} (h : Shp n d) (hn : n ≤ 60) : SeqAt.shaped d.py = true := by
  show (d.py.canLay0 && decide (d.py.depth ≤ 64)) = true
  have := h.dep
  rw [h.lay, decide_eq_true (by omega)]
  rfl
section
variable {Φ : Bool → Prop}
theorem cmp_eqD {n m : Nat} {x y : Da} (h1 : Shp n x) (h2 : Shp m y) (h : Φ (PyData.eqv x.py y.py)) (hn : n ≤ 60 := by decide) (hm : m ≤ 60 := by decide) : CmpW Φ .Eq x y := .eqD h1.pl h2.pl (h1.shaped hn) (h2.shaped hm) h
theorem cmp_neD {n m : Nat} {x y : Da} (h1 : Shp n x) (h2 : Shp m y) (h : Φ (!PyData.eqv x.py y.py)) (hn : n ≤ 60 := by decide) (hm : m ≤ 60 := by decide) : CmpW Φ .NotEq x y := .neD h1.pl h2.pl (h1.shaped hn) (h2.shaped hm) h
theorem eqv_nil (l : List Da) : PyData.eqv (Da.py (.lst l)) (Da.py (.lst [])) = l.isEmpty := by
  rw [Da.py, Da.py, PyData.eqv]
  cases l with
  | nil => simp [PyData.eqvAll]
  | cons d l => simp [PyData.eqvAll]
/-- xs != [], xs == [] -/
theorem cmp_neNil {n : Nat} {l : List Da} (h1 : Shp n (.lst l)) (h : Φ (!l.isEmpty)) (hn : n ≤ 60 := by decide) : CmpW Φ .NotEq (.lst l) (.lst []) := by
  refine cmp_neD (m := 1) h1 (.lst fun d hd => by cases hd) ?_ hn
  rw [eqv_nil]
  exact h
theorem cmp_eqNil {n : Nat} {l : List Da} (h1 : Shp n (.lst l)) (h : Φ l.isEmpty) (hn : n ≤ 60 := by decide) : CmpW Φ .Eq (.lst l) (.lst []) := by
  refine cmp_eqD (m := 1) h1 (.lst fun d hd => by cases hd) ?_ hn
  rw [eqv_nil]
  exact h
end

/-! ### text[::-1], list[::-1] -/
theorem rev_pick (z : Str) : ((Builtin.Str.strSliceIndices none none (-1) z.length).filterMap (z.cps[·]?)) = z.cps.toList.reverse := by
  have hi : Builtin.Str.strSliceIndices none none (-1) z.length = (List.range z.length).map fun i => z.length - 1 - i := by
    unfold Builtin.Str.strSliceIndices
    show sliceRange ((z.length : Int) - 1) (-1) (-1) = _
    unfold sliceRange
    rw [if_neg (by omega)]
    dsimp only
    have hc : ((if (z.length : Int) - 1 > -1 then ((z.length : Int) - 1 - (-1) - (-1) - 1) / (-(-1)) else 0) : Int).toNat = z.length := by
      split
      · rw [show ((z.length : Int) - 1 - (-1) - (-1) - 1) = (z.length : Int) by omega, show (-(-1) : Int) = 1 from rfl, Int.ediv_one]
        omega
      · omega
    rw [hc]
    refine List.map_congr_left fun i hi => ?_
    have := List.mem_range.mp hi
    omega
  rw [hi]
  have key : ∀ n, n ≤ z.length → (((List.range n).map fun i => z.length - 1 - i).filterMap (z.cps[·]?)) = (z.cps.toList.drop (z.length - n)).reverse := by
    intro n
    induction n with
    | zero =>
      intro _
      rw [Nat.sub_zero, List.drop_of_length_le (by show z.cps.toList.length ≤ z.cps.size; simp)]
      rfl
    | succ n ih =>
      intro hn
      rw [List.range_succ, List.map_append, List.filterMap_append, ih (by omega)]
      have hlt : z.length - 1 - n < z.cps.toList.length := by
        show z.cps.size - 1 - n < z.cps.toList.length
        have : z.length = z.cps.size := rfl
        simp
        omega
      have e1 : z.length - (n + 1) = z.length - 1 - n := by omega
      have e2 : z.length - n = z.length - 1 - n + 1 := by omega
      rw [e1, e2, List.drop_eq_getElem_cons hlt, List.reverse_cons]
      congr 1
      simp only [List.map_cons, List.map_nil]
      rw [List.filterMap_cons_some (b := z.cps.toList[z.length - 1 - n]) (by rw [← Array.getElem?_toList]; exact List.getElem?_eq_getElem hlt)]
      rfl
  rw [key z.length (Nat.le_refl _), Nat.sub_self, List.drop_zero]
/-- the step -1 as written -/
abbrev mone (k : Nat) (p1 p2 : Pos) : Expr := .UnaryOp .USub (.Constant (.int 1) k p1) p2
abbrev slB (k : Nat) (p1 p2 p3 : Pos) : Expr := .Slice none none (some (mone k p1 p2)) p3
theorem mone_po {X : Cx} {k : Nat} {p1 p2 : Pos} : PO X (some (mone k p1 p2)) (tPart (tUn (rU fun i => .int (-i)) (tC (.int 1)))) := po_some (pe_un un_neg pe_int)
/-- the slice, made behind the thing -/
theorem slice_made {X : Cx} {pins : List (Addr × Obj)} {σ : L2.St} {H : Hp} {s : Shared} {k : Nat} {p1 p2 p3 : Pos} {Q : Value → Shared → Prop} (I : Inv X pins σ H s)
    (q : ∀ va vb vc s2, Inv X pins σ H s2 → IsPart va none → IsPart vb none → IsPart vc (some (-1)) → Q (.ref s2.heap.objs.size) { s2 with heap := s2.heap.push { cls := .type "slice", data := .fields #[va, vb, vc] } }) : wpAny (model X.prog X.w) X.A (eval (slB k p1 p2 p3) X.env) Q X.xe s := by
  have none_run : ∀ {s1 : Shared}, Inv X pins σ H s1 → _ := fun {s1} J => po_none.run pins s1 σ H (fun o G => o = none ∧ G = H) J ⟨rfl, rfl⟩
  refine wpAny_Slice (thn (none_run I) fun va sa ⟨_, _, Ia, pa, ea, ga⟩ => ?_)
  subst ea ga
  refine thn (po_none.run pins sa σ _ (fun o G => o = none ∧ G = _) Ia ⟨rfl, rfl⟩) fun vb sb ⟨_, _, Ib, pb, eb, gb⟩ => ?_
  subst eb gb
  refine thn (mone_po.run pins sb σ _ (fun o G => o = some (-1) ∧ G = _) Ib ⟨1, rfl, -1, rfl, rfl, rfl⟩) fun vc sc ⟨_, _, Ic, pc, ec, gc⟩ => ?_
  subst ec gc
  exact q va vb vc sc Ic pa pb pc
theorem pe_revS {X : Cx} {e : Expr} {te : TE} {k : Nat} {p1 p2 p3 pos : Pos} (he : PE X e te) : PE X (.Subscript e (slB k p1 p2 p3) pos) (fun σ H Q => te σ H fun x H1 =>
    (∃ z, x = .str z ∧ z.length ≤ sizeLine ∧ Q (.str ⟨z.cps.toList.reverse.toArray⟩) H1) ∨ (∃ a xs, x = .ref a ∧ SqL X.K H1 a xs ∧ ∀ p, H1 p = none → Q (.ref p) (upd H1 p (.lst xs.reverse)))) := by
  refine .mk fun pins s σ H Q I h => ?_
  refine Subscript_ (thn (he.run pins s σ H _ I h) fun v s1 ⟨x, H4, I1, r1, q1⟩ => slice_made I1 fun vl vu vs s4 I4 pl pu ps => ?_)
  have I5 : Inv X pins σ H4 { s4 with heap := s4.heap.push { cls := .type "slice", data := .fields #[vl, vu, vs] } } :=
    I4.kept (t' := s4.toks) fun b ob q => Heap.get?_push_of_some _ q
  rcases q1 with ⟨z, rfl, hz, q⟩ | ⟨a, xs, ex, hx, q⟩
  · obtain ⟨t, rfl⟩ := r1
    show wpAny (model X.prog X.w) X.A (subscriptTail e (slB k p1 p2 p3) (.str z t) (.ref s4.heap.objs.size)) (EP X pins σ Q) X.xe { s4 with heap := s4.heap.push { cls := .type "slice", data := .fields #[vl, vu, vs] } }
    refine tail_any (ops := [.str z t, .ref s4.heap.objs.size]) (typeIs_str _ z t) (PySem.F.slot_str_getitem.lookup) ?_ (by with_unfolding_all rfl)
    obtain ⟨l, rfl, el⟩ := IsPart.raw pl
    obtain ⟨u, rfl, eu⟩ := IsPart.raw pu
    obtain ⟨w, rfl, ew⟩ := IsPart.raw ps
    obtain rfl : l = none := by cases l; rfl; cases el
    obtain rfl : u = none := by cases u; rfl; cases eu
    refine wpAny_getItem_str_slice (l := none) (u := none) (st := w) ⟨_, Heap.get?_push_size _ rfl, rfl, rfl⟩ (by rw [ew]; rfl) ?_
    unfold sliceMade
    rw [ew]
    have hp : slicePicked z none none w = Builtin.Str.strSliceIndices none none (-1) z.length := by
      unfold slicePicked
      rw [ew]
      rfl
    rw [if_neg (by simp), hp, rev_pick]
    refine ⟨?_, .str _, H4, I5.tok _, ⟨_, rfl⟩, q⟩
    show (z.cps.toList.reverse.toArray).size ≤ sizeLine
    rw [List.size_toArray, List.length_reverse, Array.length_toList]
    exact hz
  · subst ex
    cases r1
    obtain ⟨own, rv, hL, hz⟩ := I5.list hx
    have hlen := rv.length
    show wpAny (model X.prog X.w) X.A (subscriptTail e (slB k p1 p2 p3) (.ref a) (.ref s4.heap.objs.size)) (EP X pins σ Q) X.xe { s4 with heap := s4.heap.push { cls := .type "slice", data := .fields #[vl, vu, vs] } }
    refine tail_any (ops := [.ref a, .ref _]) hL.isList.typeIs (PySem.slot_list_getitem.lookup) ?_ (by with_unfolding_all rfl)
    refine wpAny_getItem_list_slice hL.isList (Heap.IsSliceOf.new _ vl vu vs) pl pu ps
      (by decide) ?_ (by rw [List.size_toArray]; omega)
    rw [PySem.W.krv_pick]
    refine ⟨.ref _, _, I5.laid (t' := s4.toks) (o := .lst xs.reverse) (fun _ _ g => Heap.get?_push_of_some _ g) (Nat.le_refl _) ?_, rfl, q _ (I5.hok.fresh (Nat.le_refl _))⟩
    exact ⟨by simpa using hz, _, 0, rv.reverse, Heap.get?_push_size _ rfl⟩
inductive RevW (Φ : Da → Prop) : Da → Prop
  | str {z : Str} : z.length ≤ sizeLine → Φ (.str ⟨z.cps.toList.reverse.toArray⟩) → RevW Φ (.str z)
  | lst {l : List Da} : Φ (.lst l.reverse) → RevW Φ (.lst l)
section
variable {M : Md} {X : Cx} {δ : Sg} {m : Bool} {Φ : Da → Prop} {a : Expr}
theorem de_rev {k : Nat} {p1 p2 p3 pos : Pos} (h : DE X a δ fun x => RevW Φ x) : DM X m (.Subscript a (.Slice none none (some (.UnaryOp .USub (.Constant (.int 1) k p1) p2)) p3) pos) δ Φ := DM.of <| .mk fun Bs B Hs H σ o Q q =>
  WE.of (pe_revS pe_W) (h Bs B Hs H σ o _ fun x v Hs1 H1 g1 hb r1 => by
    cases hb with
    | str hl h => cases r1.atom; exact .inl ⟨_, rfl, hl, q _ _ Hs1 H1 g1 h (.a _)⟩
    | lst h =>
      obtain ⟨p, vs, rfl, hp, ra⟩ := r1.lst_inv
      exact .inr ⟨p, vs, rfl, .of (g1.sub _ _ hp), fun b hb => q _ _ _ _ (g1.trans (Go.new g1.sub hb)) h (.lst upd_same (ra.rev.mono (same_upd (g1.sub.free hb))))⟩)
end
end DL

/-! DL7: the list of draws; comprehensions' usual forms. -/
namespace DL
open PySem PySem.Spec PyProof.Rows L2
section
variable {M : Md} {X : Cx} {k : Nat} {N : List Str} {sc cs : Scope} {δ δ' : Sg} {m : Bool} {Φ Ψ : Da → Prop} {x y : Str} {pos p2 p3 apos : Pos} {e a b o tg it : Expr} {es : List Expr}
  {st : Stmt} {sts : List Stmt} {nx bk ct : Sg → Prop} {rt : Da → Prop}
theorem upd_id {H : Hp} {p : Addr} {o : HO} (h : H p = some o) : upd H p o = H := by
  funext q
  unfold upd
  split
  · rename_i e; rw [e, h]
  · rfl
theorem drw_ok {H : Hp} {h : Heap} {p : Addr} (d : Drw p h) {P : Program} {w : World} : ObjOk P w H h p (.ext (Drw p)) := by
  refine ⟨d, ?_, fun h1 h2 ⟨n, x, y, t, u, e, b⟩ k => ⟨n, x, y, t, u, k _ e, b⟩⟩
  obtain ⟨n, x, y, t, u, e, _⟩ := d
  exact ⟨_, e⟩
/-- draws[0] = e -/
theorem set_drw : PSet X (fun o i v H Q => ∃ p k z, o = .ref p ∧ H p = some (.ext (Drw p)) ∧ i = .int k ∧ (k = 0 ∨ k = 1) ∧ v = .int z ∧ (k = 1 → 0 ≤ z ∧ z < 2147483648) ∧ Q H) := by
  intro pins s σ H o i v ov iv u Q I ro ri rv h
  obtain ⟨p, k, z, rfl, hp, rfl, hk, rfl, hz, q⟩ := h
  cases ro
  obtain ⟨t, rfl⟩ := ri
  obtain ⟨tz, rfl⟩ := rv
  obtain ⟨⟨n, a, b, ta, tb, ho, hb⟩, _, _⟩ := I.hok p _ hp
  have main : ∀ j : Nat, j = 0 ∨ (j = 1 ∧ 0 ≤ z ∧ z < 2147483648) → Inv X pins σ H { s with heap := s.heap.update p (Obj.mapSeq (·.setIfInBounds j (.int z tz))) } := fun j hj => by
    have e : (s.heap.update p (Obj.mapSeq (·.setIfInBounds j (.int z tz)))).get? p = some { cls := .type "list", data := .seq (([.int a ta, .int b tb] : List Value).set j (.int z tz)).toArray n } := by
      have em := mapSeq_set [.int a ta, .int b tb] n j (.int z tz)
      rw [Heap.get?_update_self _ ho (by rw [em] <;> rfl), em]
    have I' := I.write (x := p) (e := p) (o := .ext (Drw p)) (t' := s.toks) (h' := s.heap.update p (Obj.mapSeq (·.setIfInBounds j (.int z tz)))) (by rw [hp]; trivial) (.inl rfl) (fun b u hb q => (Heap.get?_update_other _ _ (Ne.symm hb)).trans q) ⟨_, e⟩ (drw_ok (by
      rcases hj with rfl | ⟨rfl, hz⟩
      · exact ⟨n, z, b, tz, tb, e, hb⟩
      · exact ⟨n, a, z, ta, tz, e, hz⟩))
    rw [upd_id hp] at I'
    exact I'
  rcases hk with rfl | rfl
  · exact PySem.W.ki_setAt ho (by decide) (by decide) (by show (0 : Int) < 2; decide) ⟨_, main 0 (.inl rfl), q⟩
  · exact PySem.W.ki_setAt ho (by decide) (by decide) (by show (1 : Int) < 2; decide) ⟨_, main 1 (.inr ⟨rfl, hz rfl⟩), q⟩
theorem ds_drwSet (S : Sc M X k N sc cs) (hg : Gt N δ x (.d .drw)) (hv : visB sc x = true) (h : DE X e δ fun d => DE X b δ fun y => ∃ z i, d = .int z ∧ y = .int i ∧ (i = 0 ∨ i = 1) ∧ (i = 1 → 0 ≤ z ∧ z < 2147483648) ∧ nx δ)
    (hs : swapsWithSole [.Subscript (.Name x p2) b p3] e pos.line X.env = pure false := by rfl) (hw : swappedStores [.Subscript (.Name x p2) b p3] e X.env = pure none := by rfl)
    (h1 : (assignEach [.Subscript (.Name x p2) b p3] X.env).map (·.2) = [assign (.Subscript (.Name x p2) b p3) X.env] := by rfl)
    (ha : ∀ v, assign (.Subscript (.Name x p2) b p3) X.env v = (do
      let ov ← holding [v] (eval (.Name x p2) X.env)
      let iv ← holding [v, ov] (eval b X.env)
      standAt p3
      holding [v, ov, iv] (setItem ov iv v)
      release [v, ov, iv] []) := by intro _; rfl) : DS X (.Assign [.Subscript (.Name x p2) b p3] e pos) δ nx rt bk ct := .mk fun Bs B Hs H σ o D f => by
  obtain ⟨i, hi, h2⟩ := hg.at
  obtain ⟨v, h3, r⟩ := o.slot i _ h2
  obtain ⟨p, rfl, hp⟩ := r.drw_inv
  obtain ⟨v1, v2, v3⟩ := visB_ok hv
  refine WS.of (ps_asg pe_W (pg_sub (pe_var (i := i) (by rw [S.n]; exact hi) (by rw [S.hsc]; exact v1) v2 v3) pe_W set_drw ha) hs hw h1) (h Bs B Hs H σ o _ fun d w Hs1 H1 g1 q1 r1 => ⟨_, h3, q1 Bs B Hs1 H1 σ (o.mono g1) _ fun y z Hs2 H2 g2 ⟨zz, j, ed, ey, hj, hz, pd⟩ r2 => ?_⟩)
  subst ed ey
  cases r1.atom
  cases r2.atom
  have g := g1.trans g2
  exact ⟨p, j, zz, rfl, g2.sub _ _ (g.ss _ _ hp), rfl, hj, rfl, hz, f.nx _ _ Hs2 H2 (o.mono g) g.ss pd⟩
/-- [a, b], two numbers: the list of draws -/
theorem pe_lstDrw {ta : TA} (h : PA X es ta) : PE X (.List es pos) (fun σ H Q => ta σ H fun xs H1 => ∃ i j, xs = [.int i, .int j] ∧ (0 ≤ j ∧ j < 2147483648) ∧ ∀ p, H1 p = none → Q (.ref p) (upd H1 p (.ext (Drw p)))) := by
  refine ⟨fun pins s σ H Q I hq => ?_⟩
  refine wpAny_List_spliced (thn (h.run pos pins s σ H _ I hq) fun us s1 ⟨xs, H1, I1, r, i, j, ex, hb, q⟩ => ?_)
  subst ex
  obtain ⟨u1, u2, rfl, ⟨t1, e1⟩, ⟨t2, e2⟩⟩ := vals2 r
  subst e1 e2
  refine ⟨by show 2 ≤ sizeLine; decide, ?_⟩
  have hf : H1 s1.heap.objs.size = none := I1.hok.fresh (Nat.le_refl _)
  refine ⟨.ref s1.heap.objs.size, upd H1 s1.heap.objs.size (.ext (Drw s1.heap.objs.size)), I1.laid (t' := s1.toks) (fun b u e => Heap.get?_push_of_some _ e) (Nat.le_refl _) ?_, rfl, q _ hf⟩
  exact drw_ok ⟨0, i, j, t1, t2, Heap.get?_push_size _ rfl, hb⟩
theorem de_lstDrw (h : DAt X es δ fun ds => ∃ i j, ds = [.int i, .int j] ∧ (0 ≤ j ∧ j < 2147483648) ∧ Φ .drw) : DM X m (.List es pos) δ Φ := DM.of <| .mk fun Bs B Hs H σ o Q q =>
  WE.of (pe_lstDrw pa_W) (h Bs B Hs H σ o _ fun ds vs Hs1 H1 g1 ⟨i, j, e, hb, p⟩ r _ => by
    subst e
    have e2 : vs = [.int i, .int j] := r.atoms (xs := [.int i, .int j])
    subst e2
    exact ⟨i, j, rfl, hb, fun a ha => q _ _ _ _ (g1.trans (Go.new g1.sub ha)) p (.drw upd_same)⟩)

theorem db_freezeL {l : List Da} (hg : Gt N δ x (.ol l)) (hs : ∃ δ', Ss N δ x (some (.d (.lst l))) δ' ∧ DB X sts δ' nx rt bk ct) (nd : N.Nodup) : DB X sts δ nx rt bk ct := db_freeze hg rfl hs nd
theorem db_freezeK {l : List (Key × V)} (hg : Gt N δ x (.ok l)) (hs : ∃ δ', Ss N δ x (some (.d (.dk l))) δ' ∧ DB X sts δ' nx rt bk ct) (nd : N.Nodup) : DB X sts δ nx rt bk ct := db_freeze hg rfl hs nd
theorem db_freezeT {l : List (List Key × V)} (hg : Gt N δ x (.ot l)) (hs : ∃ δ', Ss N δ x (some (.d (.dt l))) δ' ∧ DB X sts δ' nx rt bk ct) (nd : N.Nodup) : DB X sts δ nx rt bk ct := db_freeze hg rfl hs nd

/-! ### comprehensions -/
theorem de_lc1 (S : Sc M X k N sc cs) {scope : Scope} {ifs : List Expr} (h : DI X tg it δ fun ds => LcD M X k N sc scope tg e ifs (tgN 3 tg) δ ds Φ) (hk : blkB N sc scope (tgN 3 tg) = true)
    (hs : ∀ x, foldedSetIterable it X.env x = pure x := by intro _; rfl) : DM X m (.ListComp e [⟨tg, it, ifs, 0⟩] scope pos) δ Φ := de_lc S h hk hs
theorem ds_setLc1 (S : Sc M X k N sc cs) {scope : Scope} {ifs : List Expr} {py lp : Pos} (h : DI X tg it δ fun ds => LcD M X k N sc scope tg e ifs (tgN 3 tg) δ ds fun d => ∃ δ', Ss N δ y (some (.d d)) δ' ∧ nx δ') (hk : blkB N sc scope (tgN 3 tg) = true)
    (hy : (sc.names.lookup y == some .local && (py.line == lp.line) && !(scope.names.any fun (n, k) => n == y && (k == .local || k == .cell))) = true) (hN : N.contains y = true) (hs : ∀ x, foldedSetIterable it X.env x = pure x := by intro _; rfl) :
    DS X (.Assign [.Name y py] (.ListComp e [⟨tg, it, ifs, 0⟩] scope lp) pos) δ nx rt bk ct := ds_setLc S h hk hy hN hs
variable {scope : Scope} {os : List Str} {ifs : List Expr}
/-- [f(a) for a in l] -/
theorem lc_map {α : Type} {l : List α} {g f : α → Da} {δw : Sg} (hw : Wp N os δ δw) (hz : l.length ≤ 1000000)
    (h : ∀ X', Sc M X' k N (relS scope sc) scope → ∀ a ∈ l, DG X' tg os (g a) δw fun δ2 => ∀ X', Sc M X' k N (relS scope sc) scope → DE X' e δ2 fun y => y = f a) (fin : Φ (.lst (l.map f))) : LcD M X k N sc scope tg e [] os δ (l.map g) Φ := by
  refine ⟨δw, hw, by simpa using hz, fun i acc => acc = (l.take i).map f, rfl, fun X' S' i d acc hi hp => ?_, fun acc _ hp => ?_⟩
  · rw [List.getElem?_map] at hi
    obtain ⟨a, ha, rfl⟩ := Option.map_eq_some_iff.mp hi
    have hd := h X' S' a (List.mem_of_getElem? ha)
    refine .mk fun Bs B Hs H σ v o r Q q => hd Bs B Hs H σ v o r Q fun δ' σ' Hs' H' o' g' kp h2 => q δ' σ' Hs' H' o' g' kp fun X2 S2 => DTs.nil ⟨fun _ X3 S3 => ?_, fun z => Bool.noConfusion z⟩
    refine (h2 X3 S3).imp fun y ey => ?_
    dsimp only
    rw [ey, hp, List.take_add_one, ha, Option.toList_some, List.map_append]
    rfl
  · simp at hp
    rw [hp]
    exact fin
/-- [f(a) for a in l if p(a)] -/
theorem lc_filter {α : Type} {l : List α} {g f : α → Da} {p : α → Bool} {δw : Sg} {c : Expr} (hw : Wp N os δ δw) (hz : l.length ≤ 1000000)
    (h : ∀ X', Sc M X' k N (relS scope sc) scope → ∀ a ∈ l, DG X' tg os (g a) δw fun δ2 => ∀ X', Sc M X' k N (relS scope sc) scope → DT X' c δ2 fun z => z = p a ∧ (z = true → ∀ X', Sc M X' k N (relS scope sc) scope → DE X' e δ2 fun y => y = f a)) (fin : Φ (.lst ((l.filter p).map f))) :
    LcD M X k N sc scope tg e [c] os δ (l.map g) Φ := by
  refine ⟨δw, hw, by simpa using hz, fun i acc => acc = ((l.take i).filter p).map f, by simp, fun X' S' i d acc hi hp => ?_, fun acc _ hp => ?_⟩
  · rw [List.getElem?_map] at hi
    obtain ⟨a, ha, rfl⟩ := Option.map_eq_some_iff.mp hi
    have hd := h X' S' a (List.mem_of_getElem? ha)
    have ht : l.take (i + 1) = l.take i ++ [a] := by rw [List.take_add_one, ha]; rfl
    refine .mk fun Bs B Hs H σ v o r Q q => hd Bs B Hs H σ v o r Q fun δ' σ' Hs' H' o' g' kp h2 => q δ' σ' Hs' H' o' g' kp fun X2 S2 => DTs.one ((h2 X2 S2).imp fun z ⟨ez, hy⟩ => ⟨fun hz X3 S3 => ?_, fun hz => ?_⟩)
    · refine (hy hz X3 S3).imp fun y ey => ?_
      dsimp only
      rw [ey, hp, ht, List.filter_append, List.map_append, List.filter_cons_of_pos (by rw [← ez]; exact hz)]
      rfl
    · dsimp only
      rw [hp, ht, List.filter_append, List.filter_cons_of_neg (by rw [← ez, hz]; decide)]
      simp
  · simp at hp
    rw [hp]
    exact fin
/-- [.. for a in l], whatever comes each time -/
theorem lc_any {α : Type} {l : List α} {g : α → Da} {R : α → Da → Prop} {δw : Sg} (hw : Wp N os δ δw) (hz : l.length ≤ 1000000)
    (h : ∀ X', Sc M X' k N (relS scope sc) scope → ∀ a ∈ l, DG X' tg os (g a) δw fun δ2 => ∀ X', Sc M X' k N (relS scope sc) scope → DE X' e δ2 fun y => R a y) (fin : ∀ r : List Da, r.length = l.length → (∀ (i : Nat) a d, l[i]? = some a → r[i]? = some d → R a d) → Φ (.lst r)) : LcD M X k N sc scope tg e [] os δ (l.map g) Φ := by
  refine ⟨δw, hw, by simpa using hz, fun i acc => i ≤ l.length ∧ acc.length = i ∧ ∀ (j : Nat) a d, l[j]? = some a → acc[j]? = some d → R a d, ⟨Nat.zero_le _, rfl, fun j a d _ z => by simp at z⟩, fun X' S' i d acc hi hp => ?_, fun acc _ hp => ?_⟩
  · rw [List.getElem?_map] at hi
    obtain ⟨a, ha, rfl⟩ := Option.map_eq_some_iff.mp hi
    have hd := h X' S' a (List.mem_of_getElem? ha)
    obtain ⟨h0, h1, h2⟩ := hp
    have hil : i < l.length := (List.getElem?_eq_some_iff.mp ha).1
    refine .mk fun Bs B Hs H σ v o r Q q => hd Bs B Hs H σ v o r Q fun δ' σ' Hs' H' o' g' kp h3 => q δ' σ' Hs' H' o' g' kp fun X2 S2 => DTs.nil ⟨fun _ X3 S3 => ?_, fun z => Bool.noConfusion z⟩
    refine (h3 X3 S3).imp fun y ey => ⟨by omega, by simp [h1], fun j a' d' e1 e2 => ?_⟩
    by_cases hj : j < i
    · rw [List.getElem?_append_left (by omega)] at e2
      exact h2 j a' d' e1 e2
    · rw [List.getElem?_append_right (by omega)] at e2
      have hji : j = i := by
        cases hh : j - acc.length with
        | zero => omega
        | succ n => rw [hh] at e2; simp at e2
      subst hji
      rw [ha] at e1
      cases e1
      rw [show j - acc.length = 0 by omega] at e2
      simp at e2
      rw [← e2]
      exact ey
  · simp at hp
    exact fin acc hp.1 hp.2
end
end DL

/-! DL8: zip of two texts, by GoesN.zip2. -/
namespace DL
open PySem PySem.Spec PyProof.Rows L2
/-- the signs of two texts side by side -/
def ItxX (x y : Str) : It :=
  ⟨fun i _ => i < min x.cps.size y.cps.size,
    fun i H v H' => ∃ T c d, v = .ref T ∧ H T = none ∧ H' = upd H T (.tup [.str ⟨#[c]⟩, .str ⟨#[d]⟩]) ∧ x.cps[i]? = some c ∧ y.cps[i]? = some d,
    fun i _ => i = min x.cps.size y.cps.size⟩
/-- how the five cells of zip(x, y) stand, laid from n on -/
def StX (n : Nat) (x y : Str) (t u : Tok) (i : Nat) (h : Heap) : Prop :=
  IsZip h (n + 4) (n + 2) (n + 3) .none ∧ IsTupOf2 h (n + 2) (.ref n) (.ref (n + 1)) ∧ (∃ a b, IsTupOf2 h (n + 3) a b) ∧ h.IsStrIter n (strIterType x) x t i ∧ h.IsStrIter (n + 1) (strIterType y) y u i
abbrev fpX (n : Nat) : List Addr := [n + 4, n + 2, n + 3, n, n + 1]
theorem goesX {P : Program} {w : World} {A : Around} (hh : A.handled = none) (elts : List Expr) (kk : Nat) (tpos : Pos) (n : Nat) (x y : Str) (t u : Tok) :
    GoesN P w A (.Tuple elts kk tpos) (n + 4) (fpX n) [n + 4, n + 3, n, n + 1] (min x.cps.size y.cps.size)
      (fun i h v h' => ∃ T a b, v = .ref T ∧ h.objs.size ≤ T ∧ (∃ c s, x.cps[i]? = some c ∧ a = .str ⟨#[c]⟩ s) ∧ (∃ c s, y.cps[i]? = some c ∧ b = .str ⟨#[c]⟩ s) ∧ h'.IsTuple T #[a, b]) (StX n x y t u) :=
  GoesN.zip2 (zip_sep2 (N := n) (fp1 := []) (fp2 := []) (fun _ z => nomatch z) fun _ z => nomatch z) (Draws.text (A := A.in1) (show A.in1.handled = none from hh) n x t) (Draws.text (A := A.in1) (show A.in1.handled = none from hh) (n + 1) y u)
theorem noLoc {h : Heap} {b : Addr} {c : String} {d : Data} (e : ∃ o, h.get? b = some o ∧ o.cls = .type c ∧ o.data = d) (hd : ∀ v, d ≠ .cell v) : ∃ o, h.get? b = some o ∧ ∀ v, o.data ≠ .cell v := by
  obtain ⟨o, e1, _, e2⟩ := e
  exact ⟨o, e1, fun v => by rw [e2]; exact hd v⟩
theorem StX.live {n i : Nat} {x y : Str} {t u : Tok} {h : Heap} (st : StX n x y t u i h) : ∀ b ∈ fpX n, ∃ o, h.get? b = some o ∧ ∀ v, o.data ≠ .cell v := by
  obtain ⟨h1, h2, ⟨a, b, h3⟩, h4, h5⟩ := st
  simp only [fpX, List.forall_mem_cons, List.forall_mem_nil, and_true]
  exact ⟨⟨_, h1, fun v q => nomatch q⟩, ⟨_, h2, fun v q => nomatch q⟩, ⟨_, h3, fun v q => nomatch q⟩, noLoc h4 (fun v q => nomatch q), noLoc h5 (fun v q => nomatch q), fun _ z => nomatch z⟩
theorem turnX {P : Program} {w : World} {K : PySem.W.Frag} {elts : List Expr} {kk : Nat} {tpos : Pos} (n : Nat) (x y : Str) (t u : Tok) : Turn P w K (.Tuple elts kk tpos) (ItxX x y) (fpX n) (n + 4) (StX n x y t u) := by
  have G := fun (A : Around) (hh : A.handled = none) => goesX (P := P) (w := w) hh elts kk tpos n x y t u
  have hsub : ∀ b, b ∉ fpX n → b ∉ [n + 4, n + 3, n, n + 1] := fun b hb hc => hb (by
    simp only [fpX, List.mem_cons, List.not_mem_nil, or_false] at hc ⊢
    rcases hc with e | e | e | e <;> simp [e])
  refine ⟨List.mem_cons_self, fun i h st => st.live, fun i h h' st k => (G {} rfl).frame i h h' st k, ?_, ?_, fun A i s Q E st h => wpAny_pyIter_zip st.1 h⟩
  · rintro X rfl rfl rfl hc i pins s σ H E I hf st hg
    refine (G X.A (I.ok.hd hc)).goes i s _ E hg st fun v h' tk hy st' hk _ => ?_
    obtain ⟨T, a, b, ev, hT, ⟨c, s1, ec, ea⟩, ⟨d, s2, ed, eb⟩, ho⟩ := hy
    subst ev ea eb
    have new : ObjOk X.prog X.w (upd H T (.tup [.str ⟨#[c]⟩, .str ⟨#[d]⟩])) h' T (.tup [.str ⟨#[c]⟩, .str ⟨#[d]⟩]) := ⟨by show 2 ≤ sizeLine; decide, _, .cons ⟨s1, rfl⟩ (.cons ⟨s2, rfl⟩ .nil), ho⟩
    refine ⟨.ref T, _, I.turnedNew (t' := tk) (fun b o hb e => hk b o (hsub b hb) e) hf hT new, rfl, ⟨T, c, d, rfl, I.hok.fresh hT, rfl, ec, ed⟩, st', fun b hb => ?_⟩
    obtain ⟨o, eo, _⟩ := st.live b hb
    rw [upd_ne (Nat.ne_of_lt (Nat.lt_of_lt_of_le (Heap.lt_size eo) hT))]
    exact (hf b hb).1
  · rintro X rfl rfl rfl hc i pins s σ H E I hf st hg
    cases (show i = min x.cps.size y.cps.size from hg)
    exact (G X.A (I.ok.hd hc)).stops s (fun s1 => Inv X pins σ H s1) E st fun h' tk hk _ => I.turnedL (t' := tk) (fun b o hb e => hk b o (hsub b hb) e) hf
def iTwoX (ta : TA) : TI := fun σ H R => ta σ H fun vs H1 => ∃ x y, vs = [.str x, .str y] ∧ R (ItxX x y) H1
theorem pi_twoX {X : Cx} {e e2 : Expr} {ta : TA} {p pos tpos : Pos} {elts : List Expr} {kk : Nat} (hg : Gl X "zip") (hm : X.mg "zip" = none) (ha : PA X [e, e2] ta)
    (hst : starEach [e, e2] X.env = (false, eval e X.env) :: starEach [e2] X.env) (hno : (backTo pos (starEach [e2] X.env)).any (·.1) = false) : PI X (.Tuple elts kk tpos) (.Call (.Name "zip" p) [e, e2] [] pos) (iTwoX ta) := .mk fun pins s σ H R I h =>
  Call_ (ld_blt I hg hm PyProof.Rows.boot_zip (PyProof.Rows.callWith_type1 (thn (ha.run pos pins s σ H _ I h) fun us s1 ⟨vs, H1, I1, r1, x, y, ex, q⟩ => by
    subst ex
    obtain ⟨u1, u2, rfl, ⟨t1, e1⟩, ⟨t2, e2⟩⟩ := vals2 r1
    subst e1 e2
    refine zip_begins2 (begins_text x t1) (begins_text y t2) trivial trivial fun h' hz hI hO g1 g2 hsz hk => wpAny_pyIter_zip hz ?_
    refine ⟨_, fpX s1.heap.objs.size, _, ItxX x y, H1, rfl, I1.kept (t' := s1.toks) hk, turnX s1.heap.objs.size x y t1 t2, ⟨hz, hI, ⟨_, _, hO⟩, ⟨_, g1, rfl, rfl⟩, ⟨_, g2, rfl, rfl⟩⟩, fun b hb => ?_, q⟩
    have hle : s1.heap.objs.size ≤ b := by
      simp only [fpX, List.mem_cons, List.not_mem_nil, or_false] at hb
      rcases hb with e | e | e | e | e <;> rw [e] <;> first | exact Nat.le_refl _ | exact Nat.le_add_right _ _
    exact I1.fpOk hle (I1.hok.fresh hle)) hst hno))
end DL

/-! DL9: zip of two texts over data, keyword calls, comprehension over pairs. -/
namespace DL
open PySem PySem.Spec PyProof.Rows L2
section
variable {M : Md} {X : Cx} {k : Nat} {N : List Str} {sc cs : Scope} {δ δ' : Sg} {m : Bool} {Φ Ψ : Da → Prop} {x y : Str} {pos p2 p3 apos kpos : Pos} {e a b o tg it : Expr} {es : List Expr}
theorem chars_len {z : Str} : (chars z).length = z.cps.size := by unfold chars; simp
theorem chars_get {z : Str} {i : Nat} {d : Da} (h : (chars z)[i]? = some d) : ∃ c, z.cps[i]? = some c ∧ d = .str ⟨#[c]⟩ := by
  unfold chars at h
  rw [List.getElem?_map, Array.getElem?_toList] at h
  obtain ⟨c, hc, e⟩ := Option.map_eq_some_iff.mp h
  exact ⟨c, hc, e.symm⟩
theorem di_zipX (S : Sc M X k N sc cs) {elts : List Expr} {kk : Nat} {tpos : Pos} {Φ : List Da → Prop} (hm : M.mg "zip" = none) (hg : glB sc "zip" = true)
    (h : DE X a δ fun d => DE X b δ fun d' => ∃ x y, d = .str x ∧ d' = .str y ∧ Φ (zipD (chars x) (chars y)))
    (hs : starEach [a, b] X.env = (false, eval a X.env) :: starEach [b] X.env := by rfl) (hs2 : starEach [b] X.env = (false, eval b X.env) :: starEach [] X.env := by rfl) (hpl : (backTo pos (starEach [b] X.env)).any (·.1) = false := by rfl) : DI X (.Tuple elts kk tpos) (.Call (.Name "zip" p2) [a, b] [] pos) δ Φ := .mk fun Bs B Hs H σ o R q =>
  WI.of (pi_twoX (by show X.env.scope.names.lookup _ = _; rw [S.hsc]; exact (glB_ok hg).1) (by rw [S.hmg]; exact hm) (pa_cons pe_W (pa_cons pe_W pa_nil hs2) hs) hs hpl) (h Bs B Hs H σ o _ fun d v Hs1 H1 g1 h1 r1 => h1 Bs B Hs1 H1 σ (o.mono g1) _ fun d' v' Hs2 H2 g2 ⟨x, y, e1, e2, p⟩ r2 => by
    subst e1 e2
    cases r1.atom
    cases r2.atom
    have hn : (zipD (chars x) (chars y)).length = min x.cps.size y.cps.size := by rw [zipD_len, chars_len, chars_len]
    have wk : Walk (ItxX x y) (zipD (chars x) (chars y)).length (fun _ => True) (YPair (fun i => (x.cps[i]?).map fun c => V.str ⟨#[c]⟩) (fun i => (y.cps[i]?).map fun c => V.str ⟨#[c]⟩)) := by
      rw [hn]
      refine ⟨fun i _ hi q => hi, fun _ q => rfl, fun i H v H' _ q y => ?_⟩
      obtain ⟨T, c, d, h1, h2, h3, h4, h5⟩ := y
      exact ⟨T, _, _, h1, h2, h3, by dsimp only; rw [h4]; rfl, by dsimp only; rw [h5]; rfl⟩
    refine ⟨x, y, rfl, q _ _ (fun _ => True) _ Hs2 H2 (g1.trans g2) p wk (fun _ _ _ _ => True.intro) fun i d Hs2 H2 v H3 s1 s2 hi hy => ?_⟩
    obtain ⟨T, x', y', rfl, hT, rfl, hx, hy⟩ := hy
    dsimp only at hx hy
    obtain ⟨z, w, hz, hw, rfl⟩ := zipD_get hi
    obtain ⟨c, hc, rfl⟩ := chars_get hz
    obtain ⟨c2, hc2, rfl⟩ := chars_get hw
    rw [hc] at hx
    rw [hc2] at hy
    cases hx
    cases hy
    exact pair_new s2 (.a _) (.a _) hT)
/-- a def that may be called with these keywords behind the positional values -/
structure CalK {α : Type} (M : Md) (k : Nat) (x : Str) (ks : List Str) (ms : List Bool) (args : α → List Da) (pre : α → Prop) (post : α → Da → Prop) : Prop where
  ex : ∃ f fd ps, FnOk M.P M.w M.K M.mg M.base CX0 k f fd ps (SpD M.K ms args pre post) ∧ M.mg x = some (.ref f) ∧ PySem.W.keepIn M.K (.ref f) = true ∧ KBinds M.K fd ps ks (fun us ws => us ++ ws) (fun vs zs => vs ++ zs)
theorem CalK.mono {α : Type} {M : Md} {k j : Nat} {x : Str} {ks : List Str} {ms : List Bool} {args : α → List Da} {pre : α → Prop} {post : α → Da → Prop} (c : CalK M k x ks ms args pre post) (h : k ≤ j) : CalK M j x ks ms args pre post := by
  obtain ⟨f, fd, ps, F, h1, h2, h3⟩ := c.ex
  exact ⟨f, fd, ps, F.mono h, h1, h2, h3⟩
theorem calk_mk {α : Type} {f : Addr} {fd : FuncData} {ps ks : List Str} {ms : List Bool} {args : α → List Da} {pre : α → Prop} {post : α → Da → Prop} (F : FnOk M.P M.w M.K M.mg M.base CX0 k f fd ps (SpD M.K ms args pre post)) (h1 : M.mg x = some (.ref f))
    (h2 : PySem.W.keepIn M.K (.ref f) = true) (h3 : ∀ (s : Shared) (us ws : List Value), M.K.In s.heap → (us ++ ws).length = ps.length → BindsTo s fd ⟨us, ks.zip ws⟩ (ps.zip (us ++ ws))) : CalK M k x ks ms args pre post :=
  ⟨f, fd, ps, F, h1, h2, h3, fun r1 r2 => r1.append r2⟩
/-- f(k = e) -/
theorem de_callK1 {α : Type} {kn : Str} {args : α → List Da} {pre : α → Prop} {post : α → Da → Prop} (S : Sc M X k N sc cs) (c : CalK M k x [kn] [true] args pre post) (hg : glB sc x = true)
    (h : DE X e δ fun d => ∃ a, [d] = args a ∧ pre a ∧ ∀ d, post a d → Φ d) : DM X m (.Call (.Name x p2) [] [⟨some kn, e, kpos⟩] pos) δ Φ := DM.of <| .mk fun Bs B Hs H σ o Q q => by
  obtain ⟨f, fd, ps, F, h1, h2, h3⟩ := c.ex
  obtain ⟨g1, g2, g3⟩ := glB_ok hg
  have F' : FnOk X.prog X.w X.K X.mg X.base CX0 k f fd ps (SpD X.K [true] args pre post) := by rw [S.hP, S.hw, S.hK, S.hmg, S.hb]; exact F
  have h3' : KBinds X.K fd ps [kn] (fun us ws => us ++ ws) (fun vs zs => vs ++ zs) := by rw [S.hK]; exact h3
  have main : PE X (.Call (.Name x p2) [] [⟨some kn, e, kpos⟩] pos) (fun σ H Q => tCons (WE X e) tNil σ H fun zs H2 => SpD X.K [true] args pre post zs H2 Q E0) := by
    refine ⟨fun pins s σ H Q I hq => ?_⟩
    refine wpAny_Call_Name_kw (ld_glob I (by show X.env.scope.names.lookup x = _; rw [S.hsc]; exact g1) (by rw [S.hmg]; exact h1) ?_ g2)
    refine PySem.W.callWith_KW0 (h₀ := X.base) I.ok.mod.kin (by rw [S.hK]; exact h2) rfl (thn ((pk_cons (nm := some kn) (kpos := kpos) pe_W pk_nil).run pos pins s σ H _ I hq) fun ws s2 ⟨zs, H2, I2, rz, q2⟩ => ⟨I2.kIn, ?_⟩)
    exact run_fnk (us := []) (vs := []) F' S.room h3' pass0 I2 .nil rz q2
  refine WE.of main ?_
  refine h Bs B Hs H σ o _ fun d v Hs1 H1 gg ⟨a, ea, pa, k⟩ r => ?_
  refine ⟨a, Hs1, gg.sub, ?_, pa, fun d v Hs' H' g p rd => q d v Hs' H' (gg.trans g) (k d p) rd⟩
  rw [← ea]
  exact .cons r .nil
end
end DL

open PySem PySem.Spec PyProof.Rows L2 DL
local macro_rules | `(tactic| walk_at "gt") => `(tactic| (repeat (first | with_reducible exact Gt.z | with_reducible apply Gt.s)))
local macro_rules | `(tactic| walk_at "ss") => `(tactic| (repeat (first | with_reducible exact Ss.z | with_reducible apply Ss.s)))
local macro_rules | `(tactic| walk_at "wp") => `(tactic| first | exact Wp.nil | (apply Wp.cons; (· walk_at "wp"); (· walk_at "ss")))
local macro_rules | `(tactic| walk_at "dk") => `(tactic| decide +kernel)
local macro_rules | `(tactic| walk_at "mk") => `(tactic| first | exact nomark _ | with_unfolding_all rfl)
local macro_rules | `(tactic| walk_at "stE") => `(tactic| first
  | (show DM _ _ (.Name _ _) _ _; first
      | refine de_name ‹Sc _ _ _ _ _ _› (by walk_at "gt") (by walk_at "dk") ?_
      | refine dv_nameO ‹Sc _ _ _ _ _ _› (by walk_at "gt") rfl (by walk_at "dk") ?_
      | refine dv_nameB ‹Sc _ _ _ _ _ _› (by walk_at "gt") (by walk_at "dk") ?_
      | refine de_globS ‹Sc _ _ _ _ _ _› (by assumption) (by walk_at "dk") ?_
      | refine de_globI ‹Sc _ _ _ _ _ _› (by assumption) (by walk_at "dk") ?_)
  | (show DM _ _ (.Constant _ _ _) _ _; first | refine de_int ?_ | refine de_str ?_ | refine de_bl ?_ | refine de_non ?_)
  | (show DM _ _ (.BinOp _ _ _ _) _ _; first | refine de_add ?_ | refine de_sub ?_ | refine de_mul ?_ | refine de_mod ?_ | refine de_fdiv ?_ | refine de_pow ?_)
  | (show DM _ _ (.Subscript _ _ _) _ _; first | refine de_rev ?_ | refine de_slice ?_ | refine de_ixO ‹Sc _ _ _ _ _ _› (by walk_at "gt") (by walk_at "dk") ?_ | refine de_ix ‹Sc _ _ _ _ _ _› ?_)
  | (show DM _ _ (.Call (.Name _ _) _ _ _) _ _; first | refine de_call ‹Sc _ _ _ _ _ _› (by assumption) (by walk_at "dk") ?_ | walk_at "bi")
  | (show DM _ _ (.Compare _ _ _ _) _ _; first | refine de_cmp ‹Sc _ _ _ _ _ _› (by walk_at "mk") ?_ | refine de_chain ‹Sc _ _ _ _ _ _› ?_)
  | refine de_ifE ?_ | refine de_tup ?_ | refine de_lst ?_ | refine de_neg ?_)
local macro_rules | `(tactic| walk_at "bi") => `(tactic| first
  | refine de_callB ‹Sc _ _ _ _ _ _› (x := "len") (by assumption) PySem.boot_len (by walk_at "dk") ?_
  | refine de_callB ‹Sc _ _ _ _ _ _› (x := "max") (by assumption) PyProof.Rows.boot_max (by walk_at "dk") ?_
  | refine de_callB ‹Sc _ _ _ _ _ _› (x := "min") (by assumption) PyProof.Rows.boot_min (by walk_at "dk") ?_
  | refine de_callTy ‹Sc _ _ _ _ _ _› (x := "tuple") (by assumption) (by decide +kernel : bootBuiltins "tuple" = some (.type "tuple")) (by walk_at "dk") ?_
  | refine de_callTy ‹Sc _ _ _ _ _ _› (x := "list") (by assumption) (by decide +kernel : bootBuiltins "list" = some (.type "list")) (by walk_at "dk") ?_
  | refine de_callTy ‹Sc _ _ _ _ _ _› (x := "int") (by assumption) (by decide +kernel : bootBuiltins "int" = some (.type "int")) (by walk_at "dk") ?_)
local macro_rules | `(tactic| walk_at "stS") => `(tactic| first
  | walk_at "par"
  | (refine ds_append ‹Sc _ _ _ _ _ _› (by walk_at "gt") (by walk_at "dk") ?_ ?_; rotate_left)
  | refine ds_ret ?_ | refine ds_if ?_ | refine ds_set ‹Sc _ _ _ _ _ _› ?_ (by walk_at "dk")
  | refine ds_retN ?_ | refine ds_break ?_ | refine ds_cont ?_)
local macro_rules | `(tactic| walk_at "st") => `(tactic| first
  | (show DM _ _ _ _ _; walk_at "stE")
  | (show DAt _ _ _ _; first | refine dat_nil ?_ | refine dat_cons ?_)
  | (show DA _ _ _ _ _; first | refine da_nil ?_ | refine da_cons ?_)
  | (show DB _ _ _ _ _ _ _; first | refine db_cons ?_ | refine db_nil ?_)
  | (show DS _ _ _ _ _ _ _; walk_at "stS")
  | (show DT _ _ _ _; first | refine dt_cmp ‹Sc _ _ _ _ _ _› (by walk_at "mk") ?_ | refine dt_not ?_ | refine dt_chain ‹Sc _ _ _ _ _ _› ?_ | refine dt_w (e := .BoolOp _ _ _) ?_)
  | (show DW _ _ _ _; first | refine dw_and ?_ | refine dw_or ?_ | refine dw_and1 ?_ | refine dw_or1 ?_)
  | (show AddW _ _ _; first | refine .int ?_ | (refine .str ?_ ?_; rotate_left) | (refine .lst ?_ ?_; rotate_left) | (refine .tup ?_ ?_; rotate_left))
  | (show IntW _ _ _ _ _; first | refine .mk True.intro ?_ | (refine .mk (.inl (.inr (by decide))) ?_) | (refine .mk (.inl (.inl (by decide))) ?_) | (refine .mk (by decide) ?_) | (refine .mk ⟨by decide, by decide, by decide⟩ ?_) | (refine .mk (.inr (by unfold CMulW; decide +kernel)) ?_) | (refine .mk (by decide +kernel) ?_) | (refine .mk (by omega) ?_) | (refine .mk ?_ ?_; rotate_left))
  | refine dp_none ?_ | refine dp_some ?_ | refine spT ?_ | refine spF ?_)
local macro_rules | `(tactic| walk_at "go") => `(tactic| repeat walk_at "st")
local macro_rules | `(tactic| walk_at "par") => `(tactic| refine ds_par ‹Sc _ _ _ _ _ _› ?_ (by decide) (by walk_at "dk") (by walk_at "dk") (by intro env h; cases env; cases h; rfl) (by walk_at "dk") (by walk_at "dk"))

namespace My
def topS (i : Nat) : Stmt := PySem.Challenge.pw_liftcord_k02_whole_drawn_tight_whichever.main.body.getD i (.Pass ⟨0, 0, 0, 0⟩)
abbrev s_undoes : Stmt := topS 3
abbrev n_undoes : List Str := ["turn"]
theorem S_undoes : FnScope n_undoes ["turn"] (defScope s_undoes) := ⟨rfl, rfl, rfl, by decide +kernel, rfl, by decide +kernel, by decide +kernel⟩
abbrev s_tight : Stmt := topS 4
abbrev n_tight : List Str := ["row", "found", "turn"]
theorem S_tight : FnScope n_tight ["row"] (defScope s_tight) := ⟨rfl, rfl, rfl, by decide +kernel, rfl, by decide +kernel, by decide +kernel⟩
abbrev s_back : Stmt := topS 5
abbrev n_back : List Str := ["row", "turn"]
theorem S_back : FnScope n_back ["row"] (defScope s_back) := ⟨rfl, rfl, rfl, by decide +kernel, rfl, by decide +kernel, by decide +kernel⟩
abbrev s_lundoes : Stmt := topS 7
abbrev n_lundoes : List Str := ["_law_turn"]
theorem S_lundoes : FnScope n_lundoes ["_law_turn"] (defScope s_lundoes) := ⟨rfl, rfl, rfl, by decide +kernel, rfl, by decide +kernel, by decide +kernel⟩
abbrev s_ldraw : Stmt := topS 8
abbrev n_ldraw : List Str := ["_law_draws_here", "_law_many", "_law_found", "_law_wide"]
theorem S_ldraw : FnScope n_ldraw ["_law_draws_here", "_law_many"] (defScope s_ldraw) := ⟨rfl, rfl, rfl, by decide +kernel, rfl, by decide +kernel, by decide +kernel⟩
abbrev s_lof : Stmt := topS 9
abbrev n_lof : List Str := ["_law_draws_here", "_law_some"]
theorem S_lof : FnScope n_lof ["_law_draws_here", "_law_some"] (defScope s_lof) := ⟨rfl, rfl, rfl, by decide +kernel, rfl, by decide +kernel, by decide +kernel⟩
abbrev s_ldraws : Stmt := topS 10
abbrev n_ldraws : List Str := ["_law_script", "_law_k", "_law_cell"]
theorem S_ldraws : FnScope n_ldraws ["_law_script", "_law_k"] (defScope s_ldraws) := ⟨rfl, rfl, rfl, by decide +kernel, rfl, by decide +kernel, by decide +kernel⟩
abbrev s_lfloor : Stmt := topS 11
abbrev n_lfloor : List Str := ["_law_draws_here", "_law_many", "_law_letters", "_law_far", "_law_bar", "_law_floor_here", "_law_letter"]
theorem S_lfloor : FnScope n_lfloor ["_law_draws_here", "_law_many"] (defScope s_lfloor) := ⟨rfl, rfl, rfl, by decide +kernel, rfl, by decide +kernel, by decide +kernel⟩
abbrev s_lturns : Stmt := topS 12
abbrev n_lturns : List Str := ["_law_floor_here", "_law_found", "_law_letter", "_law_cost"]
theorem S_lturns : FnScope n_lturns ["_law_floor_here"] (defScope s_lturns) := ⟨rfl, rfl, rfl, by decide +kernel, rfl, by decide +kernel, by decide +kernel⟩
abbrev s_lrow : Stmt := topS 13
abbrev n_lrow : List Str := ["_law_draws_here", "_law_floor_here", "_law_many", "_law_signs", "_law_found", "_law_way", "_law_k", "_law_turn", "_law_at", "_law_spot", "_law_inner"]
theorem S_lrow : FnScope n_lrow ["_law_draws_here", "_law_floor_here", "_law_many"] (defScope s_lrow) := ⟨rfl, rfl, rfl, by decide +kernel, rfl, by decide +kernel, by decide +kernel⟩
abbrev s_ltight : Stmt := topS 14
abbrev n_ltight : List Str := ["_law_row_d", "_law_at"]
theorem S_ltight : FnScope n_ltight ["_law_row_d"] (defScope s_ltight) := ⟨rfl, rfl, rfl, by decide +kernel, rfl, by decide +kernel, by decide +kernel⟩
abbrev s_lback : Stmt := topS 15
abbrev n_lback : List Str := ["_law_row_d", "_law_turn"]
theorem S_lback : FnScope n_lback ["_law_row_d"] (defScope s_lback) := ⟨rfl, rfl, rfl, by decide +kernel, rfl, by decide +kernel, by decide +kernel⟩
abbrev s_lby_chance : Stmt := topS 16
abbrev n_lby_chance : List Str := ["_law_draws_here", "_law_row_d", "_law_spots", "_law_at"]
theorem S_lby_chance : FnScope n_lby_chance ["_law_draws_here", "_law_row_d"] (defScope s_lby_chance) := ⟨rfl, rfl, rfl, by decide +kernel, rfl, by decide +kernel, by decide +kernel⟩
abbrev s_law : Stmt := topS 17
abbrev n_law : List Str := ["_law_script", "_law_k", "_law_draws_here", "_law_floor_here", "_law_row_d", "_law_found", "_law_at", "_law_turn", "_law_half", "_law_one", "_law_other"]
theorem S_law : FnScope n_law ["_law_script"] (defScope s_law) := ⟨rfl, rfl, rfl, by decide +kernel, rfl, by decide +kernel, by decide +kernel⟩
/-! ### turns -/
def IsT (c : Nat) : Prop := (97 ≤ c ∧ c ≤ 122) ∨ (65 ≤ c ∧ c ≤ 90)
def und (c : Nat) : Nat := if 97 ≤ c then c - 32 else c + 32
abbrev lettersS : Str := "abcdefghijklmnopqrstuvwxyz"
abbrev greatS : Str := "ABCDEFGHIJKLMNOPQRSTUVWXYZ"
theorem letters_l : lettersS.cps.toList = (List.range 26).map (· + 97) := by decide +kernel
theorem great_l : greatS.cps.toList = (List.range 26).map (· + 65) := by decide +kernel
theorem mem_letters (c : Nat) : c ∈ lettersS.cps.toList ↔ 97 ≤ c ∧ c ≤ 122 := by
  rw [letters_l, List.mem_map]
  constructor
  · rintro ⟨a, h, rfl⟩
    have := List.mem_range.mp h
    omega
  · intro h
    exact ⟨c - 97, List.mem_range.mpr (by omega), by omega⟩
theorem occ_letters : ∀ i : Fin 26, Builtin.Str.occurrences lettersS ⟨#[97 + i.val]⟩ 0 lettersS.length 1 = [i.val] := by decide +kernel
theorem occ_great : ∀ i : Fin 26, Builtin.Str.occurrences greatS ⟨#[65 + i.val]⟩ 0 greatS.length 1 = [i.val] := by decide +kernel
theorem at_letters : ∀ i : Fin 26, atI lettersS.cps.toList (i.val : Int) = some (97 + i.val) := by decide +kernel
theorem at_great : ∀ i : Fin 26, atI greatS.cps.toList (i.val : Int) = some (65 + i.val) := by decide +kernel
abbrev UndoesC (M : Md) (k : Nat) : Prop := Cal M k "undoes" [true] (fun c : Nat => [.str (tx [c])]) IsT (fun c d => d = .str (tx [und c]))
section
variable {M : Md} {k : Nat}
theorem ok_undoes {f : Addr} {fd : FuncData} (F : Fun M.K "undoes" "undoes" s_undoes f fd) (hL : GlS M "LETTERS" lettersS) (hG : GlS M "GREAT" greatS) :
    FnOk M.P M.w M.K M.mg M.base CX0 (k + 1) f fd ["turn"] (SpD M.K [true] (fun c : Nat => [.str (tx [c])]) IsT (fun c d => d = .str (tx [und c]))) := by
  refine fn_ok F S_undoes rfl fun X S c hc => ?_
  show DB X _ [some (.d (.str (tx [c])))] _ _ _ _
  walk_at "go"
  refine .inS ⟨fun h => ?_, fun h => ?_⟩
  · have h1 := (mem_letters c).mp (of_decide_eq_true h)
    walk_at "go"
    refine de_meth PySem.F.plainAttrs_str PySem.F.slot_str_index PySem.F.type_str_index ?_
    walk_at "go"
    refine ⟨tyw_str, ?_⟩
    walk_at "go"
    have o := occ_letters ⟨c - 97, by omega⟩
    have a := at_great ⟨c - 97, by omega⟩
    dsimp only at o a
    rw [show 97 + (c - 97) = c by omega] at o
    refine mw_sindex o ?_
    refine .str (by decide) a ?_
    unfold und
    rw [if_pos h1.1, show c - 32 = 65 + (c - 97) by omega]
  · have h1 : ¬ (97 ≤ c ∧ c ≤ 122) := fun z => (of_decide_eq_false h) ((mem_letters c).mpr z)
    have h2 : 65 ≤ c ∧ c ≤ 90 := by rcases hc with z | z; exact absurd z h1; exact z
    walk_at "go"
    refine de_meth PySem.F.plainAttrs_str PySem.F.slot_str_index PySem.F.type_str_index ?_
    walk_at "go"
    refine ⟨tyw_str, ?_⟩
    walk_at "go"
    have o := occ_great ⟨c - 65, by omega⟩
    have a := at_letters ⟨c - 65, by omega⟩
    dsimp only at o a
    rw [show 65 + (c - 65) = c by omega] at o
    refine mw_sindex o ?_
    refine .str (by decide) a ?_
    unfold und
    rw [if_neg (by omega), show c + 32 = 97 + (c - 65) by omega]
end

/-! ### rows drawn tight -/
abbrev sg (c : Nat) : Da := .str (tx [c])
def Row (r : List Nat) : Prop := ∀ c ∈ r, IsT c
theorem IsT.lt {c : Nat} (h : IsT c) : c < 128 := by unfold IsT at h; omega
theorem strOk_sg {c : Nat} (h : c < 0x110000) : PyData.strOk (tx [c]) = true := by
  unfold PyData.strOk
  simpa using h
theorem und_T {c : Nat} (h : IsT c) : IsT (und c) := by
  unfold IsT at h ⊢
  unfold und
  split <;> omega
def stepT (st : List Nat) (c : Nat) : List Nat := match st with
  | [] => [c]
  | t :: r => if t = und c then r else c :: t :: r
def tightR (r : List Nat) : List Nat := r.foldl stepT []
def tight (r : List Nat) : List Nat := (tightR r).reverse
theorem stepT_row {st : List Nat} {c : Nat} (h : Row st) (hc : IsT c) : Row (stepT st c) := by
  unfold stepT
  split
  · intro d hd
    rw [List.mem_singleton.mp hd]
    exact hc
  · split
    · exact fun d hd => h d (List.mem_cons_of_mem _ hd)
    · intro d hd
      rcases List.mem_cons.mp hd with e | hd
      · rw [e]; exact hc
      · exact h d hd
theorem stepT_len (st : List Nat) (c : Nat) : (stepT st c).length ≤ st.length + 1 := by
  unfold stepT
  split
  · simp
  · split <;> simp
    omega
theorem foldT_row : ∀ {r st : List Nat}, Row r → Row st → Row (r.foldl stepT st)
  | [], _, _, h => h
  | c :: r, st, hr, h => foldT_row (r := r) (fun d hd => hr d (List.mem_cons_of_mem _ hd)) (stepT_row h (hr c List.mem_cons_self))
theorem foldT_len : ∀ (r st : List Nat), (r.foldl stepT st).length ≤ st.length + r.length
  | [], st => by simp
  | c :: r, st => by
    have h1 := foldT_len r (stepT st c)
    have h2 := stepT_len st c
    simp only [List.foldl_cons, List.length_cons]
    omega
theorem tight_row {r : List Nat} (h : Row r) : Row (tight r) := fun c hc => foldT_row h (fun _ z => by cases z) c (List.mem_reverse.mp hc)
theorem tight_len (r : List Nat) : (tight r).length ≤ r.length := by
  have := foldT_len r []
  unfold tight tightR
  rw [List.length_reverse]
  simpa using this
theorem chars_tx (r : List Nat) : chars (tx r) = r.map sg := by
  unfold chars
  rfl
theorem join_sg (r : List Nat) : Txt.join (Str.ofString "") (r.map fun c => tx [c]) = tx r := by
  have e0 : Str.ofString "" = ⟨#[]⟩ := by decide
  rw [e0]
  unfold Txt.join Builtin.Str.glued
  have key : ∀ (l : List Nat) (acc : Array Nat), (l.map fun c => tx [c]).foldl (fun acc p => acc ++ (⟨#[]⟩ : Str).cps ++ p.cps) acc = acc ++ l.toArray := by
    intro l
    induction l with
    | nil => intro acc; simp
    | cons c l ih =>
      intro acc
      rw [List.map_cons, List.foldl_cons, ih]
      simp
  cases r with
  | nil => rfl
  | cons c l =>
    rw [List.map_cons]
    show (⟨(l.map fun c => tx [c]).foldl _ (#[c])⟩ : Str) = _
    rw [key]
    simp
theorem joinR {X : Cx} {Φ : Da → Prop} (r : List Nat) (hl : r.length ≤ 1000000) (h : Φ (.str (tx r))) : MW X "str.join" (.str (Str.ofString "")) [.lst (r.map sg)] Φ := by
  have e : r.map sg = (r.map fun c => tx [c]).map Da.str := by rw [List.map_map]; rfl
  rw [e]
  refine mw_joinL ?_ ?_
  · have e1 : ((r.map fun c => tx [c]).map (·.length)) = r.map fun _ => 1 := by rw [List.map_map]; rfl
    rw [e1]
    have e2 : (r.map fun _ => 1).sum = r.length := by
      clear hl h e e1
      induction r with
      | nil => rfl
      | cons c r ih => simp [ih]; omega
    rw [e2]
    have e3 : (Str.ofString "").length = 0 := by decide
    rw [e3]
    omega
  · rw [join_sg]
    exact h
theorem shp_sgs {r : List Nat} (h : Row r) : Shp 1 (.lst (r.map sg)) := .lst fun d hd => by
  obtain ⟨c, hc, rfl⟩ := List.mem_map.mp hd
  exact .str (strOk_sg (by have := (h c hc).lt; omega))
abbrev TightC (M : Md) (k : Nat) : Prop := Cal M k "tight" [true] (fun r : List Nat => [.str (tx r)]) (fun r => Row r ∧ r.length ≤ 100000) (fun r d => d = .str (tx (tight r)))
section
variable {M : Md} {k : Nat}
theorem ok_tight {f : Addr} {fd : FuncData} (F : Fun M.K "tight" "tight" s_tight f fd) (cU : UndoesC M k) :
    FnOk M.P M.w M.K M.mg M.base CX0 (k + 1) f fd ["row"] (SpD M.K [true] (fun r : List Nat => [.str (tx r)]) (fun r => Row r ∧ r.length ≤ 100000) (fun r d => d = .str (tx (tight r)))) := by
  refine fn_ok F S_tight rfl fun X S r ⟨hr, hl⟩ => ?_
  show DB X _ [some (.d (.str (tx r))), none, none] _ _ _ _
  refine db_cons ?_
  refine ds_ownL S ⟨_, by walk_at "ss", ?_⟩ (by walk_at "dk")
  refine db_cons ?_
  refine ds_for S (di_str ?_)
  walk_at "go"
  refine ⟨_, rfl, fun i δ => ∃ x, δ = [some (.d (.str (tx r))), some (.ol (((r.take i).foldl stepT []).reverse.map sg)), x], ⟨_, rfl⟩, ?_, ?_⟩
  · rintro i d δ' hi ⟨x, rfl⟩
    rw [chars_tx, List.getElem?_map] at hi
    obtain ⟨c, hc, rfl⟩ := Option.map_eq_some_iff.mp hi
    have hcr : c ∈ r := List.mem_of_getElem? hc
    have hT := hr c hcr
    generalize hst : (r.take i).foldl stepT [] = st
    have hrow : Row st := by rw [← hst]; exact foldT_row (fun d hd => hr d (List.mem_of_mem_take hd)) (fun _ z => by cases z)
    have hlen : st.length ≤ r.length := by
      have := foldT_len (r.take i) []
      rw [hst] at this
      simp at this
      omega
    have hnext : (r.take (i + 1)).foldl stepT [] = stepT st c := by
      rw [List.take_add_one, hc, Option.toList_some, List.foldl_append, hst]
      rfl
    refine ⟨_, dg_name S (by walk_at "dk") ⟨_, by walk_at "ss", ?_⟩⟩
    have hrev : Row st.reverse := fun d hd => hrow d (List.mem_reverse.mp hd)
    walk_at "go"
    refine cmp_neNil (shp_sgs hrev) ⟨fun h => ?_, fun h => ?_⟩
    · obtain ⟨t, s2, rfl⟩ : ∃ t s2, st = t :: s2 := by
        cases st with
        | nil => simp at h
        | cons t s2 => exact ⟨t, s2, rfl⟩
      have hat : atI ((t :: s2).reverse.map sg) (-1) = some (sg t) := by
        rw [List.reverse_cons, List.map_append]
        exact atI_last _ _
      walk_at "go"
      refine ⟨1, rfl, -1, _, rfl, hat, ?_⟩
      walk_at "go"
      refine ⟨c, rfl, hT, ?_⟩
      rintro _ rfl
      refine .eqS rfl ⟨fun h => ?_, fun h => ?_⟩
      · have e : t = und c := by simpa using h
        walk_at "go"
        refine ds_pop S (by walk_at "gt") (by walk_at "dk") (by simp) ⟨_, by walk_at "ss", ?_⟩
        walk_at "go"
        have e2 : stepT (t :: s2) c = s2 := by simp [stepT, e]
        have e3 : ((t :: s2).reverse.map sg).dropLast = s2.reverse.map sg := by simp
        dsimp only
        rw [hnext, e2, e3]
        exact ⟨_, rfl⟩
      · have e : t ≠ und c := by simpa using h
        walk_at "go"
        rotate_left
        · simp at hlen ⊢; omega
        refine ⟨_, by walk_at "ss", ?_⟩
        walk_at "go"
        have e2 : stepT (t :: s2) c = c :: t :: s2 := by simp [stepT, e]
        have e3 : (t :: s2).reverse.map sg ++ [sg c] = (c :: t :: s2).reverse.map sg := by simp
        dsimp only
        rw [hnext, e2, ← e3]
        exact ⟨_, rfl⟩
    · obtain rfl : st = [] := by
        cases st with
        | nil => rfl
        | cons t s2 => simp at h
      walk_at "go"
      rotate_left
      · simp
      refine ⟨_, by walk_at "ss", ?_⟩
      walk_at "go"
      dsimp only
      rw [hnext]
      exact ⟨_, rfl⟩
  · rintro δ' ⟨x, rfl⟩
    have e : (r.map sg).length = r.length := by simp
    rw [chars_tx, e, List.take_length]
    refine db_freezeL (by walk_at "gt") ⟨_, by walk_at "ss", ?_⟩ S.nd
    walk_at "go"
    refine de_meth PySem.F.plainAttrs_str PySem.F.slot_str_join PySem.F.type_str_join ?_
    walk_at "go"
    refine ⟨tyw_str, ?_⟩
    walk_at "go"
    have hr2 := tight_len r
    refine joinR (tight r) (by omega) ?_
    rfl
end

/-! ### a row led back -/
def back (r : List Nat) : List Nat := (r.map und).reverse
abbrev BackC (M : Md) (k : Nat) : Prop := Cal M k "back" [true] (fun r : List Nat => [.str (tx r)]) (fun r => Row r ∧ r.length ≤ 100000) (fun r d => d = .str (tx (back r)))
theorem toList_tx (r : List Nat) : (tx r).cps.toList = r := rfl
theorem len_tx (r : List Nat) : (tx r).length = r.length := by
  show r.toArray.size = _
  simp
theorem sl1 {n : Nat} (h : n ≤ 1000000) : n ≤ sizeLine := by
  have : sizeLine = 16777216 := sizeLine_eq
  omega
section
variable {M : Md} {k : Nat}
theorem ok_back {f : Addr} {fd : FuncData} (F : Fun M.K "back" "back" s_back f fd) (cU : UndoesC M k) :
    FnOk M.P M.w M.K M.mg M.base CX0 (k + 1) f fd ["row"] (SpD M.K [true] (fun r : List Nat => [.str (tx r)]) (fun r => Row r ∧ r.length ≤ 100000) (fun r d => d = .str (tx (back r)))) := by
  refine fn_ok F S_back rfl fun X S r ⟨hr, hl⟩ => ?_
  show DB X _ [some (.d (.str (tx r))), none] _ _ _ _
  walk_at "go"
  refine de_meth PySem.F.plainAttrs_str PySem.F.slot_str_join PySem.F.type_str_join ?_
  walk_at "go"
  refine ⟨tyw_str, ?_⟩
  walk_at "go"
  refine de_lc1 S (di_str ?_) (by walk_at "dk")
  walk_at "go"
  refine .str (by rw [len_tx]; exact sl1 (by omega)) ⟨_, rfl, ?_⟩
  rw [toList_tx, chars_tx]
  refine lc_map (f := fun c => sg (und c)) (by walk_at "wp") (by simp; omega) (fun X1 S1 c hc => ?_) ?_
  · have hT := hr c (List.mem_reverse.mp hc)
    refine dg_name S1 (by walk_at "dk") ⟨_, by walk_at "ss", fun X2 S2 => ?_⟩
    walk_at "go"
    exact ⟨c, rfl, hT, fun d hd => hd⟩
  · walk_at "go"
    have e : (r.reverse.map fun c => sg (und c)) = (back r).map sg := by simp [back]
    rw [e]
    exact joinR (back r) (by simp [back]; omega) rfl
end

theorem upper_sg : ∀ c : Fin 128, (IsT c.val) → Txt.upper (tx [c.val]) = tx [if 97 ≤ c.val then c.val - 32 else c.val] := by
  unfold IsT
  decide +kernel
theorem lower_sg : ∀ c : Fin 128, (IsT c.val) → Txt.lower (tx [c.val]) = tx [if 97 ≤ c.val then c.val else c.val + 32] := by
  unfold IsT
  decide +kernel
abbrev LUndoesC (M : Md) (k : Nat) : Prop := Cal M k "_law_undoes" [true] (fun c : Nat => [.str (tx [c])]) IsT (fun c d => d = .str (tx [und c]))
section
variable {M : Md} {k : Nat}
theorem ok_lundoes {f : Addr} {fd : FuncData} (F : Fun M.K "_law_undoes" "_law_undoes" s_lundoes f fd) :
    FnOk M.P M.w M.K M.mg M.base CX0 (k + 1) f fd ["_law_turn"] (SpD M.K [true] (fun c : Nat => [.str (tx [c])]) IsT (fun c d => d = .str (tx [und c]))) := by
  refine fn_ok F S_lundoes rfl fun X S c hc => ?_
  show DB X _ [some (.d (.str (tx [c])))] _ _ _ _
  have hu := upper_sg ⟨c, hc.lt⟩ hc
  have hl := lower_sg ⟨c, hc.lt⟩ hc
  dsimp only at hu hl
  walk_at "go"
  refine de_meth0 PySem.F.plainAttrs_str PySem.F.slot_str_lower PySem.F.type_str_lower ?_
  walk_at "go"
  refine ⟨tyw_str, mw_lower (by show 1 ≤ 5592405; decide) ?_⟩
  rw [hl]
  refine .eqS rfl ⟨fun h => ?_, fun h => ?_⟩
  · have e : c = if 97 ≤ c then c else c + 32 := by simpa using h
    have h97 : 97 ≤ c := by
      by_cases hh : 97 ≤ c
      · exact hh
      · rw [if_neg hh] at e; omega
    refine de_meth0 PySem.F.plainAttrs_str PySem.F.slot_str_upper PySem.F.type_str_upper ?_
    walk_at "go"
    refine ⟨tyw_str, mw_upper (by show 1 ≤ 5592405; decide) ?_⟩
    rw [hu]
    unfold und
    rw [if_pos h97, if_pos h97]
  · have e : c ≠ if 97 ≤ c then c else c + 32 := by simpa using h
    have h97 : ¬ 97 ≤ c := fun hh => e (by rw [if_pos hh])
    refine de_meth0 PySem.F.plainAttrs_str PySem.F.slot_str_lower PySem.F.type_str_lower ?_
    walk_at "go"
    refine ⟨tyw_str, mw_lower (by show 1 ≤ 5592405; decide) ?_⟩
    rw [hl]
    unfold und
    rw [if_neg h97, if_neg h97]
end

/-! ### draws -/
abbrev DrawC (M : Md) (k : Nat) : Prop := Cal M k "_law_draw" [true, true] (fun n : Int => [.drw, .int n]) (fun n => 1 ≤ n ∧ n < 1073741824) (fun n d => ∃ r, d = .int r ∧ 0 ≤ r ∧ r < n)
section
variable {M : Md} {k : Nat}
theorem ok_ldraw {f : Addr} {fd : FuncData} (F : Fun M.K "_law_draw" "_law_draw" s_ldraw f fd) :
    FnOk M.P M.w M.K M.mg M.base CX0 (k + 1) f fd ["_law_draws_here", "_law_many"] (SpD M.K [true, true] (fun n : Int => [.drw, .int n]) (fun n => 1 ≤ n ∧ n < 1073741824) (fun n d => ∃ r, d = .int r ∧ 0 ≤ r ∧ r < n)) := by
  refine fn_ok F S_ldraw rfl fun X S n ⟨hn, hn2⟩ => ?_
  show DB X _ [some (.d .drw), some (.d (.int n)), none, none] _ _ _ _
  walk_at "go"
  refine .drw (.inl rfl) fun z _ => ?_
  walk_at "go"
  refine .gt ⟨fun h => ?_, fun h => ?_⟩
  · walk_at "go"
    refine .drw (.inl rfl) fun z _ => ?_
    walk_at "go"
    refine ⟨_, by walk_at "ss", ?_⟩
    refine db_cons (ds_drwSet S (by walk_at "gt") (by walk_at "dk") ?_)
    walk_at "go"
    refine .drw (.inl rfl) fun z2 _ => ?_
    walk_at "go"
    refine ⟨_, 0, rfl, rfl, .inl rfl, (fun z => nomatch z), ?_⟩
    walk_at "go"
    exact ⟨_, rfl, Int.emod_nonneg _ (by omega), Int.emod_lt_of_pos _ (by omega)⟩
  · walk_at "go"
    refine ⟨_, by walk_at "ss", ?_⟩
    walk_at "go"
    refine ⟨_, by walk_at "ss", ?_⟩
    refine db_cons (ds_while S (fun m δ => ∃ f w : Int, 1 ≤ w ∧ m = (n - w).toNat ∧ δ = [some (.d .drw), some (.d (.int n)), some (.d (.int f)), some (.d (.int w))]) ⟨_, 0, 1, by decide, rfl, rfl⟩ ?_)
    rintro m δ ⟨f, w, hw, rfl, rfl⟩
    walk_at "go"
    refine .lt ⟨fun h => ?_, fun h => ?_⟩
    · have hlt : w < n := of_decide_eq_true h
      refine db_cons (ds_drwSet S (by walk_at "gt") (by walk_at "dk") ?_)
      walk_at "go"
      refine .drw (.inr rfl) fun z hz => ?_
      walk_at "go"
      refine ⟨_, 1, rfl, rfl, .inr rfl, (fun _ => ⟨Int.emod_nonneg _ (by decide), Int.lt_trans (Int.emod_lt_of_pos _ (by decide)) (by decide)⟩), ?_⟩
      walk_at "go"
      refine .drw (.inr rfl) fun z1 hz1 => ?_
      walk_at "go"
      refine .drw (.inr rfl) fun z2 hz2 => ?_
      have b1 := hz1 rfl
      have b2 := hz2 rfl
      walk_at "go"
      rotate_left
      · exact .inl (.inl ⟨by omega, by omega⟩)
      walk_at "go"
      refine ⟨_, by walk_at "ss", ?_⟩
      walk_at "go"
      refine ⟨_, by walk_at "ss", ?_⟩
      walk_at "go"
      exact ⟨_, by omega, _, _, by omega, rfl, rfl⟩
    · walk_at "go"
      exact ⟨_, rfl, Int.emod_nonneg _ (by omega), Int.emod_lt_of_pos _ (by omega)⟩
end

/-! ### the law's own makers: one of some, draws, floors, turns, rows -/
theorem atI_nat' {α : Type} {l : List α} {i : Int} (h0 : 0 ≤ i) (h : i < l.length) : ∃ d, atI l i = some d ∧ d ∈ l := by
  obtain ⟨j, rfl⟩ := Int.eq_ofNat_of_zero_le h0
  have hj : j < l.length := by omega
  exact ⟨l[j], by rw [show ((j : Nat) : Int) = ((j : Nat) : Int) from rfl]; exact atI_nat (List.getElem?_eq_getElem hj), List.getElem_mem hj⟩
def OfPre (s : Da) : Prop := (∃ l : List Da, s = .lst l ∧ 1 ≤ l.length ∧ l.length < 1000000) ∨ (∃ r : List Nat, s = .str (tx r) ∧ 1 ≤ r.length ∧ r.length < 1000000)
def OfPost (s d : Da) : Prop := (∀ l, s = .lst l → d ∈ l) ∧ (∀ r : List Nat, s = .str (tx r) → ∃ c ∈ r, d = sg c)
abbrev OfC (M : Md) (k : Nat) : Prop := Cal M k "_law_of" [true, true] (fun s : Da => [.drw, s]) OfPre OfPost
abbrev DrawsC (M : Md) (k : Nat) : Prop := Cal M k "_law_draws" [true, true] (fun p : List Int × Int => [.scr p.1, .int p.2]) (fun p => p.1.length ≤ 63 ∧ 0 ≤ p.2 ∧ p.2 < 1000) (fun _ d => d = .drw)
/-- a floor -/
abbrev Floor := List (Nat × Option Int)
def encO : Option Int → Da
  | none => .non
  | some i => .int i
def encF (fl : Floor) : Da := .tup (fl.map fun p => .tup [sg p.1, encO p.2])
def CostOk (c : Option Int) : Prop := ∀ i, c = some i → 1 ≤ i ∧ i ≤ 100
structure FloorOk (fl : Floor) : Prop where
  asc : (fl.map (·.1)).Pairwise (· < ·)
  ok : ∀ p ∈ fl, 97 ≤ p.1 ∧ p.1 ≤ 122 ∧ CostOk p.2
  pos : 1 ≤ fl.length
  len : fl.length ≤ 8
abbrev FloorC (M : Md) (k : Nat) : Prop := Cal M k "_law_floor" [true, true] (fun n : Int => [.drw, .int n]) (fun n => 1 ≤ n ∧ n ≤ 8) (fun n d => ∃ fl : Floor, d = encF fl ∧ FloorOk fl ∧ (fl.length : Int) ≤ n)
def lets (fl : Floor) : List Nat := fl.map (·.1)
def turnsF (fl : Floor) : List Nat := lets fl ++ (lets fl).map (· - 32)
abbrev TurnsC (M : Md) (k : Nat) : Prop := Cal M k "_law_turns" [true] (fun fl : Floor => [encF fl]) FloorOk (fun fl d => d = .str (tx (turnsF fl)))
def RowOf (fl : Floor) (r : List Nat) : Prop := ∀ c ∈ r, c ∈ turnsF fl
abbrev RowC (M : Md) (k : Nat) : Prop := Cal M k "_law_row" [true, true, true] (fun p : Floor × Int => [.drw, encF p.1, .int p.2]) (fun p => FloorOk p.1 ∧ 0 ≤ p.2 ∧ p.2 ≤ 1000) (fun p d => ∃ r, d = .str (tx r) ∧ RowOf p.1 r ∧ (r.length : Int) ≤ p.2)
theorem turnsF_T {fl : Floor} (h : FloorOk fl) {c : Nat} (hc : c ∈ turnsF fl) : IsT c := by
  unfold turnsF lets at hc
  rcases List.mem_append.mp hc with hc | hc
  · obtain ⟨p, hp, rfl⟩ := List.mem_map.mp hc
    have := h.ok p hp
    exact .inl ⟨this.1, this.2.1⟩
  · rw [List.map_map] at hc
    obtain ⟨p, hp, rfl⟩ := List.mem_map.mp hc
    have := h.ok p hp
    unfold IsT
    dsimp only [Function.comp]
    omega
theorem turnsF_und {fl : Floor} (h : FloorOk fl) {c : Nat} (hc : c ∈ turnsF fl) : und c ∈ turnsF fl := by
  unfold turnsF lets at hc ⊢
  rw [List.map_map] at hc ⊢
  rcases List.mem_append.mp hc with hc | hc
  · obtain ⟨p, hp, rfl⟩ := List.mem_map.mp hc
    have := h.ok p hp
    refine List.mem_append_right _ (List.mem_map.mpr ⟨p, hp, ?_⟩)
    unfold und
    rw [if_pos this.1]
    rfl
  · obtain ⟨p, hp, rfl⟩ := List.mem_map.mp hc
    have := h.ok p hp
    refine List.mem_append_left _ (List.mem_map.mpr ⟨p, hp, ?_⟩)
    unfold und
    dsimp only [Function.comp]
    rw [if_neg (by omega)]
    omega
theorem turnsF_len (fl : Floor) : (turnsF fl).length = 2 * fl.length := by
  unfold turnsF lets
  simp
  omega
theorem RowOf.row {fl : Floor} (h : FloorOk fl) {r : List Nat} (hr : RowOf fl r) : Row r := fun c hc => turnsF_T h (hr c hc)
theorem RowOf.app {fl : Floor} {r s : List Nat} (hr : RowOf fl r) (hs : RowOf fl s) : RowOf fl (r ++ s) := fun c hc => (List.mem_append.mp hc).elim (hr c) (hs c)
theorem RowOf.sub {fl : Floor} {r s : List Nat} (hr : RowOf fl r) (h : ∀ c ∈ s, c ∈ r) : RowOf fl s := fun c hc => hr c (h c hc)
theorem cut_to (r : List Nat) {j : Int} (h : 0 ≤ j) : cutS (tx r) none (some j) = tx (r.take j.toNat) := by
  obtain ⟨n, rfl⟩ := Int.eq_ofNat_of_zero_le h
  unfold cutS
  have e : HT.sIx (tx r).length (tx r).length (some ((n : Nat) : Int)) = min n r.length := by rw [HT.sIx_nat, len_tx]
  have e0 : HT.sIx (tx r).length 0 none = 0 := rfl
  rw [e, e0]
  show (⟨((r.drop 0).take (min n r.length - 0)).toArray⟩ : Str) = ⟨(r.take n).toArray⟩
  rw [List.drop_zero, Nat.sub_zero]
  by_cases hn : n ≤ r.length
  · rw [Nat.min_eq_left hn]
  · rw [Nat.min_eq_right (by omega), List.take_of_length_le (Nat.le_refl _), List.take_of_length_le (by omega)]
theorem cut_from (r : List Nat) {j : Int} (h : 0 ≤ j) : cutS (tx r) (some j) none = tx (r.drop j.toNat) := by
  obtain ⟨n, rfl⟩ := Int.eq_ofNat_of_zero_le h
  unfold cutS
  have e : HT.sIx (tx r).length 0 (some ((n : Nat) : Int)) = min n r.length := by rw [HT.sIx_nat, len_tx]
  have e0 : HT.sIx (tx r).length (tx r).length none = r.length := by rw [HT.sIx_none, len_tx]
  rw [e, e0]
  show (⟨((r.drop (min n r.length)).take (r.length - min n r.length)).toArray⟩ : Str) = ⟨(r.drop n).toArray⟩
  rw [List.take_of_length_le (by rw [List.length_drop]; omega)]
  by_cases hn : n ≤ r.length
  · rw [Nat.min_eq_left hn]
  · rw [Nat.min_eq_right (by omega), List.drop_of_length_le (Nat.le_refl _), List.drop_of_length_le (by omega)]
theorem cut_mid (r : List Nat) {i j : Int} (h : 0 ≤ i) (h2 : 0 ≤ j) : cutS (tx r) (some i) (some j) = tx ((r.drop i.toNat).take (j.toNat - i.toNat)) := by
  obtain ⟨n, rfl⟩ := Int.eq_ofNat_of_zero_le h
  obtain ⟨m, rfl⟩ := Int.eq_ofNat_of_zero_le h2
  unfold cutS
  rw [HT.sIx_nat, HT.sIx_nat, len_tx]
  show (⟨((r.drop (min n r.length)).take (min m r.length - min n r.length)).toArray⟩ : Str) = ⟨((r.drop n).take (m - n)).toArray⟩
  by_cases hn : n ≤ r.length
  · rw [Nat.min_eq_left hn]
    by_cases hm : m ≤ r.length
    · rw [Nat.min_eq_left hm]
    · rw [Nat.min_eq_right (by omega), List.take_of_length_le (by rw [List.length_drop]; omega), List.take_of_length_le (by rw [List.length_drop]; omega)]
  · rw [List.drop_of_length_le (l := r) (i := n) (by omega), List.drop_of_length_le (l := r) (by omega)]
    simp
theorem app_tx (r s : List Nat) : (tx r ++ tx s : Str) = tx (r ++ s) := by
  show (⟨r.toArray ++ s.toArray⟩ : Str) = _
  simp
theorem up1_low : ∀ c : Fin 128, 97 ≤ c.val → c.val ≤ 122 → up1 c.val = c.val - 32 := by decide +kernel
theorem upper_tx (r : List Nat) (h : ∀ c ∈ r, 97 ≤ c ∧ c ≤ 122) : Txt.upper (tx r) = tx (r.map (· - 32)) := by
  rw [upper_ascii (x := tx r) (fun c hc => by have := h c hc; omega)]
  show (⟨(r.toArray).map up1⟩ : Str) = _
  rw [List.map_toArray]
  have e : r.map up1 = r.map (· - 32) := List.map_congr_left fun c hc => by
    have := h c hc
    exact up1_low ⟨c, by omega⟩ this.1 this.2
  rw [e]
section
variable {M : Md} {k : Nat}
theorem ok_lof {f : Addr} {fd : FuncData} (F : Fun M.K "_law_of" "_law_of" s_lof f fd) (cD : DrawC M k) (ml : M.mg "len" = none) :
    FnOk M.P M.w M.K M.mg M.base CX0 (k + 1) f fd ["_law_draws_here", "_law_some"] (SpD M.K [true, true] (fun s : Da => [.drw, s]) OfPre OfPost) := by
  refine fn_ok F S_lof rfl fun X S s hs => ?_
  show DB X _ [some (.d .drw), some (.d s)] _ _ _ _
  rcases hs with ⟨l, rfl, h1, h2⟩ | ⟨r, rfl, h1, h2⟩
  · walk_at "go"
    refine bw_lenL ?_
    walk_at "go"
    refine ⟨_, rfl, by omega, ?_⟩
    rintro _ ⟨i, rfl, h3, h4⟩
    obtain ⟨d, hd, hm⟩ := atI_nat' h3 h4
    refine .lst hd ⟨fun l' e => ?_, fun r e => ?_⟩
    · cases e; exact hm
    · cases e
  · walk_at "go"
    refine bw_lenS (by rw [len_tx]; exact sl1 (by omega)) ?_
    rw [len_tx]
    walk_at "go"
    refine ⟨_, rfl, by omega, ?_⟩
    rintro _ ⟨i, rfl, h3, h4⟩
    obtain ⟨d, hd, hm⟩ := atI_nat' h3 h4
    refine .str (by rw [len_tx]; exact sl1 (by omega)) hd ⟨fun l' e => ?_, fun r' e => ?_⟩
    · cases e
    · have e2 : r' = r := by
        have := congrArg (fun d => match d with | Da.a (.str z) => z.cps.toList | _ => []) e
        exact this.symm
      rw [e2]
      exact ⟨d, hm, rfl⟩
theorem ok_ldraws {f : Addr} {fd : FuncData} (F : Fun M.K "_law_draws" "_law_draws" s_ldraws f fd) (ml : M.mg "len" = none) (mi : M.mg "int" = none) :
    FnOk M.P M.w M.K M.mg M.base CX0 (k + 1) f fd ["_law_script", "_law_k"] (SpD M.K [true, true] (fun p : List Int × Int => [.scr p.1, .int p.2]) (fun p => p.1.length ≤ 63 ∧ 0 ≤ p.2 ∧ p.2 < 1000) (fun _ d => d = .drw)) := by
  refine fn_ok F S_ldraws rfl fun X S ⟨ns, kk⟩ ⟨h1, h2, h3⟩ => ?_
  dsimp only at h1 h2 h3
  show DB X _ [some (.d (.scr ns)), some (.d (.int kk)), none] _ _ _ _
  have fin : ∀ c : Int, DB X [(defBody s_ldraws).getD 2 (.Pass ⟨0, 0, 0, 0⟩)] [some (.d (.scr ns)), some (.d (.int kk)), some (.d (.int c))] (fun _ => Da.non = .drw) (fun d => d = .drw) (fun _ => False) (fun _ => False) := fun c => by
    refine db_cons (ds_ret (de_lstDrw ?_))
    walk_at "go"
    refine .ge ?_
    walk_at "go"
    refine bw_intB ?_
    walk_at "go"
    rotate_left
    · refine .inl (.inr ?_)
      split <;> exact ⟨by decide, by decide⟩
    walk_at "go"
    refine ⟨_, _, rfl, ?_, rfl⟩
    have b1 := Int.emod_nonneg (c * 69621 + 86028121 * (kk + 1)) (show (2147483646 : Int) ≠ 0 by decide)
    have b2 := Int.emod_lt_of_pos (c * 69621 + 86028121 * (kk + 1)) (show (0 : Int) < 2147483646 by decide)
    omega
  walk_at "go"
  refine ⟨_, by walk_at "ss", ?_⟩
  walk_at "go"
  refine bw_lenC ?_
  refine .lt ⟨fun h => ?_, fun h => ?_⟩
  · have hk := of_decide_eq_true h
    obtain ⟨z, hz, _⟩ := atI_nat' (l := ns) h2 hk
    walk_at "go"
    refine .scr hz ?_
    walk_at "go"
    refine ⟨_, by walk_at "ss", ?_⟩
    exact db_nil (fin _)
  · walk_at "go"
    refine bw_lenC ?_
    walk_at "go"
    refine .gt ⟨fun h => ?_, fun h => ?_⟩
    · have hk : (0 : Int) < ns.length := of_decide_eq_true h
      walk_at "go"
      refine bw_lenC ?_
      walk_at "go"
      obtain ⟨z, hz, _⟩ := atI_nat' (l := ns) (i := kk % (ns.length : Int)) (Int.emod_nonneg _ (by omega)) (Int.emod_lt_of_pos _ hk)
      refine .scr hz ?_
      walk_at "go"
      refine ⟨_, by walk_at "ss", ?_⟩
      exact db_nil (db_nil (fin _))
    · exact db_nil (db_nil (fin _))
theorem encF_len (fl : Floor) : (fl.map fun p => Da.tup [sg p.1, encO p.2]).length = fl.length := by simp
def floorTexts : List (List Nat) := [[97, 98, 99, 100, 101, 102, 103, 104], [97, 99, 101, 103, 108, 109, 120, 122], [109, 110, 111, 112, 113, 114, 115, 116]]
theorem ok_lfloor {f : Addr} {fd : FuncData} (F : Fun M.K "_law_floor" "_law_floor" s_lfloor f fd) (cD : DrawC M k) (cO : OfC M k) (mt : M.mg "tuple" = none) :
    FnOk M.P M.w M.K M.mg M.base CX0 (k + 1) f fd ["_law_draws_here", "_law_many"] (SpD M.K [true, true] (fun n : Int => [.drw, .int n]) (fun n => 1 ≤ n ∧ n ≤ 8) (fun n d => ∃ fl : Floor, d = encF fl ∧ FloorOk fl ∧ (fl.length : Int) ≤ n)) := by
  refine fn_ok F S_lfloor rfl fun X S n ⟨hn, hn2⟩ => ?_
  show DB X _ [some (.d .drw), some (.d (.int n)), none, none, none, none, none] _ _ _ _
  walk_at "go"
  refine ⟨_, rfl, .inl ⟨_, rfl, by decide, by decide⟩, ?_⟩
  rintro d ⟨hd, _⟩
  have hd2 := hd _ rfl
  obtain ⟨ls, hls, hlen, hasc, hlow⟩ : ∃ ls : List Nat, d = .str (tx ls) ∧ ls.length = 8 ∧ ls.Pairwise (· < ·) ∧ ∀ c ∈ ls, 97 ≤ c ∧ c ≤ 122 := by
    rcases List.mem_cons.mp hd2 with rfl | hd2
    · exact ⟨[97, 98, 99, 100, 101, 102, 103, 104], congrArg (fun z => Da.a (V.str z)) (by decide : Str.ofString "abcdefgh" = tx [97, 98, 99, 100, 101, 102, 103, 104]), by decide, by decide, by decide⟩
    rcases List.mem_cons.mp hd2 with rfl | hd2
    · exact ⟨[97, 99, 101, 103, 108, 109, 120, 122], congrArg (fun z => Da.a (V.str z)) (by decide : Str.ofString "aceglmxz" = tx [97, 99, 101, 103, 108, 109, 120, 122]), by decide, by decide, by decide⟩
    rcases List.mem_cons.mp hd2 with rfl | hd2
    · exact ⟨[109, 110, 111, 112, 113, 114, 115, 116], congrArg (fun z => Da.a (V.str z)) (by decide : Str.ofString "mnopqrst" = tx [109, 110, 111, 112, 113, 114, 115, 116]), by decide, by decide, by decide⟩
    cases hd2
  subst hls
  walk_at "go"
  refine ⟨n, rfl, ⟨hn, by omega⟩, ?_⟩
  rintro _ ⟨i, rfl, h3, h4⟩
  walk_at "go"
  refine ⟨_, rfl, .str (by rw [len_tx]; exact sl1 (by omega)) ?_⟩
  rw [cut_to ls (by omega)]
  generalize hlt : ls.take (1 + i).toNat = lt
  have ltl : lt.length = (1 + i).toNat := by rw [← hlt, List.length_take]; omega
  have lta : lt.Pairwise (· < ·) := by rw [← hlt]; exact hasc.sublist (List.take_sublist _ _)
  have ltw : ∀ c ∈ lt, 97 ≤ c ∧ c ≤ 122 := fun c hc => hlow c (by rw [← hlt] at hc; exact List.mem_of_mem_take hc)
  refine ⟨_, by walk_at "ss", ?_⟩
  walk_at "go"
  refine ⟨3, rfl, ⟨by decide, by decide⟩, ?_⟩
  rintro _ ⟨j, rfl, h5, h6⟩
  obtain ⟨fard, hfar, hfarm⟩ := atI_nat' (l := [Da.int 1, .int 3, .int 100]) h5 h6
  obtain ⟨far, rfl, hf1, hf2⟩ : ∃ far : Int, fard = .int far ∧ 1 ≤ far ∧ far ≤ 100 := by
    rcases List.mem_cons.mp hfarm with rfl | h
    · exact ⟨1, rfl, by decide, by decide⟩
    rcases List.mem_cons.mp h with rfl | h
    · exact ⟨3, rfl, by decide, by decide⟩
    rcases List.mem_cons.mp h with rfl | h
    · exact ⟨100, rfl, by decide, by decide⟩
    cases h
  refine .lst hfar ?_
  walk_at "go"
  refine ⟨3, rfl, ⟨by decide, by decide⟩, ?_⟩
  rintro _ ⟨b, rfl, _, _⟩
  walk_at "go"
  refine .eqS rfl ?_
  generalize decide (V.int b = V.int 0) = bar
  refine ⟨_, _, by walk_at "ss", by walk_at "ss", ?_⟩
  refine db_cons (ds_ownL S ⟨_, by walk_at "ss", ?_⟩ (by walk_at "dk"))
  refine db_cons (ds_for S (di_str ?_))
  walk_at "go"
  refine ⟨_, rfl, fun i δ => ∃ (x : Option SD) (fl : Floor), δ = [some (.d .drw), some (.d (.int n)), some (.d (.str (tx lt))), some (.d (.int far)), some (.d (.bl bar)), some (.ol (fl.map fun p => Da.tup [sg p.1, encO p.2])), x] ∧ fl.map (·.1) = lt.take i ∧ ∀ p ∈ fl, CostOk p.2, ⟨none, [], rfl, rfl, fun p hp => by cases hp⟩, ?_, ?_⟩
  · rintro i d δ' hi ⟨x, fl, rfl, hfl, hc⟩
    rw [chars_tx, List.getElem?_map] at hi
    obtain ⟨c, hci, rfl⟩ := Option.map_eq_some_iff.mp hi
    have hil : i < lt.length := (List.getElem?_eq_some_iff.mp hci).1
    refine ⟨_, dg_name S (by walk_at "dk") ⟨_, by walk_at "ss", ?_⟩⟩
    have hlenfl : fl.length ≤ 8 := by
      have := congrArg List.length hfl
      rw [List.length_map, List.length_take] at this
      omega
    have fin : ∀ o : Option Int, CostOk o → ∃ (x : Option SD) (fl' : Floor), [some (SD.d .drw), some (.d (.int n)), some (.d (.str (tx lt))), some (.d (.int far)), some (.d (.bl bar)), some (.ol ((fl.map fun p => Da.tup [sg p.1, encO p.2]) ++ [Da.tup [sg c, encO o]])), some (.d (sg c))] =
        [some (.d .drw), some (.d (.int n)), some (.d (.str (tx lt))), some (.d (.int far)), some (.d (.bl bar)), some (.ol (fl'.map fun p => Da.tup [sg p.1, encO p.2])), x] ∧ fl'.map (·.1) = lt.take (i + 1) ∧ ∀ p ∈ fl', CostOk p.2 := fun o ho =>
      ⟨_, fl ++ [(c, o)], by rw [List.map_append]; rfl, by rw [List.map_append, hfl, List.take_add_one, hci]; rfl, fun p hp => by
        rcases List.mem_append.mp hp with hp | hp
        · exact hc p hp
        · rw [List.mem_singleton.mp hp]; exact ho⟩
    walk_at "go"
    rotate_left
    · rw [encF_len]; omega
    refine dt_val ?_
    walk_at "go"
    refine ⟨bar, rfl, fun hb => ?_, fun hb => ?_⟩
    · walk_at "go"
      refine ⟨3, rfl, ⟨by decide, by decide⟩, ?_⟩
      rintro _ ⟨z, rfl, _, _⟩
      walk_at "go"
      refine .eqS rfl ?_
      refine ⟨fun hz => ?_, fun hz => ?_⟩
      · walk_at "go"
        refine ⟨_, by walk_at "ss", ?_⟩
        walk_at "go"
        exact fin none (fun i h => by cases h)
      · walk_at "go"
        refine ⟨far, rfl, ⟨hf1, by omega⟩, ?_⟩
        rintro _ ⟨w, rfl, hw, hw2⟩
        walk_at "go"
        refine ⟨_, by walk_at "ss", ?_⟩
        walk_at "go"
        exact fin (some (1 + w)) (fun i h => by cases h; omega)
    · walk_at "go"
      refine ⟨far, rfl, ⟨hf1, by omega⟩, ?_⟩
      rintro _ ⟨w, rfl, hw, hw2⟩
      walk_at "go"
      refine ⟨_, by walk_at "ss", ?_⟩
      walk_at "go"
      exact fin (some (1 + w)) (fun i h => by cases h; omega)
  · rintro δ' ⟨x, fl, rfl, hfl, hc⟩
    have e : (chars (tx lt)).length = lt.length := by rw [chars_tx]; simp
    rw [e, List.take_length] at hfl
    refine db_freezeL (by walk_at "gt") ⟨_, by walk_at "ss", ?_⟩ S.nd
    walk_at "go"
    refine bw_tupleL ⟨fl, rfl, ⟨by rw [hfl]; exact lta, fun p hp => ?_, ?_, ?_⟩, ?_⟩
    · have := ltw p.1 (by rw [← hfl]; exact List.mem_map.mpr ⟨p, hp, rfl⟩)
      exact ⟨this.1, this.2, hc p hp⟩
    · have := congrArg List.length hfl
      rw [List.length_map] at this
      omega
    · have := congrArg List.length hfl
      rw [List.length_map] at this
      omega
    · have := congrArg List.length hfl
      rw [List.length_map] at this
      omega
end

section
variable {M : Md} {k : Nat}
theorem ok_lturns {f : Addr} {fd : FuncData} (F : Fun M.K "_law_turns" "_law_turns" s_lturns f fd) :
    FnOk M.P M.w M.K M.mg M.base CX0 (k + 1) f fd ["_law_floor_here"] (SpD M.K [true] (fun fl : Floor => [encF fl]) FloorOk (fun fl d => d = .str (tx (turnsF fl)))) := by
  refine fn_ok F S_lturns rfl fun X S fl hf => ?_
  show DB X _ [some (.d (encF fl)), none, none, none] _ _ _ _
  have hl := hf.len
  walk_at "go"
  refine de_meth PySem.F.plainAttrs_str PySem.F.slot_str_join PySem.F.type_str_join ?_
  walk_at "go"
  refine ⟨tyw_str, ?_⟩
  walk_at "go"
  refine de_lc1 S (di_tup ?_) (by walk_at "dk")
  walk_at "go"
  refine ⟨_, rfl, ?_⟩
  refine lc_map (f := fun p : Nat × Option Int => sg p.1) (by walk_at "wp") (by omega) (fun X1 S1 p hp => ?_) ?_
  · refine dg_tup S1 (dgs_cons (dg_name S1 (by walk_at "dk") ⟨_, by walk_at "ss", dgs_cons (dg_name S1 (by walk_at "dk") ⟨_, by walk_at "ss", dgs_nil fun X2 S2 => ?_⟩)⟩))
    walk_at "go"
    rfl
  · walk_at "go"
    have e : (fl.map fun p => sg p.1) = (lets fl).map sg := by simp [lets]
    rw [e]
    refine joinR (lets fl) (by simp [lets]; omega) ?_
    refine ⟨_, by walk_at "ss", ?_⟩
    walk_at "go"
    refine de_meth0 PySem.F.plainAttrs_str PySem.F.slot_str_upper PySem.F.type_str_upper ?_
    walk_at "go"
    refine ⟨tyw_str, mw_upper (by rw [len_tx]; simp [lets]; omega) ?_⟩
    have e2 : Txt.upper (tx (lets fl)) = tx ((lets fl).map (· - 32)) := upper_tx _ fun c hc => by
      obtain ⟨p, hp, rfl⟩ := List.mem_map.mp hc
      have := hf.ok p hp
      exact ⟨this.1, this.2.1⟩
    rw [e2]
    walk_at "go"
    · rw [app_tx]
      rfl
    · rw [len_tx, len_tx]
      refine sl1 ?_
      simp [lets]
      omega
theorem ok_lrow {f : Addr} {fd : FuncData} (F : Fun M.K "_law_row" "_law_row" s_lrow f fd) (cD : DrawC M k) (cO : OfC M k) (cT : TurnsC M k) (cU : LUndoesC M k) (ml : M.mg "len" = none) (mr : M.mg "range" = none) :
    FnOk M.P M.w M.K M.mg M.base CX0 (k + 1) f fd ["_law_draws_here", "_law_floor_here", "_law_many"] (SpD M.K [true, true, true] (fun p : Floor × Int => [.drw, encF p.1, .int p.2]) (fun p => FloorOk p.1 ∧ 0 ≤ p.2 ∧ p.2 ≤ 1000) (fun p d => ∃ r, d = .str (tx r) ∧ RowOf p.1 r ∧ (r.length : Int) ≤ p.2)) := by
  refine fn_ok F S_lrow rfl fun X S ⟨fl, n⟩ ⟨hf, hn, hn2⟩ => ?_
  dsimp only at hf hn hn2 ⊢
  show DB X _ [some (.d .drw), some (.d (encF fl)), some (.d (.int n)), none, none, none, none, none, none, none, none] _ _ _ _
  have hfl := hf.len
  have hfp := hf.pos
  have htl := turnsF_len fl
  walk_at "go"
  refine ⟨fl, rfl, hf, ?_⟩
  rintro _ rfl
  walk_at "go"
  refine ⟨_, _, by walk_at "ss", by walk_at "ss", ?_⟩
  walk_at "go"
  refine ⟨3, rfl, ⟨by decide, by decide⟩, ?_⟩
  rintro _ ⟨way, rfl, _, _⟩
  refine ⟨_, by walk_at "ss", ?_⟩
  refine db_cons (ds_for S (di_range1 S mr (by walk_at "dk") ?_))
  walk_at "go"
  refine ⟨n + 1, rfl, ⟨by omega, by omega⟩, ?_⟩
  rintro _ ⟨many, rfl, hm0, hm1⟩
  refine ⟨many, rfl, by omega, by omega, ?_⟩
  refine ⟨fun i δ => ∃ (r : List Nat) (a b c d e : Option SD), δ = [some (.d .drw), some (.d (encF fl)), some (.d (.int n)), some (.d (.str (tx (turnsF fl)))), some (.d (.str (tx r))), some (.d (.int way)), a, b, c, d, e] ∧ RowOf fl r ∧ (r.length : Int) ≤ n,
    ⟨[], none, none, none, none, none, rfl, (fun c hc => by cases hc), by simpa using hn⟩, ?_, ?_⟩
  · rintro i d δ' hi ⟨r, a, b, c, d, e, rfl, hr, hrl⟩
    obtain ⟨_, rfl⟩ := rangeD_get hi
    refine ⟨_, dg_name S (by walk_at "dk") ⟨_, by walk_at "ss", ?_⟩⟩
    walk_at "go"
    refine ⟨_, rfl, .inr ⟨turnsF fl, rfl, by omega, by omega⟩, ?_⟩
    rintro d ⟨_, hd⟩
    obtain ⟨c, hc, rfl⟩ := hd _ rfl
    refine ⟨_, by walk_at "ss", ?_⟩
    walk_at "go"
    refine bw_lenS (by rw [len_tx]; exact sl1 (by omega)) ?_
    rw [len_tx]
    walk_at "go"
    refine ⟨_, rfl, by omega, ?_⟩
    rintro _ ⟨at_, rfl, ha0, ha1⟩
    refine ⟨_, by walk_at "ss", ?_⟩
    have hT := turnsF_T hf hc
    have hcr : RowOf fl [c] := fun z hz => by rw [List.mem_singleton.mp hz]; exact hc
    have hur : RowOf fl [und c] := fun z hz => by rw [List.mem_singleton.mp hz]; exact turnsF_und hf hc
    have htk : ∀ j, RowOf fl (r.take j) := fun j z hz => hr z (List.mem_of_mem_take hz)
    have hdr : ∀ j, RowOf fl (r.drop j) := fun j z hz => hr z (List.mem_of_mem_drop hz)
    have hS : ∀ l : List Nat, (l.length : Int) ≤ 2000 → (tx l).length ≤ sizeLine := fun l hl => by rw [len_tx]; exact sl1 (by omega)
    walk_at "go"
    refine .eqS rfl ⟨fun hw => ?_, fun hw => ?_⟩
    · walk_at "go"
      refine bw_lenS (hS r (by omega)) ?_
      rw [len_tx]
      walk_at "go"
      refine .le ⟨fun h2 => ?_, fun h2 => ?_⟩
      · have h3 := of_decide_eq_true h2
        walk_at "go"
        refine bw_lenS (hS r (by omega)) ?_
        rw [len_tx]
        walk_at "go"
        refine ⟨_, rfl, ⟨by omega, by omega⟩, ?_⟩
        rintro _ ⟨sp, rfl, hs0, hs1⟩
        walk_at "go"
        refine ⟨_, by walk_at "ss", ?_⟩
        walk_at "go"
        refine ⟨_, rfl, ?_⟩
        walk_at "go"
        refine ⟨_, rfl, .str (hS r (by omega)) ?_⟩
        rw [cut_mid r ha0 (by omega)]
        generalize hmid : (r.drop at_.toNat).take ((at_ + sp).toNat - at_.toNat) = mid
        have hml : mid.length = sp.toNat := by rw [← hmid, List.length_take, List.length_drop]; omega
        have hmr : RowOf fl mid := by rw [← hmid]; exact fun z hz => hdr _ z (List.mem_of_mem_take hz)
        walk_at "go"
        rotate_left
        · rw [len_tx, len_tx]; exact sl1 (by simp; omega)
        rw [app_tx]
        walk_at "go"
        refine ⟨c, rfl, hT, ?_⟩
        rintro _ rfl
        walk_at "go"
        rotate_left
        · rw [len_tx, len_tx]; exact sl1 (by simp; omega)
        rw [app_tx]
        refine ⟨_, by walk_at "ss", ?_⟩
        walk_at "go"
        refine ⟨_, rfl, .str (hS r (by omega)) ?_⟩
        rw [cut_to r ha0]
        walk_at "go"
        rotate_left
        · rw [len_tx, len_tx]; exact sl1 (by simp; omega)
        rw [app_tx]
        walk_at "go"
        refine ⟨_, rfl, .str (hS r (by omega)) ?_⟩
        rw [cut_from r (by omega)]
        walk_at "go"
        rotate_left
        · rw [len_tx, len_tx]; exact sl1 (by simp; omega)
        rw [app_tx]
        refine ⟨_, by walk_at "ss", ?_⟩
        walk_at "go"
        refine ⟨_, _, _, _, _, _, rfl, ((htk _).app ((hcr.app hmr).app hur)).app (hdr _), ?_⟩
        simp only [List.length_append, List.length_take, List.length_drop, List.length_singleton]
        omega
      · have h3 := of_decide_eq_false h2
        walk_at "go"
        refine bw_lenS (hS r (by omega)) ?_
        rw [len_tx]
        walk_at "go"
        refine .lt ⟨fun h4 => ?_, fun h4 => ?_⟩
        · have h5 := of_decide_eq_true h4
          walk_at "go"
          refine ⟨_, rfl, .str (hS r (by omega)) ?_⟩
          rw [cut_to r ha0]
          walk_at "go"
          rotate_left
          · rw [len_tx, len_tx]; exact sl1 (by simp; omega)
          rw [app_tx]
          walk_at "go"
          refine ⟨_, rfl, .str (hS r (by omega)) ?_⟩
          rw [cut_from r ha0]
          walk_at "go"
          rotate_left
          · rw [len_tx, len_tx]; exact sl1 (by simp; omega)
          rw [app_tx]
          refine ⟨_, by walk_at "ss", ?_⟩
          walk_at "go"
          refine ⟨_, _, _, _, _, _, rfl, ((htk _).app hcr).app (hdr _), ?_⟩
          simp only [List.length_append, List.length_take, List.length_drop, List.length_singleton]
          omega
        · walk_at "go"
          exact ⟨_, _, _, _, _, _, rfl, hr, hrl⟩
    · walk_at "go"
      refine bw_lenS (hS r (by omega)) ?_
      rw [len_tx]
      walk_at "go"
      refine .lt ⟨fun h4 => ?_, fun h4 => ?_⟩
      · have h5 := of_decide_eq_true h4
        walk_at "go"
        refine ⟨_, rfl, .str (hS r (by omega)) ?_⟩
        rw [cut_to r ha0]
        walk_at "go"
        rotate_left
        · rw [len_tx, len_tx]; exact sl1 (by simp; omega)
        rw [app_tx]
        walk_at "go"
        refine ⟨_, rfl, .str (hS r (by omega)) ?_⟩
        rw [cut_from r ha0]
        walk_at "go"
        rotate_left
        · rw [len_tx, len_tx]; exact sl1 (by simp; omega)
        rw [app_tx]
        refine ⟨_, by walk_at "ss", ?_⟩
        walk_at "go"
        refine ⟨_, _, _, _, _, _, rfl, ((htk _).app hcr).app (hdr _), ?_⟩
        simp only [List.length_append, List.length_take, List.length_drop, List.length_singleton]
        omega
      · walk_at "go"
        exact ⟨_, _, _, _, _, _, rfl, hr, hrl⟩
  · rintro δ' ⟨r, a, b, c, d, e, rfl, hr, hrl⟩
    walk_at "go"
    exact ⟨r, rfl, hr, hrl⟩
end

/-! ### mathematics: rows drawn tight -/
theorem und_und {c : Nat} (h : IsT c) : und (und c) = c := by
  unfold IsT at h
  unfold und
  split <;> split <;> omega
theorem und_eq {c d : Nat} (hc : IsT c) (h : c = und d) (hd : IsT d) : d = und c := by rw [h, und_und hd]
theorem und_ne {c : Nat} (h : IsT c) : und c ≠ c := by
  unfold IsT at h
  unfold und
  split <;> omega
def RedS : List Nat → Prop
  | x :: y :: r => y ≠ und x ∧ RedS (y :: r)
  | _ => True
theorem RedS.tail {x : Nat} {r : List Nat} (h : RedS (x :: r)) : RedS r := by
  cases r with
  | nil => trivial
  | cons y r => exact h.2
theorem RedS.right : ∀ {l m : List Nat}, RedS (l ++ m) → RedS m
  | [], _, h => h
  | x :: l, m, h => RedS.right (l := l) h.tail
theorem RedS.cons {c : Nat} {st : List Nat} (h : RedS st) (hc : ∀ t r, st = t :: r → t ≠ und c) : RedS (c :: st) := by
  cases st with
  | nil => trivial
  | cons t r => exact ⟨hc t r rfl, h⟩
theorem step_red {st : List Nat} {c : Nat} (h : RedS st) : RedS (stepT st c) := by
  unfold stepT
  split
  · trivial
  · split
    · exact h.tail
    · rename_i t r hne
      exact h.cons fun t' r' e => by cases e; exact hne
theorem step_cancel {st : List Nat} {c : Nat} (h : RedS st) (hr : Row st) (hc : IsT c) : stepT (stepT st c) (und c) = st := by
  have huu := und_und hc
  cases st with
  | nil => simp [stepT, huu]
  | cons t r =>
    by_cases e : t = und c
    · subst e
      cases r with
      | nil => simp [stepT]
      | cons t2 r2 =>
        have h2 : t2 ≠ und (und c) := h.1
        simp [stepT]
        intro hh
        exact absurd hh h2
    · simp [stepT, e, huu]
theorem step_cancel2 {st : List Nat} {c d : Nat} (h : RedS st) (hr : Row st) (hc : IsT c) (hd : IsT d) (e : c = und d) : stepT (stepT st c) d = st := by
  rw [und_eq hc e hd]
  exact step_cancel h hr hc
theorem fold_red : ∀ {r st : List Nat}, RedS st → RedS (r.foldl stepT st)
  | [], _, h => h
  | c :: r, st, h => fold_red (r := r) (step_red h)
theorem red_nil : RedS [] := trivial
theorem row_nil : Row [] := fun _ z => by cases z
theorem tightR_red (r : List Nat) : RedS (tightR r) := fold_red (r := r) red_nil
theorem tightR_row {r : List Nat} (h : Row r) : Row (tightR r) := foldT_row h (fun _ z => by cases z)
/-- two that undo one another may go -/
theorem tightR_cut {a b : List Nat} {c d : Nat} (ha : Row a) (hc : IsT c) (hd : IsT d) (e : c = und d) : tightR (a ++ c :: d :: b) = tightR (a ++ b) := by
  unfold tightR
  rw [List.foldl_append, List.foldl_append, List.foldl_cons, List.foldl_cons, step_cancel2 (fold_red (r := a) red_nil) (foldT_row ha (fun _ z => by cases z)) hc hd e]
theorem tight_cut {a b : List Nat} {c d : Nat} (ha : Row a) (hc : IsT c) (hd : IsT d) (e : c = und d) : tight (a ++ c :: d :: b) = tight (a ++ b) := by
  unfold tight
  rw [tightR_cut ha hc hd e]
theorem fold_of_red : ∀ {r st : List Nat}, RedS (r.reverse ++ st) → r.foldl stepT st = r.reverse ++ st
  | [], _, _ => rfl
  | c :: r, st, h => by
    have h : RedS (r.reverse ++ (c :: st)) := by rw [List.reverse_cons, List.append_assoc] at h; exact h
    have h1 : RedS (c :: st) := RedS.right h
    have e : stepT st c = c :: st := by
      cases st with
      | nil => rfl
      | cons t s => simp [stepT, h1.1]
    rw [List.foldl_cons, e, fold_of_red (r := r) h, List.reverse_cons, List.append_assoc]
    rfl
theorem tight_of_red {r : List Nat} (h : RedS r.reverse) : tight r = r := by
  unfold tight tightR
  rw [fold_of_red (by simpa using h)]
  simp
theorem tight_red (r : List Nat) : RedS (tight r).reverse := by
  unfold tight
  rw [List.reverse_reverse]
  exact tightR_red r
theorem tight_tight (r : List Nat) : tight (tight r) = tight r := tight_of_red (tight_red r)
/-- no two side by side that undo one another -/
def adj (r : List Nat) (i : Nat) : Bool := match r[i]?, r[i + 1]? with
  | some x, some y => x == und y
  | _, _ => false
theorem adj_lt {r : List Nat} {i : Nat} (h : adj r i = true) : i + 1 < r.length := by
  unfold adj at h
  cases e1 : r[i]? with
  | none => rw [e1] at h; cases h
  | some x =>
    cases e2 : r[i + 1]? with
    | none => rw [e1, e2] at h; cases h
    | some y => exact (List.getElem?_eq_some_iff.mp e2).1
theorem adj_split {r : List Nat} {i : Nat} (h : adj r i = true) : ∃ c d, r = r.take i ++ c :: d :: r.drop (i + 2) ∧ c = und d := by
  have hl := adj_lt h
  refine ⟨r[i], r[i + 1], ?_, ?_⟩
  · rw [← List.drop_eq_getElem_cons (by omega), ← List.drop_eq_getElem_cons (by omega), List.take_append_drop]
  · unfold adj at h
    rw [List.getElem?_eq_getElem (by omega), List.getElem?_eq_getElem hl] at h
    simpa using h
theorem red_of_adj : ∀ {r : List Nat}, Row r → (∀ i, adj r i = false) → RedS r
  | [], _, _ => trivial
  | [x], _, _ => trivial
  | x :: y :: r, hr, h => by
    refine ⟨fun e => ?_, red_of_adj (r := y :: r) (fun c hc => hr c (List.mem_cons_of_mem _ hc)) fun i => ?_⟩
    · have h0 := h 0
      have hx := hr x List.mem_cons_self
      simp [adj, e, und_und hx] at h0
    · have := h (i + 1)
      simpa [adj] using this
theorem RedS.app_one : ∀ {l : List Nat} {c : Nat}, RedS l → Row l → IsT c → (∀ t, l.getLast? = some t → t ≠ und c) → RedS (l ++ [c])
  | [], _, _, _, _, _ => trivial
  | [x], c, _, hr, hc, hl => ⟨fun e => hl x rfl (und_eq hc e (hr x List.mem_cons_self)), trivial⟩
  | x :: y :: r, c, h, hr, hc, hl => ⟨h.1, RedS.app_one (l := y :: r) h.2 (fun c hc => hr c (List.mem_cons_of_mem _ hc)) hc fun t ht => hl t (by simpa using ht)⟩
theorem red_rev : ∀ {r : List Nat}, Row r → RedS r → RedS r.reverse
  | [], _, _ => trivial
  | x :: r, hr, h => by
    rw [List.reverse_cons]
    have hr' : Row r := fun c hc => hr c (List.mem_cons_of_mem _ hc)
    refine (red_rev hr' h.tail).app_one (fun c hc => hr' c (List.mem_reverse.mp hc)) (hr x List.mem_cons_self) fun t ht => ?_
    rw [List.getLast?_reverse] at ht
    cases r with
    | nil => cases ht
    | cons y s =>
      cases ht
      exact h.1
theorem tight_of_adj {r : List Nat} (hr : Row r) (h : ∀ i, adj r i = false) : tight r = r := tight_of_red (red_rev hr (red_of_adj hr h))
theorem red_rev' {r : List Nat} (hr : Row r) (h : RedS r.reverse) : RedS r := by
  have := red_rev (r := r.reverse) (fun c hc => hr c (List.mem_reverse.mp hc)) h
  rwa [List.reverse_reverse] at this
theorem adj_of_red : ∀ {r : List Nat}, Row r → RedS r → ∀ i, adj r i = false
  | [], _, _, i => by simp [adj]
  | [x], _, _, i => by cases i <;> simp [adj]
  | x :: y :: r, hr, h, 0 => by
    have hy := hr y (List.mem_cons_of_mem _ List.mem_cons_self)
    have hx := hr x List.mem_cons_self
    simp only [adj, List.getElem?_cons_zero, List.getElem?_cons_succ]
    simp
    intro e
    exact h.1 (und_eq hx e hy)
  | x :: y :: r, hr, h, i + 1 => by
    have := adj_of_red (r := y :: r) (fun c hc => hr c (List.mem_cons_of_mem _ hc)) h.2 i
    simpa [adj] using this
theorem tight_adj {r : List Nat} (hr : Row r) : ∀ i, adj (tight r) i = false := adj_of_red (tight_row hr) (red_rev' (tight_row hr) (tight_red r))
/-- parts drawn tight first -/
theorem fold_tight {st : List Nat} (hs : RedS st) (hsr : Row st) : ∀ {r : List Nat}, Row r → (tight r).foldl stepT st = r.foldl stepT st := by
  suffices H : ∀ (r t : List Nat), Row r → Row t → RedS t → (r.foldl stepT t).reverse.foldl stepT st = r.foldl stepT (t.reverse.foldl stepT st) from fun {r} hr => H r [] hr (fun _ z => by cases z) trivial
  intro r
  induction r with
  | nil => intro t _ _ _; rfl
  | cons c r ih =>
    intro t hr ht hred
    have hc := hr c List.mem_cons_self
    have hr' : Row r := fun d hd => hr d (List.mem_cons_of_mem _ hd)
    rw [List.foldl_cons, ih (stepT t c) hr' (stepT_row ht hc) (step_red hred), List.foldl_cons]
    congr 1
    cases t with
    | nil => rfl
    | cons x s =>
      unfold stepT
      dsimp only
      split
      · rename_i e
        rw [List.reverse_cons, List.foldl_append]
        have hx := ht x List.mem_cons_self
        have hs2 : Row s := fun d hd => ht d (List.mem_cons_of_mem _ hd)
        have := step_cancel2 (st := s.reverse.foldl stepT st) (c := x) (d := c) (fold_red (r := s.reverse) hs) (foldT_row (fun d hd => hs2 d (List.mem_reverse.mp hd)) hsr) hx hc e
        exact this.symm
      · rw [List.reverse_cons, List.foldl_append]
        rfl
theorem tight_parts {a b : List Nat} (ha : Row a) (hb : Row b) : tight (tight a ++ tight b) = tight (a ++ b) := by
  unfold tight tightR
  congr 1
  rw [List.foldl_append, List.foldl_append]
  have e1 := fold_tight (st := []) trivial (fun _ z => by cases z) ha
  have e2 : (tight a).foldl stepT [] = a.foldl stepT [] := e1
  show ((b.foldl stepT []).reverse).foldl stepT ((tight a).foldl stepT []) = _
  rw [e2]
  exact fold_tight (fold_red (r := a) red_nil) (foldT_row ha (fun _ z => by cases z)) hb
theorem back_row {r : List Nat} (h : Row r) : Row (back r) := fun c hc => by
  unfold back at hc
  rw [List.mem_reverse] at hc
  obtain ⟨d, hd, rfl⟩ := List.mem_map.mp hc
  exact und_T (h d hd)
theorem back_len (r : List Nat) : (back r).length = r.length := by simp [back]
theorem back_back {r : List Nat} (h : Row r) : back (back r) = r := by
  unfold back
  rw [List.map_reverse, List.reverse_reverse, List.map_map]
  have : r.map (und ∘ und) = r.map id := List.map_congr_left fun c hc => und_und (h c hc)
  rw [this, List.map_id]
theorem back_app (a b : List Nat) : back (a ++ b) = back b ++ back a := by simp [back]
theorem tight_back_self : ∀ {r : List Nat}, Row r → ∀ s, Row s → tight (s ++ (r ++ back r)) = tight s
  | [], _, s, _ => by simp [back]
  | c :: r, hr, s, hs => by
    have hc := hr c List.mem_cons_self
    have hr' : Row r := fun d hd => hr d (List.mem_cons_of_mem _ hd)
    have e : s ++ (c :: r ++ back (c :: r)) = (s ++ [c]) ++ (r ++ back r) ++ [und c] := by simp [back]
    have ih := tight_back_self hr' (s ++ [c]) (fun d hd => (List.mem_append.mp hd).elim (hs d) fun z => by rw [List.mem_singleton.mp z]; exact hc)
    rw [e]
    have h1 : tightR ((s ++ [c]) ++ (r ++ back r)) = tightR (s ++ [c]) := by
      have := congrArg List.reverse ih
      unfold tight at this
      simpa using this
    have h2 : tightR ((s ++ [c]) ++ (r ++ back r) ++ [und c]) = tightR s := by
      show List.foldl stepT [] _ = _
      rw [List.foldl_append]
      show List.foldl stepT (tightR ((s ++ [c]) ++ (r ++ back r))) [und c] = _
      rw [h1]
      unfold tightR
      rw [List.foldl_append]
      exact step_cancel (fold_red (r := s) red_nil) (foldT_row hs (fun _ z => by cases z)) hc
    unfold tight
    rw [h2]
theorem tight_self_back {r : List Nat} (h : Row r) : tight (r ++ back r) = [] := by
  have := tight_back_self h [] row_nil
  exact this.trans rfl
theorem tight_back {r : List Nat} (h : Row r) : tight (back r) = back (tight r) := by
  -- tight (back r) and back (tight r) are both tight and equal after drawing tight
  have hr := tight_row h
  have hb : tight (back (tight r)) = back (tight r) := by
    refine tight_of_adj (back_row hr) fun i => ?_
    cases e : adj (back (tight r)) i with
    | false => rfl
    | true =>
      obtain ⟨c, d, hs, hcd⟩ := adj_split e
      exfalso
      have hrow := back_row hr
      have hc : IsT c := hrow c (by rw [hs]; simp)
      have hd : IsT d := hrow d (by rw [hs]; simp)
      have e2 := congrArg back hs
      rw [back_back hr] at e2
      generalize (back (tight r)).take i = A at e2
      generalize (back (tight r)).drop (i + 2) = B at e2
      have e3 : tight r = back B ++ und d :: und c :: back A := by
        rw [e2]
        simp [back]
      have hno := tight_adj h (back B).length
      rw [e3] at hno
      unfold adj at hno
      simp at hno
      exact hno (by rw [und_und hc, hcd])
  rw [← hb]
  -- draw r tight within back r, by pairs
  suffices H : ∀ (r : List Nat), Row r → ∀ t, Row t → RedS t → tight (back (t.reverse ++ r)) = tight (back ((r.foldl stepT t).reverse)) from H r h [] (fun _ z => by cases z) trivial
  intro r
  induction r with
  | nil => intro _ t _ _; simp
  | cons c r ih =>
    intro hr t ht hred
    have hc := hr c List.mem_cons_self
    have hr' : Row r := fun d hd => hr d (List.mem_cons_of_mem _ hd)
    rw [List.foldl_cons, ← ih hr' (stepT t c) (stepT_row ht hc) (step_red hred)]
    cases t with
    | nil => rfl
    | cons x s =>
      unfold stepT
      dsimp only
      split
      · rename_i e
        have hx := ht x List.mem_cons_self
        have e1 : back ((x :: s).reverse ++ c :: r) = back r ++ und c :: und x :: back s.reverse := by simp [back]
        have e2 : back (s.reverse ++ r) = back r ++ back s.reverse := by simp [back]
        rw [e1, e2]
        exact tight_cut (back_row hr') (und_T hc) (und_T hx) (by rw [und_und hx, e])
      · rw [List.reverse_cons (a := c), List.append_assoc]
        rfl

abbrev LTightC (M : Md) (k : Nat) : Prop := Cal M k "_law_tight" [true] (fun r : List Nat => [.str (tx r)]) (fun r => Row r ∧ r.length ≤ 100000) (fun r d => d = .str (tx (tight r)))
abbrev LBackC (M : Md) (k : Nat) : Prop := Cal M k "_law_back" [true] (fun r : List Nat => [.str (tx r)]) (fun r => Row r ∧ r.length ≤ 100000) (fun r d => d = .str (tx (back r)))
section
variable {M : Md} {k : Nat}
theorem at_tx {X : Cx} {Φ : Da → Prop} {r : List Nat} {i : Int} {j c : Nat} (hl : r.length ≤ 100000) (hi : i = j) (hc : r[j]? = some c) (h : Φ (sg c)) : IxW Φ (.str (tx r)) (.int i) := by
  subst hi
  exact .str (by rw [len_tx]; exact sl1 (by omega)) (atI_nat hc) h
theorem ok_ltight {f : Addr} {fd : FuncData} (F : Fun M.K "_law_tight" "_law_tight" s_ltight f fd) (cU : LUndoesC M k) (ml : M.mg "len" = none) (mm : M.mg "max" = none) :
    FnOk M.P M.w M.K M.mg M.base CX0 (k + 1) f fd ["_law_row_d"] (SpD M.K [true] (fun r : List Nat => [.str (tx r)]) (fun r => Row r ∧ r.length ≤ 100000) (fun r d => d = .str (tx (tight r)))) := by
  refine fn_ok F S_ltight rfl fun X S r0 ⟨hr0, hl0⟩ => ?_
  show DB X _ [some (.d (.str (tx r0))), none] _ _ _ _
  walk_at "go"
  refine ⟨_, by walk_at "ss", ?_⟩
  refine db_cons (ds_while S (fun m δ => ∃ (r : List Nat) (a : Nat), m = 2 * r.length - a ∧ δ = [some (.d (.str (tx r))), some (.d (.int a))] ∧ Row r ∧ r.length ≤ r0.length ∧ tight r = tight r0 ∧ RedS (r.take (a + 1))) ⟨_, r0, 0, rfl, rfl, hr0, Nat.le_refl _, rfl, ?_⟩ ?_)
  · cases r0 with
    | nil => trivial
    | cons x r => simp [RedS]
  rintro m δ ⟨r, a, rfl, rfl, hr, hl, ht, hp⟩
  have hS : ∀ l : List Nat, l.length ≤ 300000 → (tx l).length ≤ sizeLine := fun l hl => by rw [len_tx]; exact sl1 (by omega)
  walk_at "go"
  refine bw_lenS (hS r (by omega)) ?_
  rw [len_tx]
  refine .lt ⟨fun h => ?_, fun h => ?_⟩
  · have hlt : a + 1 < r.length := by have := of_decide_eq_true h; omega
    have e1 : r[a]? = some r[a] := List.getElem?_eq_getElem (by omega)
    have e2 : r[a + 1]? = some r[a + 1] := List.getElem?_eq_getElem hlt
    generalize r[a] = c at e1
    generalize r[a + 1] = d at e2
    have hc : IsT c := hr c (List.mem_of_getElem? e1)
    have hd : IsT d := hr d (List.mem_of_getElem? e2)
    walk_at "go"
    refine at_tx (X := X) (by omega) rfl e1 ?_
    walk_at "go"
    refine at_tx (X := X) (j := a + 1) (by omega) (by omega) e2 ?_
    walk_at "go"
    refine ⟨d, rfl, hd, ?_⟩
    rintro _ rfl
    refine .eqS rfl ⟨fun h => ?_, fun h => ?_⟩
    · have e : c = und d := by simpa using h
      walk_at "go"
      refine ⟨_, rfl, .str (hS r (by omega)) ?_⟩
      rw [cut_to r (by omega)]
      walk_at "go"
      refine ⟨_, rfl, .str (hS r (by omega)) ?_⟩
      rw [cut_from r (by omega)]
      walk_at "go"
      rotate_left
      · rw [len_tx, len_tx]; exact sl1 (by simp; omega)
      rw [app_tx]
      walk_at "go"
      refine bw_max S ?_
      walk_at "go"
      refine ⟨_, _, by walk_at "ss", by walk_at "ss", ?_⟩
      walk_at "go"
      have ha : adj r a = true := by unfold adj; rw [e1, e2]; simpa using e
      have e3 : (((a : Int) + 2).toNat) = a + 2 := by omega
      have e4 : ((a : Int)).toNat = a := by omega
      have hln : (r.take a ++ r.drop (a + 2)).length = r.length - 2 := by simp; omega
      have hspl : r = r.take a ++ c :: d :: r.drop (a + 2) := by
        rw [List.getElem?_eq_getElem (by omega)] at e1 e2
        rw [← Option.some.inj e1, ← Option.some.inj e2]
        rw [← List.drop_eq_getElem_cons (by omega), ← List.drop_eq_getElem_cons (by omega), List.take_append_drop]
      have hrt : Row (r.take a) := fun z hz => hr z (List.mem_of_mem_take hz)
      rw [e3, e4]
      have hmx : (if (a : Int) - 1 > 0 then (a : Int) - 1 else 0) = ((a - 1 : Nat) : Int) := by
        split <;> omega
      rw [hmx]
      refine ⟨_, ?_, r.take a ++ r.drop (a + 2), a - 1, rfl, rfl, ?_, ?_, ?_, ?_⟩
      · rw [hln]; omega
      · exact fun z hz => (List.mem_append.mp hz).elim (hrt z) fun z2 => hr z (List.mem_of_mem_drop z2)
      · omega
      · rw [← ht]
        have := tight_cut (b := r.drop (a + 2)) hrt hc hd e
        rw [← hspl] at this
        exact this.symm
      · by_cases h0 : a = 0
        · subst h0
          show RedS (List.take 1 _)
          generalize (List.take 0 r ++ List.drop (0 + 2) r) = z
          cases z with
          | nil => trivial
          | cons x z => simp [RedS]
        · rw [show a - 1 + 1 = a by omega, List.take_append_of_le_length (by simp; omega), List.take_take, Nat.min_self]
          have e5 : r.take (a + 1) = r.take a ++ [c] := by rw [List.take_add_one, e1]; rfl
          rw [e5] at hp
          clear hspl
          revert hp
          generalize r.take a = z
          intro hp
          have : ∀ z : List Nat, RedS (z ++ [c]) → RedS z := by
            intro z
            induction z with
            | nil => intro _; trivial
            | cons x z ih =>
              intro h
              cases z with
              | nil => trivial
              | cons y z => exact ⟨h.1, ih h.2⟩
          exact this z hp
    · have e : c ≠ und d := by simpa using h
      walk_at "go"
      refine ⟨_, by walk_at "ss", ?_⟩
      walk_at "go"
      refine ⟨2 * r.length - (a + 1), by omega, r, a + 1, rfl, by simp, hr, hl, ht, ?_⟩
      rw [List.take_add_one, e2]
      refine hp.app_one (fun z hz => hr z (List.mem_of_mem_take hz)) hd fun t ht' => ?_
      rw [List.take_add_one, e1] at ht'
      simp at ht'
      rw [← ht']
      exact e
  · have hge : r.length ≤ a + 1 := by have := of_decide_eq_false h; omega
    walk_at "go"
    rw [List.take_of_length_le hge] at hp
    rw [← ht, tight_of_red (red_rev hr hp)]
theorem ok_lback {f : Addr} {fd : FuncData} (F : Fun M.K "_law_back" "_law_back" s_lback f fd) (cU : LUndoesC M k) :
    FnOk M.P M.w M.K M.mg M.base CX0 (k + 1) f fd ["_law_row_d"] (SpD M.K [true] (fun r : List Nat => [.str (tx r)]) (fun r => Row r ∧ r.length ≤ 100000) (fun r d => d = .str (tx (back r)))) := by
  refine fn_ok F S_lback rfl fun X S r ⟨hr, hl⟩ => ?_
  show DB X _ [some (.d (.str (tx r))), none] _ _ _ _
  walk_at "go"
  refine de_meth PySem.F.plainAttrs_str PySem.F.slot_str_join PySem.F.type_str_join ?_
  walk_at "go"
  refine ⟨tyw_str, ?_⟩
  walk_at "go"
  refine de_lc1 S (di_str ?_) (by walk_at "dk")
  walk_at "go"
  refine .str (by rw [len_tx]; exact sl1 (by omega)) ⟨_, rfl, ?_⟩
  rw [toList_tx, chars_tx]
  refine lc_map (f := fun c => sg (und c)) (by walk_at "wp") (by simp; omega) (fun X1 S1 c hc => ?_) ?_
  · have hT := hr c (List.mem_reverse.mp hc)
    refine dg_name S1 (by walk_at "dk") ⟨_, by walk_at "ss", fun X2 S2 => ?_⟩
    walk_at "go"
    exact ⟨c, rfl, hT, fun d hd => hd⟩
  · walk_at "go"
    have e : (r.reverse.map fun c => sg (und c)) = (back r).map sg := by simp [back]
    rw [e]
    exact joinR (back r) (by simp [back]; omega) rfl
end

/-! ### pairs drawn off by chance -/
def spots (r : List Nat) : List Da := ((List.range (r.length - 1)).filter (adj r)).map fun (i : Nat) => Da.int (i : Int)
abbrev LChanceC (M : Md) (k : Nat) : Prop := Cal M k "_law_by_chance" [true, true] (fun r : List Nat => [.drw, .str (tx r)]) (fun r => Row r ∧ r.length ≤ 100000) (fun r d => d = .str (tx (tight r)))
theorem spots_mem {r : List Nat} {d : Da} (h : d ∈ spots r) : ∃ i : Nat, d = .int (i : Int) ∧ adj r i = true := by
  obtain ⟨i, hi, rfl⟩ := List.mem_map.mp h
  exact ⟨i, rfl, (List.mem_filter.mp hi).2⟩
theorem spots_nil {r : List Nat} (h : (spots r).isEmpty = true) (i : Nat) : adj r i = false := by
  cases e : adj r i with
  | false => rfl
  | true =>
    have hl := adj_lt e
    have : Da.int (i : Int) ∈ spots r := List.mem_map.mpr ⟨i, List.mem_filter.mpr ⟨List.mem_range.mpr (by omega), e⟩, rfl⟩
    rw [List.isEmpty_iff.mp h] at this
    cases this
theorem spots_len (r : List Nat) : (spots r).length ≤ r.length := by
  unfold spots
  rw [List.length_map]
  have := List.length_filter_le (adj r) (List.range (r.length - 1))
  rw [List.length_range] at this
  omega
theorem shp_spots (r : List Nat) : Shp 1 (.lst (spots r)) := .lst fun d hd => by
  obtain ⟨i, rfl, _⟩ := spots_mem hd
  exact .int _
theorem adj_at {r : List Nat} {i : Nat} (h : i + 1 < r.length) : ∃ c d, r[i]? = some c ∧ r[i + 1]? = some d ∧ adj r i = decide (c = und d) := by
  refine ⟨r[i], r[i + 1], List.getElem?_eq_getElem (by omega), List.getElem?_eq_getElem h, ?_⟩
  unfold adj
  rw [List.getElem?_eq_getElem (show i < r.length by omega), List.getElem?_eq_getElem h]
  by_cases e : r[i] = und r[i + 1] <;> simp [e]
section
variable {M : Md} {k : Nat}
theorem ok_lchance {f : Addr} {fd : FuncData} (F : Fun M.K "_law_by_chance" "_law_by_chance" s_lby_chance f fd) (cU : LUndoesC M k) (cO : OfC M k) (ml : M.mg "len" = none) (mr : M.mg "range" = none) :
    FnOk M.P M.w M.K M.mg M.base CX0 (k + 1) f fd ["_law_draws_here", "_law_row_d"] (SpD M.K [true, true] (fun r : List Nat => [.drw, .str (tx r)]) (fun r => Row r ∧ r.length ≤ 100000) (fun r d => d = .str (tx (tight r)))) := by
  refine fn_ok F S_lby_chance rfl fun X S r0 ⟨hr0, hl0⟩ => ?_
  show DB X _ [some (.d .drw), some (.d (.str (tx r0))), none, none] _ _ _ _
  have hS : ∀ l : List Nat, l.length ≤ 300000 → (tx l).length ≤ sizeLine := fun l hl => by rw [len_tx]; exact sl1 (by omega)
  refine db_cons (ds_setLc1 S (di_range1 S mr (by walk_at "dk") ?_) (by walk_at "dk") (by walk_at "dk") (by walk_at "dk"))
  walk_at "go"
  refine bw_lenS (hS r0 (by omega)) ?_
  rw [len_tx]
  walk_at "go"
  refine ⟨_, rfl, by omega, by omega, ?_⟩
  rw [show ((r0.length : Int) - 1).toNat = r0.length - 1 by omega]
  unfold rangeD
  refine lc_filter (p := adj r0) (f := fun (i : Nat) => Da.int (i : Int)) (by walk_at "wp") (by simp; omega) (fun X1 S1 i hi => ?_) ?_
  · have hlt : i + 1 < r0.length := by have := List.mem_range.mp hi; omega
    obtain ⟨c, d, e1, e2, ea⟩ := adj_at hlt
    have hd : IsT d := hr0 d (List.mem_of_getElem? e2)
    refine dg_name S1 (by walk_at "dk") ⟨_, by walk_at "ss", fun X2 S2 => ?_⟩
    rw [Int.zero_add]
    walk_at "go"
    refine at_tx (X := X2) (by omega) rfl e1 ?_
    walk_at "go"
    refine at_tx (X := X2) (j := i + 1) (by omega) (by omega) e2 ?_
    walk_at "go"
    refine ⟨d, rfl, hd, ?_⟩
    rintro _ rfl
    refine .eqS rfl ⟨?_, fun _ X3 S3 => ?_⟩
    · rw [ea]
      simp
    · walk_at "go"
      rfl
  show ∃ δ', Ss _ _ _ (some (.d (.lst (spots r0)))) δ' ∧ _
  refine ⟨_, by walk_at "ss", ?_⟩
  refine db_cons (ds_while S (fun m δ => ∃ (r : List Nat) (a : Option SD), m = r.length ∧ δ = [some (.d .drw), some (.d (.str (tx r))), some (.d (.lst (spots r))), a] ∧ Row r ∧ r.length ≤ r0.length ∧ tight r = tight r0) ⟨_, r0, _, rfl, rfl, hr0, Nat.le_refl _, rfl⟩ ?_)
  rintro m δ ⟨r, a, rfl, rfl, hr, hl, ht⟩
  walk_at "go"
  refine cmp_neNil (shp_spots r) ⟨fun h => ?_, fun h => ?_⟩
  · have hne : 1 ≤ (spots r).length := by
      cases e : spots r with
      | nil => rw [e] at h; cases h
      | cons x y => simp
    have hsl := spots_len r
    walk_at "go"
    refine ⟨_, rfl, .inl ⟨spots r, rfl, hne, by omega⟩, ?_⟩
    rintro d ⟨hd, _⟩
    obtain ⟨i, rfl, hi⟩ := spots_mem (hd _ rfl)
    refine ⟨_, by walk_at "ss", ?_⟩
    have hlt := adj_lt hi
    obtain ⟨c, d, hs, hcd⟩ := adj_split hi
    walk_at "go"
    refine ⟨_, rfl, .str (hS r (by omega)) ?_⟩
    rw [cut_to r (by omega)]
    walk_at "go"
    refine ⟨_, rfl, .str (hS r (by omega)) ?_⟩
    rw [cut_from r (by omega)]
    walk_at "go"
    rotate_left
    · rw [len_tx, len_tx]; exact sl1 (by simp; omega)
    rw [app_tx, show ((i : Int)).toNat = i by omega, show ((i : Int) + 2).toNat = i + 2 by omega]
    have hln : (r.take i ++ r.drop (i + 2)).length = r.length - 2 := by simp; omega
    have hrt : Row (r.take i) := fun z hz => hr z (List.mem_of_mem_take hz)
    have hc : IsT c := hr c (by rw [hs]; simp)
    have hd : IsT d := hr d (by rw [hs]; simp)
    have hcut : tight (r.take i ++ r.drop (i + 2)) = tight r := by
      have := tight_cut (b := r.drop (i + 2)) hrt hc hd hcd
      rw [← hs] at this
      exact this.symm
    have hr2 : Row (r.take i ++ r.drop (i + 2)) := fun z hz => (List.mem_append.mp hz).elim (hrt z) fun z2 => hr z (List.mem_of_mem_drop z2)
    generalize r.take i ++ r.drop (i + 2) = q at hln hcut hr2
    refine ⟨_, by walk_at "ss", ?_⟩
    refine db_cons (ds_setLc1 S (di_range1 S mr (by walk_at "dk") ?_) (by walk_at "dk") (by walk_at "dk") (by walk_at "dk"))
    walk_at "go"
    refine bw_lenS (hS q (by omega)) ?_
    rw [len_tx]
    walk_at "go"
    refine ⟨_, rfl, by omega, by omega, ?_⟩
    rw [show ((q.length : Int) - 1).toNat = q.length - 1 by omega]
    unfold rangeD
    refine lc_filter (p := adj q) (f := fun (i : Nat) => Da.int (i : Int)) (by walk_at "wp") (by simp; omega) (fun X1 S1 i hi => ?_) ?_
    · have hlt : i + 1 < q.length := by have := List.mem_range.mp hi; omega
      obtain ⟨c, d, e1, e2, ea⟩ := adj_at hlt
      have hd : IsT d := hr2 d (List.mem_of_getElem? e2)
      refine dg_name S1 (by walk_at "dk") ⟨_, by walk_at "ss", fun X2 S2 => ?_⟩
      rw [Int.zero_add]
      walk_at "go"
      refine at_tx (X := X2) (by omega) rfl e1 ?_
      walk_at "go"
      refine at_tx (X := X2) (j := i + 1) (by omega) (by omega) e2 ?_
      walk_at "go"
      refine ⟨d, rfl, hd, ?_⟩
      rintro _ rfl
      refine .eqS rfl ⟨?_, fun _ X3 S3 => ?_⟩
      · rw [ea]
        simp
      · walk_at "go"
        rfl
    show ∃ δ', Ss _ _ _ (some (.d (.lst (spots q)))) δ' ∧ _
    refine ⟨_, by walk_at "ss", ?_⟩
    walk_at "go"
    exact ⟨q.length, by omega, q, _, rfl, rfl, hr2, by omega, hcut.trans ht⟩
  · have he : (spots r).isEmpty = true := by simpa using h
    walk_at "go"
    rw [← ht, tight_of_adj hr fun i => spots_nil he i]
end

/-! ### the law -/
section
variable {M : Md} {X : Cx} {k : Nat} {Φ : Bool → Prop}
theorem ne_same {a b : List Nat} (h : a = b) (H : Φ false) : CmpW Φ .NotEq (.str (tx a)) (.str (tx b)) := .neS rfl (by rw [h, decide_eq_true rfl]; exact H)
theorem eq_same {a b : List Nat} (h : a = b) (H : Φ true) : CmpW Φ .Eq (.str (tx a)) (.str (tx b)) := .eqS rfl (by rw [h, decide_eq_true rfl]; exact H)
theorem tx0 : Str.ofString "" = tx [] := by decide
theorem txaB : Str.ofString "aB" = tx [97, 66] := by decide
theorem txbA : Str.ofString "bA" = tx [98, 65] := by decide
theorem chars_tx2 (r : List Nat) : chars (tx r) = r.map sg := chars_tx r
theorem row_app {a b : List Nat} (ha : Row a) (hb : Row b) : Row (a ++ b) := fun c hc => (List.mem_append.mp hc).elim (ha c) (hb c)
theorem row_sub {a b : List Nat} (ha : Row a) (h : ∀ c ∈ b, c ∈ a) : Row b := fun c hc => ha c (h c hc)
theorem zip_no {r : List Nat} (h : ∀ i, adj r i = false) {p : Nat × Nat} (hp : p ∈ r.zip (r.drop 1)) : p.1 ≠ und p.2 := by
  obtain ⟨i, hi⟩ := List.getElem?_of_mem hp
  rw [List.getElem?_zip_eq_some, List.getElem?_drop] at hi
  have := h i
  unfold adj at this
  rw [hi.1, show i + 1 = 1 + i by omega, hi.2] at this
  simpa using this
theorem ok_law {f : Addr} {fd : FuncData} (F : Fun M.K "law" "law" s_law f fd) (cDs : DrawsC M k) (cF : FloorC M k) (cR : RowC M k) (cT : TightC M k) (cLT : LTightC M k) (cCh : LChanceC M k) (cU : LUndoesC M k) (cD : DrawC M k) (cO : OfC M k) (cTn : TurnsC M k) (cB : BackC M k) (cLB : LBackC M k)
    (cTk : CalK M k "tight" ["row"] [true] (fun r : List Nat => [.str (tx r)]) (fun r => Row r ∧ r.length ≤ 100000) (fun r d => d = .str (tx (tight r))))
    (cBk : CalK M k "back" ["row"] [true] (fun r : List Nat => [.str (tx r)]) (fun r => Row r ∧ r.length ≤ 100000) (fun r d => d = .str (tx (back r))))
    (ml : M.mg "len" = none) (mr : M.mg "range" = none) (mn : M.mg "min" = none) (mx : M.mg "max" = none) (mz : M.mg "zip" = none) :
    FnOk M.P M.w M.K M.mg M.base CX0 (k + 1) f fd ["_law_script"] (SpD M.K [true] (fun ns : List Int => [.scr ns]) (fun ns => ns.length ≤ 63) (fun _ d => d = .bl true)) := by
  refine fn_ok F S_law rfl fun X S ns hns => ?_
  show DB X _ [some (.d (.scr ns)), none, none, none, none, none, none, none, none, none, none] _ _ _ _
  have hS : ∀ l : List Nat, l.length ≤ 300000 → (tx l).length ≤ sizeLine := fun l hl => by rw [len_tx]; exact sl1 (by omega)
  refine db_cons (ds_for S (di_range1 S mr (by walk_at "dk") ?_))
  walk_at "go"
  refine bw_lenC ?_
  walk_at "go"
  refine bw_min S ?_
  walk_at "go"
  refine bw_max S ?_
  obtain ⟨n, hn, hn2⟩ : ∃ n : Nat, (if (if (ns.length : Int) < 20 then (ns.length : Int) else 20) > 1 then (if (ns.length : Int) < 20 then (ns.length : Int) else 20) else 1) = (n : Int) ∧ n ≤ 20 := by
    by_cases h1 : (ns.length : Int) < 20
    · rw [if_pos h1]
      by_cases h2 : (ns.length : Int) > 1
      · exact ⟨ns.length, by rw [if_pos h2], by omega⟩
      · exact ⟨1, by rw [if_neg h2]; rfl, by omega⟩
    · rw [if_neg h1]
      exact ⟨20, by decide, by omega⟩
  rw [hn]
  refine ⟨_, rfl, by omega, by omega, ?_⟩
  refine ⟨fun i δ => ∃ a b c d e f g h i j : Option SD, δ = [some (.d (.scr ns)), a, b, c, d, e, f, g, h, i, j], ⟨_, _, _, _, _, _, _, _, _, _, rfl⟩, ?_, ?_⟩
  · rintro i d δ' hi ⟨a1, a2, a3, a4, a5, a6, a7, a8, a9, a10, rfl⟩
    obtain ⟨hin, rfl⟩ := rangeD_get hi
    have hin2 : i < 20 := by omega
    refine ⟨_, dg_name S (by walk_at "dk") ⟨_, by walk_at "ss", ?_⟩⟩
    walk_at "go"
    refine ⟨(ns, 0 + (i : Int)), rfl, ⟨hns, by omega, by omega⟩, ?_⟩
    rintro _ rfl
    walk_at "go"
    refine ⟨_, by walk_at "ss", ?_⟩
    walk_at "go"
    refine ⟨8, rfl, ⟨by decide, by decide⟩, ?_⟩
    rintro _ ⟨fl, rfl, hf, _⟩
    refine ⟨_, by walk_at "ss", ?_⟩
    walk_at "go"
    refine ⟨(fl, 38), rfl, ⟨hf, by show (0 : Int) ≤ 38; decide, by show (38 : Int) ≤ 1000; decide⟩, ?_⟩
    rintro _ ⟨r, rfl, hro, hrl⟩
    dsimp only at hro hrl
    have hrl : r.length ≤ 38 := by omega
    have hr := hro.row hf
    have htl := tight_len r
    have htr := tight_row hr
    refine ⟨_, by walk_at "ss", ?_⟩
    walk_at "go"
    refine ⟨r, rfl, ⟨hr, by omega⟩, ?_⟩
    rintro _ rfl
    walk_at "go"
    refine ⟨_, by walk_at "ss", ?_⟩
    walk_at "go"
    refine ⟨r, rfl, ⟨hr, by omega⟩, ?_⟩
    rintro _ rfl
    walk_at "go"
    refine ne_same rfl ?_
    walk_at "go"
    refine ⟨r, rfl, ⟨hr, by omega⟩, ?_⟩
    rintro _ rfl
    walk_at "go"
    refine ne_same rfl ?_
    walk_at "go"
    refine ⟨tight r, rfl, ⟨htr, by omega⟩, ?_⟩
    rintro _ rfl
    walk_at "go"
    refine ne_same (tight_tight r) ?_
    walk_at "go"
    refine de_lc1 S (di_zipX S mz (by walk_at "dk") ?_) (by walk_at "dk")
    walk_at "go"
    refine ⟨_, rfl, .str (hS _ (by omega)) ?_⟩
    rw [cut_from _ (by omega)]
    refine ⟨_, _, rfl, rfl, ?_⟩
    have ez : zipD (chars (tx (tight r))) (chars (tx ((tight r).drop (1 : Int).toNat))) = ((tight r).zip ((tight r).drop 1)).map fun p => Da.tup [sg p.1, sg p.2] := by
      rw [chars_tx2, chars_tx2]
      unfold zipD
      rw [List.zip_map, List.map_map]
      rfl
    rw [ez]
    refine lc_filter (p := fun p => decide (p.1 = und p.2)) (f := fun _ => Da.int 1) (by walk_at "wp") (by simp; omega) (fun X1 S1 p hp => ?_) ?_
    · refine dg_tup S1 (dgs_cons (dg_name S1 (by walk_at "dk") ⟨_, by walk_at "ss", dgs_cons (dg_name S1 (by walk_at "dk") ⟨_, by walk_at "ss", dgs_nil fun X2 S2 => ?_⟩)⟩))
      walk_at "go"
      refine ⟨p.2, rfl, htr _ (List.mem_of_mem_drop (List.of_mem_zip hp).2), ?_⟩
      rintro _ rfl
      walk_at "go"
      refine .eqS rfl ⟨?_, fun _ X3 S3 => ?_⟩
      · by_cases e : p.1 = und p.2
        · rw [e]; simp
        · simp [e, sg, tx]
      · walk_at "go"
        rfl
    have ef : ((tight r).zip ((tight r).drop 1)).filter (fun p => decide (p.1 = und p.2)) = [] := List.filter_eq_nil_iff.mpr fun p hp => by simpa using zip_no (tight_adj hr) hp
    rw [ef]
    walk_at "go"
    refine cmp_neNil (n := 1) (.lst fun d hd => by cases hd) ?_
    walk_at "go"
    refine bw_lenS (hS r (by omega)) ?_
    rw [len_tx]
    walk_at "go"
    refine ⟨_, rfl, ⟨by omega, by omega⟩, ?_⟩
    rintro _ ⟨at_, rfl, ha0, ha1⟩
    walk_at "go"
    refine ⟨fl, rfl, hf, ?_⟩
    rintro _ rfl
    walk_at "go"
    have htf := turnsF_len fl
    have hfl := hf.len
    have hfp := hf.pos
    refine ⟨_, rfl, .inr ⟨turnsF fl, rfl, by omega, by omega⟩, ?_⟩
    rintro d ⟨_, hd⟩
    obtain ⟨c, hc, rfl⟩ := hd _ rfl
    have hcT := turnsF_T hf hc
    have huT := und_T hcT
    refine ⟨_, _, by walk_at "ss", by walk_at "ss", ?_⟩
    have hat : Row (r.take at_.toNat) := row_sub hr fun c hc => List.mem_of_mem_take hc
    have had : Row (r.drop at_.toNat) := row_sub hr fun c hc => List.mem_of_mem_drop hc
    have hsp : r.take at_.toNat ++ r.drop at_.toNat = r := List.take_append_drop _ _
    have ht1 : (tight (r.take at_.toNat)).length ≤ 38 := Nat.le_trans (tight_len _) (by rw [List.length_take]; omega)
    have ht2 : (tight (r.drop at_.toNat)).length ≤ 38 := Nat.le_trans (tight_len _) (by rw [List.length_drop]; omega)
    have hc1 : Row [c] := fun z hz => by rw [List.mem_singleton.mp hz]; exact hcT
    have hu1 : Row [und c] := fun z hz => by rw [List.mem_singleton.mp hz]; exact huT
    walk_at "go"
    refine ⟨_, rfl, .str (hS r (by omega)) ?_⟩
    rw [cut_to r ha0]
    walk_at "go"
    rotate_left
    · rw [len_tx, len_tx]; exact sl1 (by simp; omega)
    rw [app_tx]
    walk_at "go"
    refine ⟨c, rfl, hcT, ?_⟩
    rintro _ rfl
    walk_at "go"
    rotate_left
    · rw [len_tx, len_tx]; exact sl1 (by simp; omega)
    rw [app_tx]
    walk_at "go"
    refine ⟨_, rfl, .str (hS r (by omega)) ?_⟩
    rw [cut_from r ha0]
    walk_at "go"
    rotate_left
    · rw [len_tx, len_tx]; exact sl1 (by simp; omega)
    rw [app_tx]
    walk_at "go"
    refine ⟨_, rfl, ⟨row_app (row_app (row_app hat hc1) hu1) had, by simp; omega⟩, ?_⟩
    rintro _ rfl
    walk_at "go"
    refine ne_same ?_ ?_
    · have e : r.take at_.toNat ++ [c] ++ [und c] ++ r.drop at_.toNat = r.take at_.toNat ++ c :: und c :: r.drop at_.toNat := by simp
      rw [e, tight_cut hat hcT huT (und_und hcT).symm, hsp]
    walk_at "go"
    refine ⟨_, rfl, .str (hS r (by omega)) ?_⟩
    rw [cut_to r ha0]
    walk_at "go"
    refine ⟨_, rfl, ⟨hat, by simp; omega⟩, ?_⟩
    rintro _ rfl
    walk_at "go"
    refine ⟨_, rfl, .str (hS r (by omega)) ?_⟩
    rw [cut_from r ha0]
    walk_at "go"
    refine ⟨_, rfl, ⟨had, by simp; omega⟩, ?_⟩
    rintro _ rfl
    walk_at "go"
    walk_at "go"
    rotate_left
    · rw [len_tx, len_tx]; exact sl1 (by omega)
    rw [app_tx]
    walk_at "go"
    refine ⟨_, rfl, ⟨row_app (tight_row hat) (tight_row had), by simp; omega⟩, ?_⟩
    rintro _ rfl
    walk_at "go"
    refine ne_same (by rw [tight_parts hat had, hsp]) ?_
    walk_at "go"
    refine ⟨r, rfl, ⟨hr, by omega⟩, ?_⟩
    rintro _ rfl
    walk_at "go"
    refine ⟨r, rfl, ⟨hr, by omega⟩, ?_⟩
    rintro _ rfl
    walk_at "go"
    refine ne_same rfl ?_
    have hbl := back_len r
    have hbr := back_row hr
    walk_at "go"
    refine ⟨r, rfl, ⟨hr, by omega⟩, ?_⟩
    rintro _ rfl
    walk_at "go"
    refine ⟨back r, rfl, ⟨hbr, by omega⟩, ?_⟩
    rintro _ rfl
    walk_at "go"
    refine ne_same (back_back hr) ?_
    walk_at "go"
    refine ⟨r, rfl, ⟨hr, by omega⟩, ?_⟩
    rintro _ rfl
    walk_at "go"
    refine ⟨back r, rfl, ⟨hbr, by omega⟩, ?_⟩
    rintro _ rfl
    walk_at "go"
    refine ⟨tight r, rfl, ⟨htr, by omega⟩, ?_⟩
    rintro _ rfl
    walk_at "go"
    refine ne_same (tight_back hr) ?_
    walk_at "go"
    refine ⟨_, rfl, .str (hS r (by omega)) ?_⟩
    rw [cut_to r (by omega)]
    have hhr : Row (r.take (20 : Int).toNat) := row_sub hr fun c hc => List.mem_of_mem_take hc
    have hhl : (r.take (20 : Int).toNat).length ≤ 38 := by simp; omega
    generalize r.take (20 : Int).toNat = q at hhr hhl
    have hql := back_len q
    have hqr := back_row hhr
    refine ⟨_, by walk_at "ss", ?_⟩
    walk_at "go"
    refine ⟨q, rfl, ⟨hhr, by omega⟩, ?_⟩
    rintro _ rfl
    walk_at "go"
    rotate_left
    · rw [len_tx, len_tx]; exact sl1 (by omega)
    rw [app_tx]
    walk_at "go"
    refine ⟨_, rfl, ⟨row_app hhr hqr, by simp; omega⟩, ?_⟩
    rintro _ rfl
    walk_at "go"
    rw [tx0]
    refine ne_same (tight_self_back hhr) ?_
    walk_at "go"
    refine de_callK1 S cTk (by walk_at "dk") ?_
    walk_at "go"
    refine de_callK1 S cBk (by walk_at "dk") ?_
    walk_at "go"
    refine ⟨q, rfl, ⟨hhr, by omega⟩, ?_⟩
    rintro _ rfl
    walk_at "go"
    rotate_left
    · rw [len_tx, len_tx]; exact sl1 (by omega)
    rw [app_tx]
    walk_at "go"
    refine ⟨_, rfl, ⟨row_app hqr hhr, by simp; omega⟩, ?_⟩
    rintro _ rfl
    walk_at "go"
    refine ne_same (by have := tight_self_back hqr; rwa [back_back hhr] at this) ?_
    walk_at "go"
    exact ⟨_, _, _, _, _, _, _, _, _, _, rfl⟩
  · rintro δ' ⟨a1, a2, a3, a4, a5, a6, a7, a8, a9, a10, rfl⟩
    walk_at "go"
    refine de_and ?_
    walk_at "go"
    rw [tx0]
    refine ⟨[], rfl, ⟨row_nil, by decide⟩, ?_⟩
    rintro _ rfl
    walk_at "go"
    refine eq_same rfl ?_
    refine ⟨_, rfl, fun _ => ?_, fun z => by cases z⟩
    refine de_one ?_
    walk_at "go"
    rw [txaB]
    refine ⟨[97, 66], rfl, ⟨fun c hc => by unfold IsT; simp at hc; omega, by decide⟩, ?_⟩
    rintro _ rfl
    walk_at "go"
    rw [txbA]
    refine eq_same (by decide) ?_
    rfl
end

theorem ends {l : PySem.W.OpenLaw} {w : World} {K : PySem.W.Frag} {h : Heap} {mg : Str → Option Value} {fa : Addr} (X : K.In h) (G : h.Ns mainGlobals mg) (hfa : mg "law" = some (.ref fa))
    {f0 : Addr} {od0 an0 : Option Addr} {sl0 : Array (Option Value)} {oc0 kV0 dc0 pm0 cd0 ct0 : Value}
    {f1 : Addr} {od1 an1 : Option Addr} {sl1 : Array (Option Value)} {oc1 kV1 dc1 pm1 cd1 ct1 : Value}
    {f2 : Addr} {od2 an2 : Option Addr} {sl2 : Array (Option Value)} {oc2 kV2 dc2 pm2 cd2 ct2 : Value}
    {f3 : Addr} {od3 an3 : Option Addr} {sl3 : Array (Option Value)} {oc3 kV3 dc3 pm3 cd3 ct3 : Value}
    {f4 : Addr} {od4 an4 : Option Addr} {sl4 : Array (Option Value)} {oc4 kV4 dc4 pm4 cd4 ct4 : Value}
    {f5 : Addr} {od5 an5 : Option Addr} {sl5 : Array (Option Value)} {oc5 kV5 dc5 pm5 cd5 ct5 : Value}
    {f6 : Addr} {od6 an6 : Option Addr} {sl6 : Array (Option Value)} {oc6 kV6 dc6 pm6 cd6 ct6 : Value}
    {f7 : Addr} {od7 an7 : Option Addr} {sl7 : Array (Option Value)} {oc7 kV7 dc7 pm7 cd7 ct7 : Value}
    {f8 : Addr} {od8 an8 : Option Addr} {sl8 : Array (Option Value)} {oc8 kV8 dc8 pm8 cd8 ct8 : Value}
    {f9 : Addr} {od9 an9 : Option Addr} {sl9 : Array (Option Value)} {oc9 kV9 dc9 pm9 cd9 ct9 : Value}
    {f10 : Addr} {od10 an10 : Option Addr} {sl10 : Array (Option Value)} {oc10 kV10 dc10 pm10 cd10 ct10 : Value}
    {f11 : Addr} {od11 an11 : Option Addr} {sl11 : Array (Option Value)} {oc11 kV11 dc11 pm11 cd11 ct11 : Value}
    {f12 : Addr} {od12 an12 : Option Addr} {sl12 : Array (Option Value)} {oc12 kV12 dc12 pm12 cd12 ct12 : Value}
    {f13 : Addr} {od13 an13 : Option Addr} {sl13 : Array (Option Value)} {oc13 kV13 dc13 pm13 cd13 ct13 : Value}
    {t0 : Tok} (g0 : PySem.W.nsIn K mainGlobals "LETTERS" = some (some (.str lettersS t0)))
    {t1 : Tok} (g1 : PySem.W.nsIn K mainGlobals "GREAT" = some (some (.str greatS t1)))
    (a0 : PySem.W.nsIn K mainGlobals "undoes" = some (some (.ref f0))) (l0 : K.lookup f0 = some ⟨oc0, od0, .func (PySem.W.fnOf "undoes" "undoes" (defArgs s_undoes) (defBody s_undoes) (defScope s_undoes) .none kV0 dc0 pm0 an0 cd0 ct0), sl0⟩) (c0 : PySem.W.codeIn K cd0 "undoes" = true) (k0 : PySem.W.keepIn K (.ref f0) = true)
    (a1 : PySem.W.nsIn K mainGlobals "tight" = some (some (.ref f1))) (l1 : K.lookup f1 = some ⟨oc1, od1, .func (PySem.W.fnOf "tight" "tight" (defArgs s_tight) (defBody s_tight) (defScope s_tight) .none kV1 dc1 pm1 an1 cd1 ct1), sl1⟩) (c1 : PySem.W.codeIn K cd1 "tight" = true) (k1 : PySem.W.keepIn K (.ref f1) = true)
    (a2 : PySem.W.nsIn K mainGlobals "back" = some (some (.ref f2))) (l2 : K.lookup f2 = some ⟨oc2, od2, .func (PySem.W.fnOf "back" "back" (defArgs s_back) (defBody s_back) (defScope s_back) .none kV2 dc2 pm2 an2 cd2 ct2), sl2⟩) (c2 : PySem.W.codeIn K cd2 "back" = true) (k2 : PySem.W.keepIn K (.ref f2) = true)
    (a3 : PySem.W.nsIn K mainGlobals "_law_undoes" = some (some (.ref f3))) (l3 : K.lookup f3 = some ⟨oc3, od3, .func (PySem.W.fnOf "_law_undoes" "_law_undoes" (defArgs s_lundoes) (defBody s_lundoes) (defScope s_lundoes) .none kV3 dc3 pm3 an3 cd3 ct3), sl3⟩) (c3 : PySem.W.codeIn K cd3 "_law_undoes" = true) (k3 : PySem.W.keepIn K (.ref f3) = true)
    (a4 : PySem.W.nsIn K mainGlobals "_law_draw" = some (some (.ref f4))) (l4 : K.lookup f4 = some ⟨oc4, od4, .func (PySem.W.fnOf "_law_draw" "_law_draw" (defArgs s_ldraw) (defBody s_ldraw) (defScope s_ldraw) .none kV4 dc4 pm4 an4 cd4 ct4), sl4⟩) (c4 : PySem.W.codeIn K cd4 "_law_draw" = true) (k4 : PySem.W.keepIn K (.ref f4) = true)
    (a5 : PySem.W.nsIn K mainGlobals "_law_of" = some (some (.ref f5))) (l5 : K.lookup f5 = some ⟨oc5, od5, .func (PySem.W.fnOf "_law_of" "_law_of" (defArgs s_lof) (defBody s_lof) (defScope s_lof) .none kV5 dc5 pm5 an5 cd5 ct5), sl5⟩) (c5 : PySem.W.codeIn K cd5 "_law_of" = true) (k5 : PySem.W.keepIn K (.ref f5) = true)
    (a6 : PySem.W.nsIn K mainGlobals "_law_draws" = some (some (.ref f6))) (l6 : K.lookup f6 = some ⟨oc6, od6, .func (PySem.W.fnOf "_law_draws" "_law_draws" (defArgs s_ldraws) (defBody s_ldraws) (defScope s_ldraws) .none kV6 dc6 pm6 an6 cd6 ct6), sl6⟩) (c6 : PySem.W.codeIn K cd6 "_law_draws" = true) (k6 : PySem.W.keepIn K (.ref f6) = true)
    (a7 : PySem.W.nsIn K mainGlobals "_law_floor" = some (some (.ref f7))) (l7 : K.lookup f7 = some ⟨oc7, od7, .func (PySem.W.fnOf "_law_floor" "_law_floor" (defArgs s_lfloor) (defBody s_lfloor) (defScope s_lfloor) .none kV7 dc7 pm7 an7 cd7 ct7), sl7⟩) (c7 : PySem.W.codeIn K cd7 "_law_floor" = true) (k7 : PySem.W.keepIn K (.ref f7) = true)
    (a8 : PySem.W.nsIn K mainGlobals "_law_turns" = some (some (.ref f8))) (l8 : K.lookup f8 = some ⟨oc8, od8, .func (PySem.W.fnOf "_law_turns" "_law_turns" (defArgs s_lturns) (defBody s_lturns) (defScope s_lturns) .none kV8 dc8 pm8 an8 cd8 ct8), sl8⟩) (c8 : PySem.W.codeIn K cd8 "_law_turns" = true) (k8 : PySem.W.keepIn K (.ref f8) = true)
    (a9 : PySem.W.nsIn K mainGlobals "_law_row" = some (some (.ref f9))) (l9 : K.lookup f9 = some ⟨oc9, od9, .func (PySem.W.fnOf "_law_row" "_law_row" (defArgs s_lrow) (defBody s_lrow) (defScope s_lrow) .none kV9 dc9 pm9 an9 cd9 ct9), sl9⟩) (c9 : PySem.W.codeIn K cd9 "_law_row" = true) (k9 : PySem.W.keepIn K (.ref f9) = true)
    (a10 : PySem.W.nsIn K mainGlobals "_law_tight" = some (some (.ref f10))) (l10 : K.lookup f10 = some ⟨oc10, od10, .func (PySem.W.fnOf "_law_tight" "_law_tight" (defArgs s_ltight) (defBody s_ltight) (defScope s_ltight) .none kV10 dc10 pm10 an10 cd10 ct10), sl10⟩) (c10 : PySem.W.codeIn K cd10 "_law_tight" = true) (k10 : PySem.W.keepIn K (.ref f10) = true)
    (a11 : PySem.W.nsIn K mainGlobals "_law_back" = some (some (.ref f11))) (l11 : K.lookup f11 = some ⟨oc11, od11, .func (PySem.W.fnOf "_law_back" "_law_back" (defArgs s_lback) (defBody s_lback) (defScope s_lback) .none kV11 dc11 pm11 an11 cd11 ct11), sl11⟩) (c11 : PySem.W.codeIn K cd11 "_law_back" = true) (k11 : PySem.W.keepIn K (.ref f11) = true)
    (a12 : PySem.W.nsIn K mainGlobals "_law_by_chance" = some (some (.ref f12))) (l12 : K.lookup f12 = some ⟨oc12, od12, .func (PySem.W.fnOf "_law_by_chance" "_law_by_chance" (defArgs s_lby_chance) (defBody s_lby_chance) (defScope s_lby_chance) .none kV12 dc12 pm12 an12 cd12 ct12), sl12⟩) (c12 : PySem.W.codeIn K cd12 "_law_by_chance" = true) (k12 : PySem.W.keepIn K (.ref f12) = true)
    (a13 : PySem.W.nsIn K mainGlobals "law" = some (some (.ref f13))) (l13 : K.lookup f13 = some ⟨oc13, od13, .func (PySem.W.fnOf "law" "law" (defArgs s_law) (defBody s_law) (defScope s_law) .none kV13 dc13 pm13 an13 cd13 ct13), sl13⟩) (c13 : PySem.W.codeIn K cd13 "law" = true) (k13 : PySem.W.keepIn K (.ref f13) = true)
    (z0 : PySem.W.nsIn K mainGlobals "len" = some none)
    (z1 : PySem.W.nsIn K mainGlobals "range" = some none)
    (z2 : PySem.W.nsIn K mainGlobals "min" = some none)
    (z3 : PySem.W.nsIn K mainGlobals "max" = some none)
    (z4 : PySem.W.nsIn K mainGlobals "zip" = some none)
    (z5 : PySem.W.nsIn K mainGlobals "tuple" = some none)
    (z6 : PySem.W.nsIn K mainGlobals "int" = some none)
    : ∃ fd : FuncData, (∀ (s : Shared) (v : Value), BindsTo s fd ⟨[v], []⟩ [("_law_script", v)]) ∧ ∀ base : Heap, K.In base → base.Ns mainGlobals mg → FnOk l.prog w K mg base CX0 4 fa fd ["_law_script"]
        (fun vs H Q _ => ∃ (a : Addr) (ns : List Int), vs = [.ref a] ∧ SqL K H a (ns.map V.int) ∧ ns.length ≤ 63 ∧ ∀ H1, Q (.bl true) H1) := by
  have e := hfa.symm.trans (PySem.W.mg_of X G a13)
  cases e
  have F0 := fun_mk (st := s_undoes) l0 c0 k0
  have b0 := F0.binds (ps := ["turn"]) fun _ _ _ _ _ _ us hl => match us, hl with | [_], _ => rfl
  have m0 := PySem.W.mg_of X G a0
  have F1 := fun_mk (st := s_tight) l1 c1 k1
  have b1 := F1.binds (ps := ["row"]) fun _ _ _ _ _ _ us hl => match us, hl with | [_], _ => rfl
  have m1 := PySem.W.mg_of X G a1
  have F2 := fun_mk (st := s_back) l2 c2 k2
  have b2 := F2.binds (ps := ["row"]) fun _ _ _ _ _ _ us hl => match us, hl with | [_], _ => rfl
  have m2 := PySem.W.mg_of X G a2
  have F3 := fun_mk (st := s_lundoes) l3 c3 k3
  have b3 := F3.binds (ps := ["_law_turn"]) fun _ _ _ _ _ _ us hl => match us, hl with | [_], _ => rfl
  have m3 := PySem.W.mg_of X G a3
  have F4 := fun_mk (st := s_ldraw) l4 c4 k4
  have b4 := F4.binds (ps := ["_law_draws_here", "_law_many"]) fun _ _ _ _ _ _ us hl => match us, hl with | [_, _], _ => rfl
  have m4 := PySem.W.mg_of X G a4
  have F5 := fun_mk (st := s_lof) l5 c5 k5
  have b5 := F5.binds (ps := ["_law_draws_here", "_law_some"]) fun _ _ _ _ _ _ us hl => match us, hl with | [_, _], _ => rfl
  have m5 := PySem.W.mg_of X G a5
  have F6 := fun_mk (st := s_ldraws) l6 c6 k6
  have b6 := F6.binds (ps := ["_law_script", "_law_k"]) fun _ _ _ _ _ _ us hl => match us, hl with | [_, _], _ => rfl
  have m6 := PySem.W.mg_of X G a6
  have F7 := fun_mk (st := s_lfloor) l7 c7 k7
  have b7 := F7.binds (ps := ["_law_draws_here", "_law_many"]) fun _ _ _ _ _ _ us hl => match us, hl with | [_, _], _ => rfl
  have m7 := PySem.W.mg_of X G a7
  have F8 := fun_mk (st := s_lturns) l8 c8 k8
  have b8 := F8.binds (ps := ["_law_floor_here"]) fun _ _ _ _ _ _ us hl => match us, hl with | [_], _ => rfl
  have m8 := PySem.W.mg_of X G a8
  have F9 := fun_mk (st := s_lrow) l9 c9 k9
  have b9 := F9.binds (ps := ["_law_draws_here", "_law_floor_here", "_law_many"]) fun _ _ _ _ _ _ us hl => match us, hl with | [_, _, _], _ => rfl
  have m9 := PySem.W.mg_of X G a9
  have F10 := fun_mk (st := s_ltight) l10 c10 k10
  have b10 := F10.binds (ps := ["_law_row_d"]) fun _ _ _ _ _ _ us hl => match us, hl with | [_], _ => rfl
  have m10 := PySem.W.mg_of X G a10
  have F11 := fun_mk (st := s_lback) l11 c11 k11
  have b11 := F11.binds (ps := ["_law_row_d"]) fun _ _ _ _ _ _ us hl => match us, hl with | [_], _ => rfl
  have m11 := PySem.W.mg_of X G a11
  have F12 := fun_mk (st := s_lby_chance) l12 c12 k12
  have b12 := F12.binds (ps := ["_law_draws_here", "_law_row_d"]) fun _ _ _ _ _ _ us hl => match us, hl with | [_, _], _ => rfl
  have m12 := PySem.W.mg_of X G a12
  have F13 := fun_mk (st := s_law) l13 c13 k13
  have n_len := PySem.W.mg_none_of X G z0
  have n_range := PySem.W.mg_none_of X G z1
  have n_min := PySem.W.mg_none_of X G z2
  have n_max := PySem.W.mg_none_of X G z3
  have n_zip := PySem.W.mg_none_of X G z4
  have n_tuple := PySem.W.mg_none_of X G z5
  have n_int := PySem.W.mg_none_of X G z6
  have s_LETTERS := PySem.W.mg_of X G g0
  have s_GREAT := PySem.W.mg_of X G g1
  refine ⟨PySem.W.fnOf "law" "law" (defArgs s_law) (defBody s_law) (defScope s_law) .none kV13 dc13 pm13 an13 cd13 ct13, fun s v => .of_eq rfl, fun base _ _ => ?_⟩
  let M : Md := ⟨l.prog, w, K, mg, base⟩
  have cU : UndoesC M 1 := cal_mk (ok_undoes (M := M) (k := 0) F0 ⟨_, s_LETTERS⟩ ⟨_, s_GREAT⟩) m0 k0 b0
  have cT : TightC M 2 := cal_mk (ok_tight (M := M) (k := 1) F1 cU) m1 k1 b1
  have cB : BackC M 2 := cal_mk (ok_back (M := M) (k := 1) F2 cU) m2 k2 b2
  have cLU : LUndoesC M 1 := cal_mk (ok_lundoes (M := M) (k := 0) F3) m3 k3 b3
  have cD : DrawC M 1 := cal_mk (ok_ldraw (M := M) (k := 0) F4) m4 k4 b4
  have cO : OfC M 2 := cal_mk (ok_lof (M := M) (k := 1) F5 cD n_len) m5 k5 b5
  have cDs : DrawsC M 1 := cal_mk (ok_ldraws (M := M) (k := 0) F6 n_len n_int) m6 k6 b6
  have cF : FloorC M 3 := cal_mk (ok_lfloor (M := M) (k := 2) F7 (cD.mono (by decide)) cO n_tuple) m7 k7 b7
  have cTn : TurnsC M 1 := cal_mk (ok_lturns (M := M) (k := 0) F8) m8 k8 b8
  have cR : RowC M 3 := cal_mk (ok_lrow (M := M) (k := 2) F9 (cD.mono (by decide)) cO (cTn.mono (by decide)) (cLU.mono (by decide)) n_len n_range) m9 k9 b9
  have cLT : LTightC M 2 := cal_mk (ok_ltight (M := M) (k := 1) F10 cLU n_len n_max) m10 k10 b10
  have cLB : LBackC M 2 := cal_mk (ok_lback (M := M) (k := 1) F11 cLU) m11 k11 b11
  have cCh : LChanceC M 3 := cal_mk (ok_lchance (M := M) (k := 2) F12 (cLU.mono (by decide)) cO n_len n_range) m12 k12 b12
  have kT := calk_mk (M := M) (ks := ["row"]) (ok_tight (M := M) (k := 1) F1 cU) m1 k1 (by intro s us ws _ hl; match us, ws, hl with | [], [_], _ => exact .of_eq rfl | [_], [], _ => exact .of_eq rfl)
  have kB := calk_mk (M := M) (ks := ["row"]) (ok_back (M := M) (k := 1) F2 cU) m2 k2 (by intro s us ws _ hl; match us, ws, hl with | [], [_], _ => exact .of_eq rfl | [_], [], _ => exact .of_eq rfl)
  exact law_imp (α := Unit) (M := M) (ok_law (M := M) (k := 3) F13 (cDs.mono (by decide)) (cF.mono (by decide)) (cR.mono (by decide)) (cT.mono (by decide)) (cLT.mono (by decide)) (cCh.mono (by decide)) (cLU.mono (by decide)) (cD.mono (by decide)) (cO.mono (by decide)) (cTn.mono (by decide)) (cB.mono (by decide)) (cLB.mono (by decide)) (kT.mono (by decide)) (kB.mono (by decide)) n_len n_range n_min n_max n_zip) fun _ _ h => h
end My
open PySem PySem.W PyProof.Rows
set_option maxHeartbeats 0 in
theorem PySem.Challenge.cw_liftcord_k02_whole_drawn_tight_whichever_holds : PySem.Challenge.rw_liftcord_k02_whole_drawn_tight_whichever.Holds := by
  w_on; o_law; k_head; (case hw => w_witness2)
  k_fill
  refine L2.walk_of (l := PySem.Challenge.rw_liftcord_k02_whole_drawn_tight_whichever) (n := 63) (k := 4) (x := "_law_script") (CX := fun _ => L2.CX0) (sp := fun w => fun vs H Q _ => ∃ (a : Addr) (ns : List Int), vs = [.ref a] ∧ L2.SqL _ H a (ns.map L2.V.int) ∧ ns.length ≤ 63 ∧ ∀ H1, Q (.bl true) H1) rfl (by decide) rfl ⟨rfl, by decide, by decide⟩ (fun w h Y => PySem.W.kIn_of Y) ?F (fun _ _ a ns hl _ hS => ⟨a, ns, rfl, hS, hl, fun _ => rfl⟩) (fun _ _ _ _ _ h => h)
  case F =>
    intro w mg fa h KX G hmg
    refine' My.ends KX G hmg ?my_g0 ?my_g1 ?my_a0 ?my_l0 ?my_c0 ?my_k0 ?my_a1 ?my_l1 ?my_c1 ?my_k1 ?my_a2 ?my_l2 ?my_c2 ?my_k2 ?my_a3 ?my_l3 ?my_c3 ?my_k3 ?my_a4 ?my_l4 ?my_c4 ?my_k4 ?my_a5 ?my_l5 ?my_c5 ?my_k5 ?my_a6 ?my_l6 ?my_c6 ?my_k6 ?my_a7 ?my_l7 ?my_c7 ?my_k7 ?my_a8 ?my_l8 ?my_c8 ?my_k8 ?my_a9 ?my_l9 ?my_c9 ?my_k9 ?my_a10 ?my_l10 ?my_c10 ?my_k10 ?my_a11 ?my_l11 ?my_c11 ?my_k11 ?my_a12 ?my_l12 ?my_c12 ?my_k12 ?my_a13 ?my_l13 ?my_c13 ?my_k13 ?my_z0 ?my_z1 ?my_z2 ?my_z3 ?my_z4 ?my_z5 ?my_z6
    (case my_g0 => k_is)
    (case my_g1 => k_is)
    (case my_a0 => k_is)
    (case my_l0 => k_is)
    (case my_c0 => k_is)
    (case my_k0 => k_is)
    (case my_a1 => k_is)
    (case my_l1 => k_is)
    (case my_c1 => k_is)
    (case my_k1 => k_is)
    (case my_a2 => k_is)
    (case my_l2 => k_is)
    (case my_c2 => k_is)
    (case my_k2 => k_is)
    (case my_a3 => k_is)
    (case my_l3 => k_is)
    (case my_c3 => k_is)
    (case my_k3 => k_is)
    (case my_a4 => k_is)
    (case my_l4 => k_is)
    (case my_c4 => k_is)
    (case my_k4 => k_is)
    (case my_a5 => k_is)
    (case my_l5 => k_is)
    (case my_c5 => k_is)
    (case my_k5 => k_is)
    (case my_a6 => k_is)
    (case my_l6 => k_is)
    (case my_c6 => k_is)
    (case my_k6 => k_is)
    (case my_a7 => k_is)
    (case my_l7 => k_is)
    (case my_c7 => k_is)
    (case my_k7 => k_is)
    (case my_a8 => k_is)
    (case my_l8 => k_is)
    (case my_c8 => k_is)
    (case my_k8 => k_is)
    (case my_a9 => k_is)
    (case my_l9 => k_is)
    (case my_c9 => k_is)
    (case my_k9 => k_is)
    (case my_a10 => k_is)
    (case my_l10 => k_is)
    (case my_c10 => k_is)
    (case my_k10 => k_is)
    (case my_a11 => k_is)
    (case my_l11 => k_is)
    (case my_c11 => k_is)
    (case my_k11 => k_is)
    (case my_a12 => k_is)
    (case my_l12 => k_is)
    (case my_c12 => k_is)
    (case my_k12 => k_is)
    (case my_a13 => k_is)
    (case my_l13 => k_is)
    (case my_c13 => k_is)
    (case my_k13 => k_is)
    (case my_z0 => k_is)
    (case my_z1 => k_is)
    (case my_z2 => k_is)
    (case my_z3 => k_is)
    (case my_z4 => k_is)
    (case my_z5 => k_is)
    (case my_z6 => k_is)
